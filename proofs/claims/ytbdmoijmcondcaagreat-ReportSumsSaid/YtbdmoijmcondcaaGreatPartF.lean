/- A part of the proof of ReportSums: an evaluator of the program's code that the kernel runs, its soundness, what the functions compute. -/
import Derived.Test.YtbdmoijmcondcaaGreatPartE
import Derived.Test.YtbdmoijmcondcaaGreatProg
import Derived.WalkKit
import Derived.WalkSmall
import Derived.Tactics
import Derived.Tactics2
import Derived.Deep.LoopGhost
import Derived.Maps.RangeWalk
import Derived.Shelf.SlSortCmp.InsertionK
import Derived.CallsIn
import Derived.Shelf.SlSortCmp.Whole1
import Derived.Shelf.SlSortCmp.NoneTotal
import Derived.Ground.SlsfProg
import Derived.StillTailTactics
import Derived.RangeFuncNested
import Derived.RangeFuncBound
import Derived.RangeFuncCalls
import Derived.RangeFuncLeaves
import Derived.RangeFuncFrom
import Derived.RangeFuncStops
import Derived.Shelf.Abstract
import Derived.Shelf.RegionOpen
import Derived.OwnWalkIn
import Derived.TacticsInMore
import Derived.LoopNIn
import Derived.LoopIn
import Derived.Sort.MapsRangeIn
import Derived.Lib.SlKeysI
import Derived.Maps.OwnRows
import Derived.Maps.AppendAt
import Derived.RangeFuncOne
import Derived.RangeFuncBox
import Derived.RangeFuncWrites
import Derived.Lib.OwnBridge
import Derived.KernelRfl
import Derived.IntWalk
set_option linter.unusedVariables false
set_option linter.unusedSimpArgs false
set_option maxRecDepth 1000000
namespace Go.Proofs.YtbdmoijmcondcaaGreat
open Clk Go.Proofs
noncomputable def tiL:List (Option TI):=[
 none,
 some ⟨1,8,.func,.nilFunc⟩,
 some ⟨1,8,(.int .i64),(.int .i64 0)⟩,
 some ⟨1,8,(.int .i64),(.int .i64 0)⟩,
 some ⟨1,1,.bool,(.bool false)⟩,
 some ⟨1,1,(.int .u8),(.int .u8 0)⟩,
 some ⟨1,1,(.int .u8),(.int .u8 0)⟩,
 some ⟨4,24,(.struct [(0,2),(1,3),(2,4),(3,6)]),(.agg [(.int .i64 0),(.int .i64 0),(.bool false),(.int .u8 0)])⟩,
 some ⟨4,24,(.struct [(0,2),(1,3),(2,4),(3,6)]),(.agg [(.int .i64 0),(.int .i64 0),(.bool false),(.int .u8 0)])⟩,
 some ⟨1,16,.string,(.str ⟨#[]⟩)⟩,
 some ⟨1,16,.string,(.str ⟨#[]⟩)⟩,
 some ⟨1,16,.string,(.str ⟨#[]⟩)⟩,
 some ⟨1,8,(.int .u64),(.int .u64 0)⟩,
 some ⟨2,24,(.struct [(0,9),(1,12)]),(.agg [(.str ⟨#[]⟩),(.int .u64 0)])⟩,
 some ⟨2,24,(.struct [(0,9),(1,12)]),(.agg [(.str ⟨#[]⟩),(.int .u64 0)])⟩,
 some ⟨1,8,(.pointer 192),.nilPtr⟩,
 some ⟨1,8,(.pointer 195),.nilPtr⟩,
 some ⟨1,8,(.pointer 204),.nilPtr⟩,
 some ⟨1,8,(.struct [(0,17)]),(.agg [.nilPtr])⟩,
 some ⟨1,8,(.struct [(0,17)]),(.agg [.nilPtr])⟩,
 some ⟨1,16,.iface,.nilIface⟩,
 some ⟨1,4,(.int .i32),(.int .i32 0)⟩,
 some ⟨1,24,(.slice 23),(.crows [])⟩,
 some ⟨1,24,(.slice 5),(.crows [])⟩,
 some ⟨1,8,.func,.nilFunc⟩,
 some ⟨4,32,(.struct [(0,3),(1,3),(2,3),(3,3)]),(.agg [(.int .i64 0),(.int .i64 0),(.int .i64 0),(.int .i64 0)])⟩,
 some ⟨4,32,(.struct [(0,3),(1,3),(2,3),(3,3)]),(.agg [(.int .i64 0),(.int .i64 0),(.int .i64 0),(.int .i64 0)])⟩,
 some ⟨1,24,(.slice 106),(.crows [])⟩,
 some ⟨4,40,(.struct [(0,27),(1,4),(2,4),(3,3)]),(.agg [(.crows []),(.bool false),(.bool false),(.int .i64 0)])⟩,
 some ⟨4,40,(.struct [(0,27),(1,4),(2,4),(3,3)]),(.agg [(.crows []),(.bool false),(.bool false),(.int .i64 0)])⟩,
 some ⟨1,24,(.slice 3),(.crows [])⟩,
 some ⟨2,48,(.struct [(0,30),(1,30)]),(.agg [(.crows []),(.crows [])])⟩,
 some ⟨2,48,(.struct [(0,30),(1,30)]),(.agg [(.crows []),(.crows [])])⟩,
 some ⟨12,136,(.struct [(0,26),(4,29),(8,32),(10,3),(11,3)]),(.agg [(.int .i64 0),(.int .i64 0),(.int .i64 0),(.int .i64 0),(.crows []),(.bool false),(.bool false),(.int .i64 0),(.crows []),(.crows []),(.int .i64 0),(.int .i64 0)])⟩,
 some ⟨12,136,(.struct [(0,26),(4,29),(8,32),(10,3),(11,3)]),(.agg [(.int .i64 0),(.int .i64 0),(.int .i64 0),(.int .i64 0),(.crows []),(.bool false),(.bool false),(.int .i64 0),(.crows []),(.crows []),(.int .i64 0),(.int .i64 0)])⟩,
 some ⟨1,8,.func,.nilFunc⟩,
 some ⟨1,24,(.slice 30),(.crows [])⟩,
 some ⟨1,8,.func,.nilFunc⟩,
 some ⟨1,24,(.slice 9),(.crows [])⟩,
 some ⟨1,8,.func,.nilFunc⟩,
 some ⟨1,8,.func,.nilFunc⟩,
 some ⟨7,56,(.struct [(0,3),(1,3),(2,3),(3,3),(4,3),(5,3),(6,4)]),(.agg [(.int .i64 0),(.int .i64 0),(.int .i64 0),(.int .i64 0),(.int .i64 0),(.int .i64 0),(.bool false)])⟩,
 some ⟨7,56,(.struct [(0,3),(1,3),(2,3),(3,3),(4,3),(5,3),(6,4)]),(.agg [(.int .i64 0),(.int .i64 0),(.int .i64 0),(.int .i64 0),(.int .i64 0),(.int .i64 0),(.bool false)])⟩,
 some ⟨1,8,.func,.nilFunc⟩,
 some ⟨1,8,(.int .i64),(.int .i64 0)⟩,
 none,
 some ⟨1,8,.func,.nilFunc⟩,
 some ⟨1,8,.func,.nilFunc⟩,
 some ⟨1,24,(.slice 58),(.crows [])⟩,
 some ⟨2,32,(.struct [(0,44),(1,38)]),(.agg [(.int .i64 0),(.crows [])])⟩,
 some ⟨2,32,(.struct [(0,44),(1,38)]),(.agg [(.int .i64 0),(.crows [])])⟩,
 none,
 some ⟨1,8,.func,.nilFunc⟩,
 some ⟨4,48,(.struct [(0,3),(1,3),(2,3),(3,38)]),(.agg [(.int .i64 0),(.int .i64 0),(.int .i64 0),(.crows [])])⟩,
 some ⟨4,48,(.struct [(0,3),(1,3),(2,3),(3,38)]),(.agg [(.int .i64 0),(.int .i64 0),(.int .i64 0),(.crows [])])⟩,
 some ⟨1,8,.func,.nilFunc⟩,
 some ⟨1,8,.func,.nilFunc⟩,
 some ⟨4,48,(.struct [(0,3),(1,9),(2,9),(3,3)]),(.agg [(.int .i64 0),(.str ⟨#[]⟩),(.str ⟨#[]⟩),(.int .i64 0)])⟩,
 some ⟨4,48,(.struct [(0,3),(1,9),(2,9),(3,3)]),(.agg [(.int .i64 0),(.str ⟨#[]⟩),(.str ⟨#[]⟩),(.int .i64 0)])⟩,
 some ⟨1,8,.func,.nilFunc⟩,
 some ⟨4,64,(.struct [(0,3),(1,3),(2,30),(3,30)]),(.agg [(.int .i64 0),(.int .i64 0),(.crows []),(.crows [])])⟩,
 some ⟨4,64,(.struct [(0,3),(1,3),(2,30),(3,30)]),(.agg [(.int .i64 0),(.int .i64 0),(.crows []),(.crows [])])⟩,
 some ⟨5,80,(.struct [(0,9),(1,61)]),(.agg [(.str ⟨#[]⟩),(.int .i64 0),(.int .i64 0),(.crows []),(.crows [])])⟩,
 some ⟨5,80,(.struct [(0,9),(1,61)]),(.agg [(.str ⟨#[]⟩),(.int .i64 0),(.int .i64 0),(.crows []),(.crows [])])⟩,
 none,
 some ⟨1,8,.func,.nilFunc⟩,
 none,
 some ⟨1,8,.func,.nilFunc⟩,
 some ⟨1,8,.func,.nilFunc⟩,
 some ⟨1,8,.map,.nilMap⟩,
 some ⟨1,8,.func,.nilFunc⟩,
 some ⟨1,8,.func,.nilFunc⟩,
 some ⟨1,8,.func,.nilFunc⟩,
 some ⟨1,8,.func,.nilFunc⟩,
 some ⟨1,8,.func,.nilFunc⟩,
 some ⟨1,8,.func,.nilFunc⟩,
 some ⟨1,8,.func,.nilFunc⟩,
 some ⟨1,8,(.pointer 3),.nilPtr⟩,
 some ⟨1,8,.map,.nilMap⟩,
 some ⟨1,8,.func,.nilFunc⟩,
 some ⟨1,8,.func,.nilFunc⟩,
 none,
 some ⟨1,8,.func,.nilFunc⟩,
 some ⟨1,8,.func,.nilFunc⟩,
 some ⟨1,8,.func,.nilFunc⟩,
 some ⟨1,8,.func,.nilFunc⟩,
 none,
 some ⟨1,8,.func,.nilFunc⟩,
 some ⟨1,8,.func,.nilFunc⟩,
 some ⟨1,8,.func,.nilFunc⟩,
 some ⟨1,24,(.slice 26),(.crows [])⟩,
 some ⟨1,8,.func,.nilFunc⟩,
 some ⟨1,8,.func,.nilFunc⟩,
 some ⟨1,8,.func,.nilFunc⟩,
 some ⟨1,8,.func,.nilFunc⟩,
 some ⟨1,8,.func,.nilFunc⟩,
 some ⟨1,8,.func,.nilFunc⟩,
 none,
 some ⟨1,8,.func,.nilFunc⟩,
 some ⟨1,8,.func,.nilFunc⟩,
 some ⟨3,40,(.struct [(0,4),(1,9),(2,9)]),(.agg [(.bool false),(.str ⟨#[]⟩),(.str ⟨#[]⟩)])⟩,
 some ⟨3,40,(.struct [(0,4),(1,9),(2,9)]),(.agg [(.bool false),(.str ⟨#[]⟩),(.str ⟨#[]⟩)])⟩,
 none,
 some ⟨1,8,.func,.nilFunc⟩,
 some ⟨1,24,(.slice 101),(.crows [])⟩,
 some ⟨4,48,(.struct [(0,104),(1,3),(2,3),(3,4)]),(.agg [(.crows []),(.int .i64 0),(.int .i64 0),(.bool false)])⟩,
 some ⟨4,48,(.struct [(0,104),(1,3),(2,3),(3,4)]),(.agg [(.crows []),(.int .i64 0),(.int .i64 0),(.bool false)])⟩,
 some ⟨1,8,.func,.nilFunc⟩,
 some ⟨1,8,.func,.nilFunc⟩,
 some ⟨5,72,(.struct [(0,3),(1,61)]),(.agg [(.int .i64 0),(.int .i64 0),(.int .i64 0),(.crows []),(.crows [])])⟩,
 some ⟨5,72,(.struct [(0,3),(1,61)]),(.agg [(.int .i64 0),(.int .i64 0),(.int .i64 0),(.crows []),(.crows [])])⟩,
 none,
 some ⟨1,8,.func,.nilFunc⟩,
 some ⟨1,8,.func,.nilFunc⟩,
 some ⟨1,8,.func,.nilFunc⟩,
 some ⟨1,8,.func,.nilFunc⟩,
 some ⟨1,8,.func,.nilFunc⟩,
 some ⟨1,8,.func,.nilFunc⟩,
 some ⟨1,8,.func,.nilFunc⟩,
 some ⟨1,8,.func,.nilFunc⟩,
 some ⟨1,8,.func,.nilFunc⟩,
 some ⟨1,8,.func,.nilFunc⟩,
 some ⟨2,16,(.struct [(0,3),(1,3)]),(.agg [(.int .i64 0),(.int .i64 0)])⟩,
 some ⟨2,16,(.struct [(0,3),(1,3)]),(.agg [(.int .i64 0),(.int .i64 0)])⟩,
 some ⟨1,8,.func,.nilFunc⟩,
 none,
 some ⟨1,8,.func,.nilFunc⟩,
 some ⟨1,8,.func,.nilFunc⟩,
 some ⟨1,8,.func,.nilFunc⟩,
 some ⟨1,8,.func,.nilFunc⟩,
 some ⟨1,8,.func,.nilFunc⟩,
 some ⟨1,24,(.slice 63),(.crows [])⟩,
 some ⟨1,8,.func,.nilFunc⟩,
 some ⟨1,8,.func,.nilFunc⟩,
 some ⟨1,8,(.pointer 106),.nilPtr⟩,
 none,
 some ⟨1,8,.func,.nilFunc⟩,
 some ⟨1,8,.func,.nilFunc⟩,
 some ⟨1,8,.func,.nilFunc⟩,
 some ⟨1,8,.func,.nilFunc⟩,
 some ⟨1,8,.func,.nilFunc⟩,
 some ⟨1,8,(.int .u64),(.int .u64 0)⟩,
 some ⟨1,8,.map,.nilMap⟩,
 some ⟨2,48,(.array 2 30),(.agg [(.crows []),(.crows [])])⟩,
 none,
 some ⟨1,8,.func,.nilFunc⟩,
 some ⟨1,8,.func,.nilFunc⟩,
 some ⟨1,8,.func,.nilFunc⟩,
 some ⟨1,8,.func,.nilFunc⟩,
 some ⟨1,24,(.slice 110),(.crows [])⟩,
 some ⟨1,8,.func,.nilFunc⟩,
 some ⟨1,8,.func,.nilFunc⟩,
 some ⟨1,8,.func,.nilFunc⟩,
 some ⟨1,8,.func,.nilFunc⟩,
 some ⟨1,8,.func,.nilFunc⟩,
 some ⟨1,8,.func,.nilFunc⟩,
 some ⟨1,8,.func,.nilFunc⟩,
 some ⟨1,8,.func,.nilFunc⟩,
 some ⟨1,8,.func,.nilFunc⟩,
 some ⟨1,8,(.int .i64),(.int .i64 0)⟩,
 none,
 some ⟨1,8,.func,.nilFunc⟩,
 some ⟨1,8,.func,.nilFunc⟩,
 some ⟨1,8,.func,.nilFunc⟩,
 none,
 some ⟨1,8,.func,.nilFunc⟩,
 some ⟨1,8,.func,.nilFunc⟩,
 some ⟨1,4,(.int .u32),(.int .u32 0)⟩,
 some ⟨1,8,.func,.nilFunc⟩,
 some ⟨1,8,(.int .u64),(.int .u64 0)⟩,
 some ⟨1,8,.func,.nilFunc⟩,
 none,
 some ⟨1,8,.func,.nilFunc⟩,
 some ⟨1,8,.func,.nilFunc⟩,
 some ⟨1,8,.func,.nilFunc⟩,
 some ⟨1,8,.func,.nilFunc⟩,
 some ⟨1,8,(.int .u64),(.int .u64 0)⟩,
 some ⟨1,8,.func,.nilFunc⟩,
 some ⟨1,8,.func,.nilFunc⟩,
 some ⟨1,8,.func,.nilFunc⟩,
 some ⟨1,8,.func,.nilFunc⟩,
 none,
 some ⟨1,8,.func,.nilFunc⟩,
 some ⟨1,8,.func,.nilFunc⟩,
 some ⟨1,8,(.pointer 176),.nilPtr⟩,
 some ⟨1,8,.func,.nilFunc⟩,
 none,
 some ⟨1,8,.func,.nilFunc⟩,
 none,
 some ⟨1,8,.func,.nilFunc⟩,
 some ⟨1,8,.func,.nilFunc⟩,
 some ⟨4,40,(.struct [(0,17),(1,17),(2,17),(3,9)]),(.agg [.nilPtr,.nilPtr,.nilPtr,(.str ⟨#[]⟩)])⟩,
 some ⟨4,40,(.struct [(0,17),(1,17),(2,17),(3,9)]),(.agg [.nilPtr,.nilPtr,.nilPtr,(.str ⟨#[]⟩)])⟩,
 none,
 none,
 none,
 some ⟨1,8,.func,.nilFunc⟩,
 some ⟨1,1,(.int .u8),(.int .u8 0)⟩,
 some ⟨1,1,(.int .u8),(.int .u8 0)⟩,
 some ⟨1,8,.func,.nilFunc⟩,
 some ⟨1,8,(.pointer 5),.nilPtr⟩,
 some ⟨1,4,(.int .i32),(.int .i32 0)⟩,
 some ⟨1,4,(.int .i32),(.int .i32 0)⟩,
 some ⟨11,48,(.struct [(0,12),(1,12),(2,167),(3,197),(4,5),(5,5),(6,198),(7,199),(8,200),(9,201),(10,202)]),(.agg [(.int .u64 0),(.int .u64 0),(.int .u32 0),(.int .u8 0),(.int .u8 0),(.int .u8 0),(.int .u8 0),.nilFunc,.nilPtr,(.int .i32 0),(.int .i32 0)])⟩,
 some ⟨11,48,(.struct [(0,12),(1,12),(2,167),(3,197),(4,5),(5,5),(6,198),(7,199),(8,200),(9,201),(10,202)]),(.agg [(.int .u64 0),(.int .u64 0),(.int .u32 0),(.int .u8 0),(.int .u8 0),(.int .u8 0),(.int .u8 0),.nilFunc,.nilPtr,(.int .i32 0),(.int .i32 0)])⟩,
 none]
noncomputable def zL:List (Option (List SV)):=[
 none,
 some [.nilFunc],
 some [.int .i64 0],
 some [.int .i64 0],
 some [.bool false],
 some [.int .u8 0],
 some [.int .u8 0],
 some [.int .i64 0,.int .i64 0,.bool false,.int .u8 0],
 some [.int .i64 0,.int .i64 0,.bool false,.int .u8 0],
 some [.str []],
 some [.str []],
 some [.str []],
 some [.int .u64 0],
 some [.str [],.int .u64 0],
 some [.str [],.int .u64 0],
 some [.nilPtr],
 some [.nilPtr],
 some [.nilPtr],
 some [.nilPtr],
 some [.nilPtr],
 some [.nilIface],
 some [.int .i32 0],
 some [.lst true (.list (.int .u8)) []],
 some [.lst true (.int .u8) []],
 some [.nilFunc],
 some [.int .i64 0,.int .i64 0,.int .i64 0,.int .i64 0],
 some [.int .i64 0,.int .i64 0,.int .i64 0,.int .i64 0],
 some [.lst true .block []],
 some [.lst true .block [],.bool false,.bool false,.int .i64 0],
 some [.lst true .block [],.bool false,.bool false,.int .i64 0],
 some [.lst true .i []],
 some [.lst true .i [],.lst true .i []],
 some [.lst true .i [],.lst true .i []],
 some [.int .i64 0,.int .i64 0,.int .i64 0,.int .i64 0,.lst true .block [],.bool false,.bool false,.int .i64 0,.lst true .i [],.lst true .i [],.int .i64 0,.int .i64 0],
 some [.int .i64 0,.int .i64 0,.int .i64 0,.int .i64 0,.lst true .block [],.bool false,.bool false,.int .i64 0,.lst true .i [],.lst true .i [],.int .i64 0,.int .i64 0],
 some [.nilFunc],
 some [.lst true (.list .i) []],
 some [.nilFunc],
 some [.lst true .str []],
 some [.nilFunc],
 some [.nilFunc],
 some [.int .i64 0,.int .i64 0,.int .i64 0,.int .i64 0,.int .i64 0,.int .i64 0,.bool false],
 some [.int .i64 0,.int .i64 0,.int .i64 0,.int .i64 0,.int .i64 0,.int .i64 0,.bool false],
 some [.nilFunc],
 some [.int .i64 0],
 none,
 some [.nilFunc],
 some [.nilFunc],
 some [.lst true .fate []],
 some [.int .i64 0,.lst true .str []],
 some [.int .i64 0,.lst true .str []],
 none,
 some [.nilFunc],
 some [.int .i64 0,.int .i64 0,.int .i64 0,.lst true .str []],
 some [.int .i64 0,.int .i64 0,.int .i64 0,.lst true .str []],
 some [.nilFunc],
 some [.nilFunc],
 some [.int .i64 0,.str [],.str [],.int .i64 0],
 some [.int .i64 0,.str [],.str [],.int .i64 0],
 some [.nilFunc],
 some [.int .i64 0,.int .i64 0,.lst true .i [],.lst true .i []],
 some [.int .i64 0,.int .i64 0,.lst true .i [],.lst true .i []],
 some [.str [],.int .i64 0,.int .i64 0,.lst true .i [],.lst true .i []],
 some [.str [],.int .i64 0,.int .i64 0,.lst true .i [],.lst true .i []],
 none,
 some [.nilFunc],
 none,
 some [.nilFunc],
 some [.nilFunc],
 some [.nilMap],
 some [.nilFunc],
 some [.nilFunc],
 some [.nilFunc],
 some [.nilFunc],
 some [.nilFunc],
 some [.nilFunc],
 some [.nilFunc],
 some [.nilPtr],
 some [.nilMap],
 some [.nilFunc],
 some [.nilFunc],
 none,
 some [.nilFunc],
 some [.nilFunc],
 some [.nilFunc],
 some [.nilFunc],
 none,
 some [.nilFunc],
 some [.nilFunc],
 some [.nilFunc],
 some [.lst true .geometry []],
 some [.nilFunc],
 some [.nilFunc],
 some [.nilFunc],
 some [.nilFunc],
 some [.nilFunc],
 some [.nilFunc],
 none,
 some [.nilFunc],
 some [.nilFunc],
 some [.bool false,.str [],.str []],
 some [.bool false,.str [],.str []],
 none,
 some [.nilFunc],
 some [.lst true .page []],
 some [.lst true .page [],.int .i64 0,.int .i64 0,.bool false],
 some [.lst true .page [],.int .i64 0,.int .i64 0,.bool false],
 some [.nilFunc],
 some [.nilFunc],
 some [.int .i64 0,.int .i64 0,.int .i64 0,.lst true .i [],.lst true .i []],
 some [.int .i64 0,.int .i64 0,.int .i64 0,.lst true .i [],.lst true .i []],
 none,
 some [.nilFunc],
 some [.nilFunc],
 some [.nilFunc],
 some [.nilFunc],
 some [.nilFunc],
 some [.nilFunc],
 some [.nilFunc],
 some [.nilFunc],
 some [.nilFunc],
 some [.nilFunc],
 some [.int .i64 0,.int .i64 0],
 some [.int .i64 0,.int .i64 0],
 some [.nilFunc],
 none,
 some [.nilFunc],
 some [.nilFunc],
 some [.nilFunc],
 some [.nilFunc],
 some [.nilFunc],
 some [.lst true .write []],
 some [.nilFunc],
 some [.nilFunc],
 some [.nilPtr],
 none,
 some [.nilFunc],
 some [.nilFunc],
 some [.nilFunc],
 some [.nilFunc],
 some [.nilFunc],
 some [.int .u64 0],
 some [.nilMap],
 some [.lst true .i [],.lst true .i []],
 none,
 some [.nilFunc],
 some [.nilFunc],
 some [.nilFunc],
 some [.nilFunc],
 some [.lst true .found []],
 some [.nilFunc],
 some [.nilFunc],
 some [.nilFunc],
 some [.nilFunc],
 some [.nilFunc],
 some [.nilFunc],
 some [.nilFunc],
 some [.nilFunc],
 some [.nilFunc],
 some [.int .i64 0],
 none,
 some [.nilFunc],
 some [.nilFunc],
 some [.nilFunc],
 none,
 some [.nilFunc],
 some [.nilFunc],
 some [.int .u32 0],
 some [.nilFunc],
 some [.int .u64 0],
 some [.nilFunc],
 none,
 some [.nilFunc],
 some [.nilFunc],
 some [.nilFunc],
 some [.nilFunc],
 some [.int .u64 0],
 some [.nilFunc],
 some [.nilFunc],
 some [.nilFunc],
 some [.nilFunc],
 none,
 some [.nilFunc],
 some [.nilFunc],
 some [.nilPtr],
 some [.nilFunc],
 none,
 some [.nilFunc],
 none,
 some [.nilFunc],
 some [.nilFunc],
 some [.nilPtr,.nilPtr,.nilPtr,.str []],
 some [.nilPtr,.nilPtr,.nilPtr,.str []],
 none,
 none,
 none,
 some [.nilFunc],
 some [.int .u8 0],
 some [.int .u8 0],
 some [.nilFunc],
 some [.nilPtr],
 some [.int .i32 0],
 some [.int .i32 0],
 some [.int .u64 0,.int .u64 0,.int .u32 0,.int .u8 0,.int .u8 0,.int .u8 0,.int .u8 0,.nilFunc,.nilPtr,.int .i32 0,.int .i32 0],
 some [.int .u64 0,.int .u64 0,.int .u32 0,.int .u8 0,.int .u8 0,.int .u8 0,.int .u8 0,.nilFunc,.nilPtr,.int .i32 0,.int .i32 0],
 none]
noncomputable def ecL:List (Option TC):=[
 none,
 none,
 some .i,
 some .i,
 some .bool,
 some (.int .u8),
 some (.int .u8),
 none,
 none,
 some .str,
 some .str,
 some .str,
 some (.int .u64),
 none,
 none,
 none,
 none,
 none,
 none,
 none,
 none,
 some (.int .i32),
 some (.list (.list (.int .u8))),
 some (.list (.int .u8)),
 none,
 none,
 some .geometry,
 some (.list .block),
 none,
 some .chip,
 some (.list .i),
 none,
 some .table,
 none,
 some .device,
 none,
 some (.list (.list .i)),
 none,
 some (.list .str),
 none,
 none,
 none,
 some .report,
 none,
 some .i,
 none,
 none,
 none,
 some (.list .fate),
 none,
 some .answer,
 none,
 none,
 none,
 some .command,
 none,
 none,
 none,
 some .fate,
 none,
 none,
 some .record,
 none,
 some .write,
 none,
 none,
 none,
 none,
 none,
 none,
 none,
 none,
 none,
 none,
 none,
 none,
 none,
 none,
 none,
 none,
 none,
 none,
 none,
 none,
 none,
 none,
 none,
 none,
 none,
 none,
 some (.list .geometry),
 none,
 none,
 none,
 none,
 none,
 none,
 none,
 none,
 none,
 none,
 some .page,
 none,
 none,
 some (.list .page),
 none,
 some .block,
 none,
 none,
 none,
 some .found,
 none,
 none,
 none,
 none,
 none,
 none,
 none,
 none,
 none,
 none,
 none,
 none,
 some .rank,
 none,
 none,
 none,
 none,
 none,
 none,
 none,
 some (.list .write),
 none,
 none,
 none,
 none,
 none,
 none,
 none,
 none,
 none,
 some (.int .u64),
 none,
 none,
 none,
 none,
 none,
 none,
 none,
 some (.list .found),
 none,
 none,
 none,
 none,
 none,
 none,
 none,
 none,
 none,
 some .i,
 none,
 none,
 none,
 none,
 none,
 none,
 none,
 some (.int .u32),
 none,
 some (.int .u64),
 none,
 none,
 none,
 none,
 none,
 none,
 some (.int .u64),
 none,
 none,
 none,
 none,
 none,
 none,
 none,
 none,
 none,
 none,
 none,
 none,
 none,
 none,
 none,
 none,
 none,
 none,
 none,
 none,
 some (.int .u8),
 some (.int .u8),
 none,
 none,
 some (.int .i32),
 some (.int .i32),
 none,
 none,
 none]
noncomputable def eqL:List Bool:=[false,false,false,false,false,false,false,true,true,false,false,false,false,false,false,false,false,false,false,false,false,false,false,false,false,true,true,false,true,true,false,true,true,true,true,false,false,false,false,false,false,true,true,false,false,false,false,false,false,true,true,false,false,true,true,false,false,true,true,false,true,true,true,true,false,false,false,false,false,false,false,false,false,false,false,false,false,false,false,false,false,false,false,false,false,false,false,false,false,false,false,false,false,false,false,false,false,false,false,false,true,true,false,false,false,true,true,false,false,true,true,false,false,false,false,false,false,false,false,false,false,false,true,true,false,false,false,false,false,false,false,false,false,false,false,false,false,false,false,false,false,false,false,false,true,false,false,false,false,false,false,false,false,false,false,false,false,false,false,false,false,false,false,false,false,false,false,false,false,false,false,false,false,false,false,false,false,false,false,false,false,false,false,false,false,false,false,false,false,false,false,false,false,false,false,false,false,false,false,false,false,false,false,false,false,false]
noncomputable def fnL:List (Option Go.Func):=[none,none,none,some Tryz.f3,some Tryz.f4,some Tryz.f5,some Tryz.f6,some Tryz.f7,some Tryz.f8,some Tryz.f9,some Tryz.f10,some Tryz.f11,some Tryz.f12,some Tryz.f13,some Tryz.f14,some Tryz.f15,some Tryz.f16,some Tryz.f17,some Tryz.f18,some Tryz.f19,some Tryz.f20,some Tryz.f21,some Tryz.f22,some Tryz.f23,some Tryz.f24,some Tryz.f25,some Tryz.f26,some Tryz.f27,some Tryz.f28,some Tryz.f29,some Tryz.f30,some Tryz.f31,some Tryz.f32,some Tryz.f33,some Tryz.f34,some Tryz.f35,some Tryz.f36,some Tryz.f37,some Tryz.f38,some Tryz.f39,some Tryz.f40,some Tryz.f41,some Tryz.f42,some Tryz.f43,some Tryz.f44,some Tryz.f45,some Tryz.f46,some Tryz.f47,some Tryz.f48,some Tryz.f49,some Tryz.f50,some Tryz.f51,some Tryz.f52,some Tryz.f53,some Tryz.f54,some Tryz.f55,some Tryz.f56,some Tryz.f57,some Tryz.f58,some Tryz.f59,some Tryz.f60,some Tryz.f61,some Tryz.f62,some Tryz.f63,some Tryz.f64,some Tryz.f65,some Tryz.f66,some Tryz.f67,some Tryz.f68,some Tryz.f69,some Tryz.f70,some Tryz.f71,some Tryz.f72,some Tryz.f73,some Tryz.f74,some Tryz.f75,some Tryz.f76,some Tryz.f77,some Tryz.f78,some Tryz.f79,some Tryz.f80,some Tryz.f81,some Tryz.f82,some Tryz.f83,some Tryz.f84,some Tryz.f85,some Tryz.f86,some Tryz.f87,some Tryz.f88,some Tryz.f89,some Tryz.f90,some Tryz.f91,some Tryz.f92,some Tryz.f93,some Tryz.f94,some Tryz.f95,some Tryz.f96,some Tryz.f97,some Tryz.f98,some Tryz.f99,some Tryz.f100,some Tryz.f101,some Tryz.f102,some Tryz.f103,some Tryz.f104,some Tryz.f105,some Tryz.f106,some Tryz.f107,some Tryz.f108,some Tryz.f109,some Tryz.f110,some Tryz.f111,some Tryz.f112,some Tryz.f113,some Tryz.f114,some Tryz.f115,some Tryz.f116,some Tryz.f117,some Tryz.f118,some Tryz.f119,some Tryz.f120,some Tryz.f121,some Tryz.f122,none,none,none,none,none,none,none,none,none,none,none,none,none,none,none,none]
noncomputable def inlL:List Bool:=[false,false,false,false,false,false,false,false,false,false,false,false,false,false,true,false,false,false,false,false,false,true,true,true,false,false,false,false,false,false,false,false,false,false,false,false,false,false,false,false,false,false,false,false,false,false,false,false,false,false,false,false,false,true,true,true,false,false,true,false,false,false,false,false,false,false,false,false,false,false,false,false,true,false,false,false,true,true,false,true,false,true,true,false,false,false,false,false,false,false,false,false,false,false,false,false,true,true,true,true,true,true,true,true,false,false,true,false,false,false,false,false,true,false,false,true,true,false,false,false,true,false,false,false,false,false,false,false,false,false,false,false,false,false,false,false,false,false,false]
noncomputable def clL:List (Option (TC×Nat)):=[none,none,none,none,none,none,none,none,none,none,none,none,none,none,none,none,none,none,none,none,none,none,none,none,none,none,none,none,none,none,none,none,none,none,none,none,none,none,none,none,none,none,none,none,none,none,none,none,none,none,none,none,none,none,none,none,none,none,none,none,none,none,none,none,none,none,none,none,none,none,none,none,none,none,none,none,none,none,none,none,none,none,none,none,none,none,none,none,none,none,none,none,none,none,none,none,none,none,none,none,none,none,none,none,none,none,none,none,none,none,none,none,none,none,none,none,none,none,none,none,none,none,none,none,none,none,none,none,none,none,none,none,none,none,none,none,none,none,none]
noncomputable def z11:Seat:=⟨tiL,zL,ecL,eqL,fnL,inlL,clL,[1008129,18129009,1023099,33099016]⟩
theorem z0bx:z11.Ok Tryz.prog where
 ti:=by kernel_rfl
 zero:=by kernel_rfl
 zs:=by kernel_rfl
 ec:=by kernel_rfl
 eci:=by kernel_rfl
 flds:=by kernel_rfl
 eq:=by kernel_rfl
 fn:=by kernel_rfl
theorem zt:SeatOk Tryz.prog z11.inlF z11.prim z11.mk':=z0bx.seatOk
end Go.Proofs.YtbdmoijmcondcaaGreat
namespace Go.Proofs.YtbdmoijmcondcaaGreat
open Go Go.Proofs Clk
theorem ti0:ti Tryz.prog 0=some ⟨1,0,.other,(.tup [])⟩:=by kernel_rfl
theorem ti1:ti Tryz.prog 1=some ⟨1,8,.func,.nilFunc⟩:=by kernel_rfl
theorem ti2:ti Tryz.prog 2=some ⟨1,8,(.int .i64),(.int .i64 0)⟩:=by kernel_rfl
theorem ti3:ti Tryz.prog 3=some ⟨1,8,(.int .i64),(.int .i64 0)⟩:=by kernel_rfl
theorem ti4:ti Tryz.prog 4=some ⟨1,1,.bool,(.bool false)⟩:=by kernel_rfl
theorem ti5:ti Tryz.prog 5=some ⟨1,1,(.int .u8),(.int .u8 0)⟩:=by kernel_rfl
theorem ti6:ti Tryz.prog 6=some ⟨1,1,(.int .u8),(.int .u8 0)⟩:=by kernel_rfl
theorem ti7:ti Tryz.prog 7=some ⟨4,24,(.struct [(0,2),(1,3),(2,4),(3,6)]),(.agg [(.int .i64 0),(.int .i64 0),(.bool false),(.int .u8 0)])⟩:=by kernel_rfl
theorem ti8:ti Tryz.prog 8=some ⟨4,24,(.struct [(0,2),(1,3),(2,4),(3,6)]),(.agg [(.int .i64 0),(.int .i64 0),(.bool false),(.int .u8 0)])⟩:=by kernel_rfl
theorem ti9:ti Tryz.prog 9=some ⟨1,16,.string,(.str ⟨#[]⟩)⟩:=by kernel_rfl
theorem ti10:ti Tryz.prog 10=some ⟨1,16,.string,(.str ⟨#[]⟩)⟩:=by kernel_rfl
theorem ti11:ti Tryz.prog 11=some ⟨1,16,.string,(.str ⟨#[]⟩)⟩:=by kernel_rfl
theorem ti12:ti Tryz.prog 12=some ⟨1,8,(.int .u64),(.int .u64 0)⟩:=by kernel_rfl
theorem ti13:ti Tryz.prog 13=some ⟨2,24,(.struct [(0,9),(1,12)]),(.agg [(.str ⟨#[]⟩),(.int .u64 0)])⟩:=by kernel_rfl
theorem ti14:ti Tryz.prog 14=some ⟨2,24,(.struct [(0,9),(1,12)]),(.agg [(.str ⟨#[]⟩),(.int .u64 0)])⟩:=by kernel_rfl
theorem ti15:ti Tryz.prog 15=some ⟨1,8,(.pointer 192),.nilPtr⟩:=by kernel_rfl
theorem ti16:ti Tryz.prog 16=some ⟨1,8,(.pointer 195),.nilPtr⟩:=by kernel_rfl
theorem ti17:ti Tryz.prog 17=some ⟨1,8,(.pointer 204),.nilPtr⟩:=by kernel_rfl
theorem ti18:ti Tryz.prog 18=some ⟨1,8,(.struct [(0,17)]),(.agg [.nilPtr])⟩:=by kernel_rfl
theorem ti19:ti Tryz.prog 19=some ⟨1,8,(.struct [(0,17)]),(.agg [.nilPtr])⟩:=by kernel_rfl
theorem ti20:ti Tryz.prog 20=some ⟨1,16,.iface,.nilIface⟩:=by kernel_rfl
theorem ti21:ti Tryz.prog 21=some ⟨1,4,(.int .i32),(.int .i32 0)⟩:=by kernel_rfl
theorem ti22:ti Tryz.prog 22=some ⟨1,24,(.slice 23),(.crows [])⟩:=by kernel_rfl
theorem ti23:ti Tryz.prog 23=some ⟨1,24,(.slice 5),(.crows [])⟩:=by kernel_rfl
theorem ti24:ti Tryz.prog 24=some ⟨1,8,.func,.nilFunc⟩:=by kernel_rfl
theorem ti25:ti Tryz.prog 25=some ⟨4,32,(.struct [(0,3),(1,3),(2,3),(3,3)]),(.agg [(.int .i64 0),(.int .i64 0),(.int .i64 0),(.int .i64 0)])⟩:=by kernel_rfl
theorem ti26:ti Tryz.prog 26=some ⟨4,32,(.struct [(0,3),(1,3),(2,3),(3,3)]),(.agg [(.int .i64 0),(.int .i64 0),(.int .i64 0),(.int .i64 0)])⟩:=by kernel_rfl
theorem ti27:ti Tryz.prog 27=some ⟨1,24,(.slice 106),(.crows [])⟩:=by kernel_rfl
theorem ti28:ti Tryz.prog 28=some ⟨4,40,(.struct [(0,27),(1,4),(2,4),(3,3)]),(.agg [(.crows []),(.bool false),(.bool false),(.int .i64 0)])⟩:=by kernel_rfl
theorem ti29:ti Tryz.prog 29=some ⟨4,40,(.struct [(0,27),(1,4),(2,4),(3,3)]),(.agg [(.crows []),(.bool false),(.bool false),(.int .i64 0)])⟩:=by kernel_rfl
theorem ti30:ti Tryz.prog 30=some ⟨1,24,(.slice 3),(.crows [])⟩:=by kernel_rfl
theorem ti31:ti Tryz.prog 31=some ⟨2,48,(.struct [(0,30),(1,30)]),(.agg [(.crows []),(.crows [])])⟩:=by kernel_rfl
theorem ti32:ti Tryz.prog 32=some ⟨2,48,(.struct [(0,30),(1,30)]),(.agg [(.crows []),(.crows [])])⟩:=by kernel_rfl
theorem ti33:ti Tryz.prog 33=some ⟨12,136,(.struct [(0,26),(4,29),(8,32),(10,3),(11,3)]),(.agg [(.int .i64 0),(.int .i64 0),(.int .i64 0),(.int .i64 0),(.crows []),(.bool false),(.bool false),(.int .i64 0),(.crows []),(.crows []),(.int .i64 0),(.int .i64 0)])⟩:=by kernel_rfl
theorem ti34:ti Tryz.prog 34=some ⟨12,136,(.struct [(0,26),(4,29),(8,32),(10,3),(11,3)]),(.agg [(.int .i64 0),(.int .i64 0),(.int .i64 0),(.int .i64 0),(.crows []),(.bool false),(.bool false),(.int .i64 0),(.crows []),(.crows []),(.int .i64 0),(.int .i64 0)])⟩:=by kernel_rfl
theorem ti35:ti Tryz.prog 35=some ⟨1,8,.func,.nilFunc⟩:=by kernel_rfl
theorem ti36:ti Tryz.prog 36=some ⟨1,24,(.slice 30),(.crows [])⟩:=by kernel_rfl
theorem ti37:ti Tryz.prog 37=some ⟨1,8,.func,.nilFunc⟩:=by kernel_rfl
theorem ti38:ti Tryz.prog 38=some ⟨1,24,(.slice 9),(.crows [])⟩:=by kernel_rfl
theorem ti39:ti Tryz.prog 39=some ⟨1,8,.func,.nilFunc⟩:=by kernel_rfl
theorem ti40:ti Tryz.prog 40=some ⟨1,8,.func,.nilFunc⟩:=by kernel_rfl
theorem ti41:ti Tryz.prog 41=some ⟨7,56,(.struct [(0,3),(1,3),(2,3),(3,3),(4,3),(5,3),(6,4)]),(.agg [(.int .i64 0),(.int .i64 0),(.int .i64 0),(.int .i64 0),(.int .i64 0),(.int .i64 0),(.bool false)])⟩:=by kernel_rfl
theorem ti42:ti Tryz.prog 42=some ⟨7,56,(.struct [(0,3),(1,3),(2,3),(3,3),(4,3),(5,3),(6,4)]),(.agg [(.int .i64 0),(.int .i64 0),(.int .i64 0),(.int .i64 0),(.int .i64 0),(.int .i64 0),(.bool false)])⟩:=by kernel_rfl
theorem ti43:ti Tryz.prog 43=some ⟨1,8,.func,.nilFunc⟩:=by kernel_rfl
theorem ti44:ti Tryz.prog 44=some ⟨1,8,(.int .i64),(.int .i64 0)⟩:=by kernel_rfl
theorem ti45:ti Tryz.prog 45=some ⟨1,0,.other,.undef⟩:=by kernel_rfl
theorem ti46:ti Tryz.prog 46=some ⟨1,8,.func,.nilFunc⟩:=by kernel_rfl
theorem ti47:ti Tryz.prog 47=some ⟨1,8,.func,.nilFunc⟩:=by kernel_rfl
theorem ti48:ti Tryz.prog 48=some ⟨1,24,(.slice 58),(.crows [])⟩:=by kernel_rfl
theorem ti49:ti Tryz.prog 49=some ⟨2,32,(.struct [(0,44),(1,38)]),(.agg [(.int .i64 0),(.crows [])])⟩:=by kernel_rfl
theorem ti50:ti Tryz.prog 50=some ⟨2,32,(.struct [(0,44),(1,38)]),(.agg [(.int .i64 0),(.crows [])])⟩:=by kernel_rfl
theorem ti51:ti Tryz.prog 51=some ⟨1,0,.other,.undef⟩:=by kernel_rfl
theorem ti52:ti Tryz.prog 52=some ⟨1,8,.func,.nilFunc⟩:=by kernel_rfl
theorem ti53:ti Tryz.prog 53=some ⟨4,48,(.struct [(0,3),(1,3),(2,3),(3,38)]),(.agg [(.int .i64 0),(.int .i64 0),(.int .i64 0),(.crows [])])⟩:=by kernel_rfl
theorem ti54:ti Tryz.prog 54=some ⟨4,48,(.struct [(0,3),(1,3),(2,3),(3,38)]),(.agg [(.int .i64 0),(.int .i64 0),(.int .i64 0),(.crows [])])⟩:=by kernel_rfl
theorem ti55:ti Tryz.prog 55=some ⟨1,8,.func,.nilFunc⟩:=by kernel_rfl
theorem ti56:ti Tryz.prog 56=some ⟨1,8,.func,.nilFunc⟩:=by kernel_rfl
theorem ti57:ti Tryz.prog 57=some ⟨4,48,(.struct [(0,3),(1,9),(2,9),(3,3)]),(.agg [(.int .i64 0),(.str ⟨#[]⟩),(.str ⟨#[]⟩),(.int .i64 0)])⟩:=by kernel_rfl
theorem ti58:ti Tryz.prog 58=some ⟨4,48,(.struct [(0,3),(1,9),(2,9),(3,3)]),(.agg [(.int .i64 0),(.str ⟨#[]⟩),(.str ⟨#[]⟩),(.int .i64 0)])⟩:=by kernel_rfl
theorem ti59:ti Tryz.prog 59=some ⟨1,8,.func,.nilFunc⟩:=by kernel_rfl
theorem ti60:ti Tryz.prog 60=some ⟨4,64,(.struct [(0,3),(1,3),(2,30),(3,30)]),(.agg [(.int .i64 0),(.int .i64 0),(.crows []),(.crows [])])⟩:=by kernel_rfl
theorem ti61:ti Tryz.prog 61=some ⟨4,64,(.struct [(0,3),(1,3),(2,30),(3,30)]),(.agg [(.int .i64 0),(.int .i64 0),(.crows []),(.crows [])])⟩:=by kernel_rfl
theorem ti62:ti Tryz.prog 62=some ⟨5,80,(.struct [(0,9),(1,61)]),(.agg [(.str ⟨#[]⟩),(.int .i64 0),(.int .i64 0),(.crows []),(.crows [])])⟩:=by kernel_rfl
theorem ti63:ti Tryz.prog 63=some ⟨5,80,(.struct [(0,9),(1,61)]),(.agg [(.str ⟨#[]⟩),(.int .i64 0),(.int .i64 0),(.crows []),(.crows [])])⟩:=by kernel_rfl
theorem ti64:ti Tryz.prog 64=some ⟨1,0,.other,.undef⟩:=by kernel_rfl
theorem ti65:ti Tryz.prog 65=some ⟨1,8,.func,.nilFunc⟩:=by kernel_rfl
theorem ti66:ti Tryz.prog 66=some ⟨1,0,.other,.undef⟩:=by kernel_rfl
theorem ti67:ti Tryz.prog 67=some ⟨1,8,.func,.nilFunc⟩:=by kernel_rfl
theorem ti68:ti Tryz.prog 68=some ⟨1,8,.func,.nilFunc⟩:=by kernel_rfl
theorem ti69:ti Tryz.prog 69=some ⟨1,8,.map,.nilMap⟩:=by kernel_rfl
theorem ti70:ti Tryz.prog 70=some ⟨1,8,.func,.nilFunc⟩:=by kernel_rfl
theorem ti71:ti Tryz.prog 71=some ⟨1,8,.func,.nilFunc⟩:=by kernel_rfl
theorem ti72:ti Tryz.prog 72=some ⟨1,8,.func,.nilFunc⟩:=by kernel_rfl
theorem ti73:ti Tryz.prog 73=some ⟨1,8,.func,.nilFunc⟩:=by kernel_rfl
theorem ti74:ti Tryz.prog 74=some ⟨1,8,.func,.nilFunc⟩:=by kernel_rfl
theorem ti75:ti Tryz.prog 75=some ⟨1,8,.func,.nilFunc⟩:=by kernel_rfl
theorem ti76:ti Tryz.prog 76=some ⟨1,8,.func,.nilFunc⟩:=by kernel_rfl
theorem ti77:ti Tryz.prog 77=some ⟨1,8,(.pointer 3),.nilPtr⟩:=by kernel_rfl
theorem ti78:ti Tryz.prog 78=some ⟨1,8,.map,.nilMap⟩:=by kernel_rfl
theorem ti79:ti Tryz.prog 79=some ⟨1,8,.func,.nilFunc⟩:=by kernel_rfl
theorem ti80:ti Tryz.prog 80=some ⟨1,8,.func,.nilFunc⟩:=by kernel_rfl
theorem ti81:ti Tryz.prog 81=some ⟨1,0,.other,.undef⟩:=by kernel_rfl
theorem ti82:ti Tryz.prog 82=some ⟨1,8,.func,.nilFunc⟩:=by kernel_rfl
theorem ti83:ti Tryz.prog 83=some ⟨1,8,.func,.nilFunc⟩:=by kernel_rfl
theorem ti84:ti Tryz.prog 84=some ⟨1,8,.func,.nilFunc⟩:=by kernel_rfl
theorem ti85:ti Tryz.prog 85=some ⟨1,8,.func,.nilFunc⟩:=by kernel_rfl
theorem ti86:ti Tryz.prog 86=some ⟨1,0,.other,.undef⟩:=by kernel_rfl
theorem ti87:ti Tryz.prog 87=some ⟨1,8,.func,.nilFunc⟩:=by kernel_rfl
theorem ti88:ti Tryz.prog 88=some ⟨1,8,.func,.nilFunc⟩:=by kernel_rfl
theorem ti89:ti Tryz.prog 89=some ⟨1,8,.func,.nilFunc⟩:=by kernel_rfl
theorem ti90:ti Tryz.prog 90=some ⟨1,24,(.slice 26),(.crows [])⟩:=by kernel_rfl
theorem ti91:ti Tryz.prog 91=some ⟨1,8,.func,.nilFunc⟩:=by kernel_rfl
theorem ti92:ti Tryz.prog 92=some ⟨1,8,.func,.nilFunc⟩:=by kernel_rfl
theorem ti93:ti Tryz.prog 93=some ⟨1,8,.func,.nilFunc⟩:=by kernel_rfl
theorem ti94:ti Tryz.prog 94=some ⟨1,8,.func,.nilFunc⟩:=by kernel_rfl
theorem ti95:ti Tryz.prog 95=some ⟨1,8,.func,.nilFunc⟩:=by kernel_rfl
theorem ti96:ti Tryz.prog 96=some ⟨1,8,.func,.nilFunc⟩:=by kernel_rfl
theorem ti97:ti Tryz.prog 97=some ⟨1,0,.other,.undef⟩:=by kernel_rfl
theorem ti98:ti Tryz.prog 98=some ⟨1,8,.func,.nilFunc⟩:=by kernel_rfl
theorem ti99:ti Tryz.prog 99=some ⟨1,8,.func,.nilFunc⟩:=by kernel_rfl
theorem ti100:ti Tryz.prog 100=some ⟨3,40,(.struct [(0,4),(1,9),(2,9)]),(.agg [(.bool false),(.str ⟨#[]⟩),(.str ⟨#[]⟩)])⟩:=by kernel_rfl
theorem ti101:ti Tryz.prog 101=some ⟨3,40,(.struct [(0,4),(1,9),(2,9)]),(.agg [(.bool false),(.str ⟨#[]⟩),(.str ⟨#[]⟩)])⟩:=by kernel_rfl
theorem ti102:ti Tryz.prog 102=some ⟨1,0,.other,.undef⟩:=by kernel_rfl
theorem ti103:ti Tryz.prog 103=some ⟨1,8,.func,.nilFunc⟩:=by kernel_rfl
theorem ti104:ti Tryz.prog 104=some ⟨1,24,(.slice 101),(.crows [])⟩:=by kernel_rfl
theorem ti105:ti Tryz.prog 105=some ⟨4,48,(.struct [(0,104),(1,3),(2,3),(3,4)]),(.agg [(.crows []),(.int .i64 0),(.int .i64 0),(.bool false)])⟩:=by kernel_rfl
theorem ti106:ti Tryz.prog 106=some ⟨4,48,(.struct [(0,104),(1,3),(2,3),(3,4)]),(.agg [(.crows []),(.int .i64 0),(.int .i64 0),(.bool false)])⟩:=by kernel_rfl
theorem ti107:ti Tryz.prog 107=some ⟨1,8,.func,.nilFunc⟩:=by kernel_rfl
theorem ti108:ti Tryz.prog 108=some ⟨1,8,.func,.nilFunc⟩:=by kernel_rfl
theorem ti109:ti Tryz.prog 109=some ⟨5,72,(.struct [(0,3),(1,61)]),(.agg [(.int .i64 0),(.int .i64 0),(.int .i64 0),(.crows []),(.crows [])])⟩:=by kernel_rfl
theorem ti110:ti Tryz.prog 110=some ⟨5,72,(.struct [(0,3),(1,61)]),(.agg [(.int .i64 0),(.int .i64 0),(.int .i64 0),(.crows []),(.crows [])])⟩:=by kernel_rfl
theorem ti111:ti Tryz.prog 111=some ⟨1,0,.other,.undef⟩:=by kernel_rfl
theorem ti112:ti Tryz.prog 112=some ⟨1,8,.func,.nilFunc⟩:=by kernel_rfl
theorem ti113:ti Tryz.prog 113=some ⟨1,8,.func,.nilFunc⟩:=by kernel_rfl
theorem ti114:ti Tryz.prog 114=some ⟨1,8,.func,.nilFunc⟩:=by kernel_rfl
theorem ti115:ti Tryz.prog 115=some ⟨1,8,.func,.nilFunc⟩:=by kernel_rfl
theorem ti116:ti Tryz.prog 116=some ⟨1,8,.func,.nilFunc⟩:=by kernel_rfl
theorem ti117:ti Tryz.prog 117=some ⟨1,8,.func,.nilFunc⟩:=by kernel_rfl
theorem ti118:ti Tryz.prog 118=some ⟨1,8,.func,.nilFunc⟩:=by kernel_rfl
theorem ti119:ti Tryz.prog 119=some ⟨1,8,.func,.nilFunc⟩:=by kernel_rfl
theorem ti120:ti Tryz.prog 120=some ⟨1,8,.func,.nilFunc⟩:=by kernel_rfl
theorem ti121:ti Tryz.prog 121=some ⟨1,8,.func,.nilFunc⟩:=by kernel_rfl
theorem ti122:ti Tryz.prog 122=some ⟨2,16,(.struct [(0,3),(1,3)]),(.agg [(.int .i64 0),(.int .i64 0)])⟩:=by kernel_rfl
theorem ti123:ti Tryz.prog 123=some ⟨2,16,(.struct [(0,3),(1,3)]),(.agg [(.int .i64 0),(.int .i64 0)])⟩:=by kernel_rfl
theorem ti124:ti Tryz.prog 124=some ⟨1,8,.func,.nilFunc⟩:=by kernel_rfl
theorem ti125:ti Tryz.prog 125=some ⟨1,0,.other,.undef⟩:=by kernel_rfl
theorem ti126:ti Tryz.prog 126=some ⟨1,8,.func,.nilFunc⟩:=by kernel_rfl
theorem ti127:ti Tryz.prog 127=some ⟨1,8,.func,.nilFunc⟩:=by kernel_rfl
theorem ti128:ti Tryz.prog 128=some ⟨1,8,.func,.nilFunc⟩:=by kernel_rfl
theorem ti129:ti Tryz.prog 129=some ⟨1,8,.func,.nilFunc⟩:=by kernel_rfl
theorem ti130:ti Tryz.prog 130=some ⟨1,8,.func,.nilFunc⟩:=by kernel_rfl
theorem ti131:ti Tryz.prog 131=some ⟨1,24,(.slice 63),(.crows [])⟩:=by kernel_rfl
theorem ti132:ti Tryz.prog 132=some ⟨1,8,.func,.nilFunc⟩:=by kernel_rfl
theorem ti133:ti Tryz.prog 133=some ⟨1,8,.func,.nilFunc⟩:=by kernel_rfl
theorem ti134:ti Tryz.prog 134=some ⟨1,8,(.pointer 106),.nilPtr⟩:=by kernel_rfl
theorem ti135:ti Tryz.prog 135=some ⟨1,0,.other,.undef⟩:=by kernel_rfl
theorem ti136:ti Tryz.prog 136=some ⟨1,8,.func,.nilFunc⟩:=by kernel_rfl
theorem ti137:ti Tryz.prog 137=some ⟨1,8,.func,.nilFunc⟩:=by kernel_rfl
theorem ti138:ti Tryz.prog 138=some ⟨1,8,.func,.nilFunc⟩:=by kernel_rfl
theorem ti139:ti Tryz.prog 139=some ⟨1,8,.func,.nilFunc⟩:=by kernel_rfl
theorem ti140:ti Tryz.prog 140=some ⟨1,8,.func,.nilFunc⟩:=by kernel_rfl
theorem ti141:ti Tryz.prog 141=some ⟨1,8,(.int .u64),(.int .u64 0)⟩:=by kernel_rfl
theorem ti142:ti Tryz.prog 142=some ⟨1,8,.map,.nilMap⟩:=by kernel_rfl
theorem ti143:ti Tryz.prog 143=some ⟨2,48,(.array 2 30),(.agg [(.crows []),(.crows [])])⟩:=by kernel_rfl
theorem ti144:ti Tryz.prog 144=some ⟨0,0,(.struct []),(.agg [])⟩:=by kernel_rfl
theorem ti145:ti Tryz.prog 145=some ⟨1,8,.func,.nilFunc⟩:=by kernel_rfl
theorem ti146:ti Tryz.prog 146=some ⟨1,8,.func,.nilFunc⟩:=by kernel_rfl
theorem ti147:ti Tryz.prog 147=some ⟨1,8,.func,.nilFunc⟩:=by kernel_rfl
theorem ti148:ti Tryz.prog 148=some ⟨1,8,.func,.nilFunc⟩:=by kernel_rfl
theorem ti149:ti Tryz.prog 149=some ⟨1,24,(.slice 110),(.crows [])⟩:=by kernel_rfl
theorem ti150:ti Tryz.prog 150=some ⟨1,8,.func,.nilFunc⟩:=by kernel_rfl
theorem ti151:ti Tryz.prog 151=some ⟨1,8,.func,.nilFunc⟩:=by kernel_rfl
theorem ti152:ti Tryz.prog 152=some ⟨1,8,.func,.nilFunc⟩:=by kernel_rfl
theorem ti153:ti Tryz.prog 153=some ⟨1,8,.func,.nilFunc⟩:=by kernel_rfl
theorem ti154:ti Tryz.prog 154=some ⟨1,8,.func,.nilFunc⟩:=by kernel_rfl
theorem ti155:ti Tryz.prog 155=some ⟨1,8,.func,.nilFunc⟩:=by kernel_rfl
theorem ti156:ti Tryz.prog 156=some ⟨1,8,.func,.nilFunc⟩:=by kernel_rfl
theorem ti157:ti Tryz.prog 157=some ⟨1,8,.func,.nilFunc⟩:=by kernel_rfl
theorem ti158:ti Tryz.prog 158=some ⟨1,8,.func,.nilFunc⟩:=by kernel_rfl
theorem ti159:ti Tryz.prog 159=some ⟨1,8,(.int .i64),(.int .i64 0)⟩:=by kernel_rfl
theorem ti160:ti Tryz.prog 160=some ⟨1,0,.other,.undef⟩:=by kernel_rfl
theorem ti161:ti Tryz.prog 161=some ⟨1,8,.func,.nilFunc⟩:=by kernel_rfl
theorem ti162:ti Tryz.prog 162=some ⟨1,8,.func,.nilFunc⟩:=by kernel_rfl
theorem ti163:ti Tryz.prog 163=some ⟨1,8,.func,.nilFunc⟩:=by kernel_rfl
theorem ti164:ti Tryz.prog 164=some ⟨1,0,.other,.undef⟩:=by kernel_rfl
theorem ti165:ti Tryz.prog 165=some ⟨1,8,.func,.nilFunc⟩:=by kernel_rfl
theorem ti166:ti Tryz.prog 166=some ⟨1,8,.func,.nilFunc⟩:=by kernel_rfl
theorem ti167:ti Tryz.prog 167=some ⟨1,4,(.int .u32),(.int .u32 0)⟩:=by kernel_rfl
theorem ti168:ti Tryz.prog 168=some ⟨1,8,.func,.nilFunc⟩:=by kernel_rfl
theorem ti169:ti Tryz.prog 169=some ⟨1,8,(.int .u64),(.int .u64 0)⟩:=by kernel_rfl
theorem ti170:ti Tryz.prog 170=some ⟨1,8,.func,.nilFunc⟩:=by kernel_rfl
theorem ti171:ti Tryz.prog 171=some ⟨1,0,.other,.undef⟩:=by kernel_rfl
theorem ti172:ti Tryz.prog 172=some ⟨1,8,.func,.nilFunc⟩:=by kernel_rfl
theorem ti173:ti Tryz.prog 173=some ⟨1,8,.func,.nilFunc⟩:=by kernel_rfl
theorem ti174:ti Tryz.prog 174=some ⟨1,8,.func,.nilFunc⟩:=by kernel_rfl
theorem ti175:ti Tryz.prog 175=some ⟨1,8,.func,.nilFunc⟩:=by kernel_rfl
theorem ti176:ti Tryz.prog 176=some ⟨1,8,(.int .u64),(.int .u64 0)⟩:=by kernel_rfl
theorem ti177:ti Tryz.prog 177=some ⟨1,8,.func,.nilFunc⟩:=by kernel_rfl
theorem ti178:ti Tryz.prog 178=some ⟨1,8,.func,.nilFunc⟩:=by kernel_rfl
theorem ti179:ti Tryz.prog 179=some ⟨1,8,.func,.nilFunc⟩:=by kernel_rfl
theorem ti180:ti Tryz.prog 180=some ⟨1,8,.func,.nilFunc⟩:=by kernel_rfl
theorem ti181:ti Tryz.prog 181=some ⟨1,0,.other,.undef⟩:=by kernel_rfl
theorem ti182:ti Tryz.prog 182=some ⟨1,8,.func,.nilFunc⟩:=by kernel_rfl
theorem ti183:ti Tryz.prog 183=some ⟨1,8,.func,.nilFunc⟩:=by kernel_rfl
theorem ti184:ti Tryz.prog 184=some ⟨1,8,(.pointer 176),.nilPtr⟩:=by kernel_rfl
theorem ti185:ti Tryz.prog 185=some ⟨1,8,.func,.nilFunc⟩:=by kernel_rfl
theorem ti186:ti Tryz.prog 186=some ⟨1,0,.other,.undef⟩:=by kernel_rfl
theorem ti187:ti Tryz.prog 187=some ⟨1,8,.func,.nilFunc⟩:=by kernel_rfl
theorem ti188:ti Tryz.prog 188=some ⟨1,0,.other,.undef⟩:=by kernel_rfl
theorem ti189:ti Tryz.prog 189=some ⟨1,8,.func,.nilFunc⟩:=by kernel_rfl
theorem ti190:ti Tryz.prog 190=some ⟨1,8,.func,.nilFunc⟩:=by kernel_rfl
theorem ti191:ti Tryz.prog 191=some ⟨4,40,(.struct [(0,17),(1,17),(2,17),(3,9)]),(.agg [.nilPtr,.nilPtr,.nilPtr,(.str ⟨#[]⟩)])⟩:=by kernel_rfl
theorem ti192:ti Tryz.prog 192=some ⟨4,40,(.struct [(0,17),(1,17),(2,17),(3,9)]),(.agg [.nilPtr,.nilPtr,.nilPtr,(.str ⟨#[]⟩)])⟩:=by kernel_rfl
theorem ti193:ti Tryz.prog 193=some ⟨0,0,(.array 0 16),(.agg [])⟩:=by kernel_rfl
theorem ti194:ti Tryz.prog 194=some ⟨0,0,(.struct [(0,193)]),(.agg [])⟩:=by kernel_rfl
theorem ti195:ti Tryz.prog 195=some ⟨0,0,(.struct [(0,193)]),(.agg [])⟩:=by kernel_rfl
theorem ti196:ti Tryz.prog 196=some ⟨1,8,.func,.nilFunc⟩:=by kernel_rfl
theorem ti197:ti Tryz.prog 197=some ⟨1,1,(.int .u8),(.int .u8 0)⟩:=by kernel_rfl
theorem ti198:ti Tryz.prog 198=some ⟨1,1,(.int .u8),(.int .u8 0)⟩:=by kernel_rfl
theorem ti199:ti Tryz.prog 199=some ⟨1,8,.func,.nilFunc⟩:=by kernel_rfl
theorem ti200:ti Tryz.prog 200=some ⟨1,8,(.pointer 5),.nilPtr⟩:=by kernel_rfl
theorem ti201:ti Tryz.prog 201=some ⟨1,4,(.int .i32),(.int .i32 0)⟩:=by kernel_rfl
theorem ti202:ti Tryz.prog 202=some ⟨1,4,(.int .i32),(.int .i32 0)⟩:=by kernel_rfl
theorem ti203:ti Tryz.prog 203=some ⟨11,48,(.struct [(0,12),(1,12),(2,167),(3,197),(4,5),(5,5),(6,198),(7,199),(8,200),(9,201),(10,202)]),(.agg [(.int .u64 0),(.int .u64 0),(.int .u32 0),(.int .u8 0),(.int .u8 0),(.int .u8 0),(.int .u8 0),.nilFunc,.nilPtr,(.int .i32 0),(.int .i32 0)])⟩:=by kernel_rfl
theorem ti204:ti Tryz.prog 204=some ⟨11,48,(.struct [(0,12),(1,12),(2,167),(3,197),(4,5),(5,5),(6,198),(7,199),(8,200),(9,201),(10,202)]),(.agg [(.int .u64 0),(.int .u64 0),(.int .u32 0),(.int .u8 0),(.int .u8 0),(.int .u8 0),(.int .u8 0),.nilFunc,.nilPtr,(.int .i32 0),(.int .i32 0)])⟩:=by kernel_rfl
theorem ti205:ti Tryz.prog 205=some ⟨1,8,.other,.nilPtr⟩:=by kernel_rfl
attribute [go_sem] ti0 ti1 ti2 ti3 ti4 ti5 ti6 ti7 ti8 ti9 ti10 ti11 ti12 ti13 ti14 ti15 ti16 ti17 ti18 ti19 ti20 ti21 ti22 ti23 ti24 ti25 ti26 ti27 ti28 ti29 ti30 ti31 ti32 ti33 ti34 ti35 ti36 ti37 ti38 ti39 ti40 ti41 ti42 ti43 ti44 ti45 ti46 ti47 ti48 ti49 ti50 ti51 ti52 ti53 ti54 ti55 ti56 ti57 ti58 ti59 ti60 ti61 ti62 ti63 ti64 ti65 ti66 ti67 ti68 ti69 ti70 ti71 ti72 ti73 ti74 ti75 ti76 ti77 ti78 ti79 ti80 ti81 ti82 ti83 ti84 ti85 ti86 ti87 ti88 ti89 ti90 ti91 ti92 ti93 ti94 ti95 ti96 ti97 ti98 ti99 ti100 ti101 ti102 ti103 ti104 ti105 ti106 ti107 ti108 ti109 ti110 ti111 ti112 ti113 ti114 ti115 ti116 ti117 ti118 ti119 ti120 ti121 ti122 ti123 ti124 ti125 ti126 ti127 ti128 ti129 ti130 ti131 ti132 ti133 ti134 ti135 ti136 ti137 ti138 ti139 ti140 ti141 ti142 ti143 ti144 ti145 ti146 ti147 ti148 ti149 ti150 ti151 ti152 ti153 ti154 ti155 ti156 ti157 ti158 ti159 ti160 ti161 ti162 ti163 ti164 ti165 ti166 ti167 ti168 ti169 ti170 ti171 ti172 ti173 ti174 ti175 ti176 ti177 ti178 ti179 ti180 ti181 ti182 ti183 ti184 ti185 ti186 ti187 ti188 ti189 ti190 ti191 ti192 ti193 ti194 ti195 ti196 ti197 ti198 ti199 ti200 ti201 ti202 ti203 ti204 ti205
end Go.Proofs.YtbdmoijmcondcaaGreat
namespace Go.Proofs.YtbdmoijmcondcaaGreat
open Go Go.Proofs Clk
theorem z1c:Clk.Good Tryz.prog:=⟨by kernel_rfl,fun f fn h hn=>by
 have:Tryz.prog.funcs.all (fun fn=>fn.name != "runtime.NumGoroutine")=true:=by kernel_rfl
 rw [Array.all_eq_true] at this;obtain ⟨hi,h'⟩:=Array.getElem?_eq_some_iff.1 h;have:=this f hi;rw [h',hn] at this;simp at this⟩
def primW:FuncId->Option (Nat->List AV->List AO->Res):=fun f=>none
theorem z08v:PrimOk Tryz.prog primW:=by
 intro f h e;unfold primW at e;cases e
end Go.Proofs.YtbdmoijmcondcaaGreat
namespace Go.Proofs.YtbdmoijmcondcaaGreat
open Clk Go.Proofs
theorem z0by:z11.prim=primW:=by
 funext f
 by_cases h:f<139
 · have key:(List.range 139).map z11.prim=(List.range 139).map primW:=by kernel_rfl
   have:=congrArg (fun l=>l[f]?) key;simp only [List.getElem?_map,List.getElem?_range h,Option.map_some] at this;exact Option.some.inj this
 · have h':139<=f:=Nat.le_of_not_lt h;have hl:z11.cl.length=139:=by kernel_rfl
   have h1:z11.cl.length<=f:=Nat.le_trans (Nat.le_of_eq hl) h';unfold Seat.prim primW;rw [zI,List.getElem?_eq_none h1,];rfl
theorem zh:PrimOk Tryz.prog z11.prim:=by rw [z0by];exact z08v
end Go.Proofs.YtbdmoijmcondcaaGreat
namespace Go.Proofs.YtbdmoijmcondcaaGreat
open Clk Go Go.Proofs Go.Maps Go.RowKit Go.WideMaps
theorem z01x:Keyed Tryz.prog 3:=int_keyed Tryz.underlying3
def PlaceAt (P:Program) (f:Nat) (U:Int×Int->Option Int):Prop:=∀ (x y a:Int),U (x,y)=some a->∀ (w:World),Calls P f #[.int .i64 x,.int .i64 y] w fun en w'=>en=.returned (.int .i64 a) /\ Gr (fun _=>False) w w'
set_option maxHeartbeats 4000000 in
theorem z041 {PL:Int×Int->Option Int} (hP:PlaceAt Tryz.prog 80 PL) {b:Int} {l1 l2 ks:List Int} (hlen:l1.length+l2.length<4294967296*2) (hwf:∀ n∈l1++l2,-9223372036854775808<=n /\ n<9223372036854775808) (hks:keysF PL b (l1++l2)=some ks) {a1 a2:Option Addr} {c1 c2:Nat} (w:World)
 (h1:∀ i (hi:i<l1.length),∃ ad:Addr,a1=some ad /\ ad.spot=none /\ ad.block<w.heap.size /\ w.cell? ⟨ad.block,ad.off+i,none⟩=some (.int .i64 l1[i]))
 (h2:∀ i (hi:i<l2.length),∃ ad:Addr,a2=some ad /\ ad.spot=none /\ ad.block<w.heap.size /\ w.cell? ⟨ad.block,ad.off+i,none⟩=some (.int .i64 l2[i])) :
 Calls Tryz.prog 59 #[.agg #[.slice a1 l1.length c1,.slice a2 l2.length c2],.int .i64 b] w fun en w'=>en=.returned (.int .i64 (nubL ks).length) /\ Gr (fun _=>False) w w':=by
 rw [zwj] at hks;cases hk1:keysF PL b l1 with
 | none=>rw [hk1] at hks;cases hks
 | some ks1 =>
 rw [hk1] at hks;simp only [Option.map_eq_some_iff] at hks;obtain ⟨ks2,hk2,rfl⟩:=hks;have hmm:=@run_makeMap Tryz.prog;have HF:Aside ((∀ n∈l1++l2,-9223372036854775808<=n /\ n<9223372036854775808) /\ keysF PL b l1=some ks1 /\ keysF PL b l2=some ks2):=⟨hwf,hk1,hk2⟩;clear hwf hk1 hk2;have HC:Aside ((∀ i (hi:i<l1.length),∃ ad:Addr,a1=some ad /\ ad.spot=none /\ ad.block<w.heap.size /\ w.cell? ⟨ad.block,ad.off+i,none⟩=some (.int .i64 l1[i])) /\ (∀ i (hi:i<l2.length),∃ ad:Addr,a2=some ad /\ ad.spot=none /\ ad.block<w.heap.size /\ w.cell? ⟨ad.block,ad.off+i,none⟩=some (.int .i64 l2[i]))):=⟨h1,h2⟩;clear h1 h2;have hi0:∀ (x y:Value) (W:World),(Instr.index 143 (.agg #[x,y]) (.int .i64 0)).run Tryz.prog W=.ok x W:=fun x y W=>by kernel_rfl
 have hi1:∀ (x y:Value) (W:World),(Instr.index 143 (.agg #[x,y]) (.int .i64 1)).run Tryz.prog W=.ok y W:=fun x y W=>by kernel_rfl
 have hb0:Gr (fun _=>False) w ((w.alloc (.cells #[.slice a1 l1.length c1,.slice a2 l2.length c2] 32)).alloc (.map #[] 0)):=(Gr.alloc _ w _).trans (Gr.alloc _ _ _);have hbs:(((w.alloc (.cells #[.slice a1 l1.length c1,.slice a2 l2.length c2] 32)).alloc (.map #[] 0))).heap.size=w.heap.size+2:=by
  show ((w.heap.push _).push _).size=_;rw [Array.size_push,Array.size_push]
 have hown0:(((w.alloc (.cells #[.slice a1 l1.length c1,.slice a2 l2.length c2] 32)).alloc (.map #[] 0))).ownsMap Tryz.prog 3 (unitElem (H:=Unit)) (w.heap.size+1) (0+0) (setOf (.agg []) (([]:List Int).map z1s)):=by
  have m:=World.ownsMap_made (w.alloc (.cells #[.slice a1 l1.length c1,.slice a2 l2.length c2] 32)) Tryz.prog 3 (unitElem (H:=Unit));rw [show (w.alloc (.cells #[.slice a1 l1.length c1,.slice a2 l2.length c2] 32)).heap.size=w.heap.size+1 from Array.size_push ..] at m;exact m
 go_enter Tryz.func59,Tryz.ntmps59
 go_wp2
 refine wp_loop_rounds 3 ?_;rw [rounds_succ];go_wp2
 clear hmm;go_loopg [22] l1.length (fun g s22 wx=>∃ (k:Nat) (acc rst:List Int),k+g=l1.length /\ s22=.int .i64 k /\ Aside (keysF PL b (l1.drop k)=some rst /\ acc++rst=ks1) /\ wx.ownsMap Tryz.prog 3 (unitElem (H:=Unit)) (w.heap.size+1) (0+k) (setOf (.agg []) (acc.map z1s)) /\ Gr (fun x=>x=w.heap.size+1) ((w.alloc (.cells #[.slice a1 l1.length c1,.slice a2 l2.length c2] 32)).alloc (.map #[] 0)) wx)
 case atStart=>exact ⟨0,[],ks1,by omega,rfl,⟨by rw [List.drop_zero];exact HF.out.2.1,rfl⟩,hown0,Gr.refl _ _⟩
 case round =>
  obtain ⟨k,acc,rst,hkg,rfl,HI,hown,hg⟩:=hrel;cases gk with
  | zero =>
    have hnk:¬ ((k:Int)<(l1.length:Int)):=by omega
    have HA:Aside (acc=ks1 /\ k=l1.length):=by
     obtain ⟨u1,u2⟩:=HI.out;rw [List.drop_eq_nil_of_le (by omega)] at u1;cases u1;exact ⟨by simpa using u2,by omega⟩
    clear HI;obtain ⟨wA,hwA⟩:∃ wA,wA=wr:=⟨_,rfl⟩;have hownA:wA.ownsMap Tryz.prog 3 (unitElem (H:=Unit)) (w.heap.size+1) (l1.length+0) (setOf (.agg []) (ks1.map z1s)):=by
     obtain ⟨u1,u2⟩:=HA.out;rw [u1,u2] at hown;rw [hwA];rw [Nat.zero_add] at hown;exact hown
    have hgA:Gr (fun x=>x=w.heap.size+1) ((w.alloc (.cells #[.slice a1 l1.length c1,.slice a2 l2.length c2] 32)).alloc (.map #[] 0)) wA:=by rw [hwA];exact hg
    clear hown hg HA;subst hwA;go_wp2
    rw [rounds_succ];go_wp2
    go_loopg [22] l2.length (fun g s22 wx=>∃ (k:Nat) (acc rst:List Int),k+g=l2.length /\ s22=.int .i64 k /\ Aside (keysF PL b (l2.drop k)=some rst /\ acc++rst=ks1++ks2) /\ wx.ownsMap Tryz.prog 3 (unitElem (H:=Unit)) (w.heap.size+1) ((l1.length)+k) (setOf (.agg []) (acc.map z1s)) /\ Gr (fun x=>x=w.heap.size+1) ((w.alloc (.cells #[.slice a1 l1.length c1,.slice a2 l2.length c2] 32)).alloc (.map #[] 0)) wx)
    case atStart=>exact ⟨0,ks1,ks2,by omega,rfl,⟨by rw [List.drop_zero];exact HF.out.2.2,rfl⟩,hownA,hgA⟩
    case round =>
     obtain ⟨k,acc,rst,hkg,rfl,HI,hown,hg⟩:=hrel;cases gk with
     | zero =>
       have hnk:¬ ((k:Int)<(l2.length:Int)):=by omega
       have HA:Aside (acc=ks1++ks2 /\ k=l2.length):=by
        obtain ⟨u1,u2⟩:=HI.out;rw [List.drop_eq_nil_of_le (by omega)] at u1;cases u1;exact ⟨by simpa using u2,by omega⟩
       clear HI;have hnB:=HA.out;go_wp2
       rw [rounds_succ];go_wp2_with (first
        | (at_len;refine wpList_len_own _ rfl _ 142 rfl 3 144 Tryz.underlying142 _ (w.heap.size+1) _ _ rfl hown ?_)
        | go_in)
       go_ret
       refine ⟨?_,hb0.hide hg (fun r h=>by omega)⟩;show Ending.returned (.int .i64 ((size (setOf (DataW.agg []) (List.map z1s ks1++List.map z1s ks2)):Nat):Int))=_;rw [<- List.map_append,z08s]
     | succ g =>
       have hlt:k<l2.length:=by omega
       have hyk:((k:Int)<(l2.length:Int)):=by omega
       obtain ⟨ad,rfl,ad1,ad2,ad3⟩:=HC.out.2 k hlt;obtain ⟨ab,ao,sp⟩:=ad;simp only at ad1 ad2 ad3;subst ad1;have hcell:wr.cell? ⟨ab,ao+k,none⟩=some (.int .i64 l2[k]):=(z1n ((hg.same ab (by rw [hbs];omega) (by omega)).trans (hb0.same ab ad2 id))).trans ad3;have hxr : -9223372036854775808<=l2[k] /\ l2[k]<9223372036854775808:=HF.out.1 _ (by simp [List.getElem_mem]);obtain ⟨x,hx⟩:∃ x,x=l2[k]:=⟨_,rfl⟩;rw [<- hx] at hcell hxr;have HX:Aside (x=l2[k]):=hx;clear hx;obtain ⟨a,r,hpl,HR⟩:∃ a r,PL (b,Int.tmod x 16)=some a /\ Aside (keysF PL b (l2.drop (k+1))=some r /\ rst=if a=x /\ 0<=x then x::r else r):=by
        have u1:=HI.out.1;rw [List.drop_eq_getElem_cons hlt,<- HX.out] at u1;unfold keysF at u1;split at u1
        · cases u1
        · rename_i a ha;split at u1
          · cases u1
          · rename_i r hr;cases u1;exact ⟨a,r,ha,hr,rfl⟩
       have hcall:=hP b (Int.tmod x 16) a hpl;have hkey:keyOf Tryz.prog 3 (.int .i64 x)=some (z1s x):=keyOf_int_mk Tryz.underlying3 (WalkArith.wf_i64 ⟨hxr.1,by omega⟩);clear hpl;by_cases hx0:0<=x
       · rw [Int.tmod_eq_emod_of_nonneg hx0] at hcall;by_cases hax:a=x
         · subst hax;go_wp2_with (first
            | (go_at_call 80;refine (hcall wr).mono ?_;rintro e w2 ⟨rfl,hg2⟩)
            | (at_mapUpdate;refine wpList_mapUpdate_own _ rfl _ _ _ 142 rfl 3 144 z01x Tryz.underlying142 (unitElem (H:=Unit)) (w.heap.size+1) ((l1.length)+k) _ rfl (hown.kept (hg2.grown none) (by simp)) (by unfold maxLen;omega) _ _ _ rfl rfl hkey _ [] unitElem_mk ?_;intro w3 hown3 hgrow3)
            | go_in)
           go_roundg g
           case rel =>
            obtain ⟨v1,v2⟩:=HR.out;rw [if_pos (by simp [hx0])] at v2;have v3:=HI.out.2;rw [v2] at v3;refine ⟨k+1,acc++[a],r,by omega,by go_num,⟨v1,by rw [<- v3];simp⟩,?_,(hg.trans (hg2.wider fun _ h=>h.elim)).trans ⟨hgrow3.os,hgrow3.tape,hgrow3.output,hgrow3.size,fun r hr hn=>hgrow3.block r hr (by simpa using hn)⟩⟩;rw [List.map_append,List.map_singleton,setOf_snoc];exact hown3
           case measure=>omega
         · have hne:(a==x)=false:=by simpa using hax
           go_wp2_with (first
            | (go_at_call 80;refine (hcall wr).mono ?_;rintro e w2 ⟨rfl,hg2⟩)
            | go_in)
           go_roundg g
           case rel =>
            obtain ⟨v1,v2⟩:=HR.out;rw [if_neg (fun h=>hax h.1)] at v2;have v3:=HI.out.2;rw [v2] at v3;exact ⟨k+1,acc,r,by omega,by go_num,⟨v1,v3⟩,(hown.kept (hg2.grown none) (by simp)).mono (by omega),hg.trans (hg2.wider fun _ h=>h.elim)⟩
           case measure=>omega
       · go_wp2_with (first
          | (go_at_call 80;refine (hcall wr).mono ?_;rintro e w2 ⟨rfl,hg2⟩)
          | go_in)
         all_goals
          go_roundg g
          case measure=>omega
          obtain ⟨v1,v2⟩:=HR.out;rw [if_neg (fun h=>by have:=h.2;omega)] at v2;have v3:=HI.out.2;rw [v2] at v3;exact ⟨k+1,acc,r,by omega,by go_num,⟨v1,v3⟩,(hown.kept (hg2.grown none) (by simp)).mono (by omega),hg.trans (hg2.wider fun _ h=>h.elim)⟩
  | succ g =>
    have hlt:k<l1.length:=by omega
    have hyk:((k:Int)<(l1.length:Int)):=by omega
    obtain ⟨ad,rfl,ad1,ad2,ad3⟩:=HC.out.1 k hlt;obtain ⟨ab,ao,sp⟩:=ad;simp only at ad1 ad2 ad3;subst ad1;have hcell:wr.cell? ⟨ab,ao+k,none⟩=some (.int .i64 l1[k]):=(z1n ((hg.same ab (by rw [hbs];omega) (by omega)).trans (hb0.same ab ad2 id))).trans ad3;have hxr : -9223372036854775808<=l1[k] /\ l1[k]<9223372036854775808:=HF.out.1 _ (by simp [List.getElem_mem]);obtain ⟨x,hx⟩:∃ x,x=l1[k]:=⟨_,rfl⟩;rw [<- hx] at hcell hxr;have HX:Aside (x=l1[k]):=hx;clear hx;obtain ⟨a,r,hpl,HR⟩:∃ a r,PL (b,Int.tmod x 16)=some a /\ Aside (keysF PL b (l1.drop (k+1))=some r /\ rst=if a=x /\ 0<=x then x::r else r):=by
     have u1:=HI.out.1;rw [List.drop_eq_getElem_cons hlt,<- HX.out] at u1;unfold keysF at u1;split at u1
     · cases u1
     · rename_i a ha;split at u1
       · cases u1
       · rename_i r hr;cases u1;exact ⟨a,r,ha,hr,rfl⟩
    have hcall:=hP b (Int.tmod x 16) a hpl;have hkey:keyOf Tryz.prog 3 (.int .i64 x)=some (z1s x):=keyOf_int_mk Tryz.underlying3 (WalkArith.wf_i64 ⟨hxr.1,by omega⟩);clear hpl;by_cases hx0:0<=x
    · rw [Int.tmod_eq_emod_of_nonneg hx0] at hcall;by_cases hax:a=x
      · subst hax;go_wp2_with (first
         | (go_at_call 80;refine (hcall wr).mono ?_;rintro e w2 ⟨rfl,hg2⟩)
         | (at_mapUpdate;refine wpList_mapUpdate_own _ rfl _ _ _ 142 rfl 3 144 z01x Tryz.underlying142 (unitElem (H:=Unit)) (w.heap.size+1) (0+k) _ rfl (hown.kept (hg2.grown none) (by simp)) (by unfold maxLen;omega) _ _ _ rfl rfl hkey _ [] unitElem_mk ?_;intro w3 hown3 hgrow3)
         | go_in)
        go_roundg g
        case rel =>
         obtain ⟨v1,v2⟩:=HR.out;rw [if_pos (by simp [hx0])] at v2;have v3:=HI.out.2;rw [v2] at v3;refine ⟨k+1,acc++[a],r,by omega,by go_num,⟨v1,by rw [<- v3];simp⟩,?_,(hg.trans (hg2.wider fun _ h=>h.elim)).trans ⟨hgrow3.os,hgrow3.tape,hgrow3.output,hgrow3.size,fun r hr hn=>hgrow3.block r hr (by simpa using hn)⟩⟩;rw [List.map_append,List.map_singleton,setOf_snoc];exact hown3
        case measure=>omega
      · have hne:(a==x)=false:=by simpa using hax
        go_wp2_with (first
         | (go_at_call 80;refine (hcall wr).mono ?_;rintro e w2 ⟨rfl,hg2⟩)
         | go_in)
        go_roundg g
        case rel =>
         obtain ⟨v1,v2⟩:=HR.out;rw [if_neg (fun h=>hax h.1)] at v2;have v3:=HI.out.2;rw [v2] at v3;exact ⟨k+1,acc,r,by omega,by go_num,⟨v1,v3⟩,(hown.kept (hg2.grown none) (by simp)).mono (by omega),hg.trans (hg2.wider fun _ h=>h.elim)⟩
        case measure=>omega
    · go_wp2_with (first
       | (go_at_call 80;refine (hcall wr).mono ?_;rintro e w2 ⟨rfl,hg2⟩)
       | go_in)
      all_goals
       go_roundg g
       case measure=>omega
       obtain ⟨v1,v2⟩:=HR.out;rw [if_neg (fun h=>by have:=h.2;omega)] at v2;have v3:=HI.out.2;rw [v2] at v3;exact ⟨k+1,acc,r,by omega,by go_num,⟨v1,v3⟩,(hown.kept (hg2.grown none) (by simp)).mono (by omega),hg.trans (hg2.wider fun _ h=>h.elim)⟩
end Go.Proofs.YtbdmoijmcondcaaGreat
namespace Go.Proofs.YtbdmoijmcondcaaGreat
open Clk Go Go.Proofs Go.Maps Go.RowKit Go.WideMaps
theorem zoz:Keyed Tryz.prog 3:=int_keyed Tryz.underlying3
def ptrR (rb:Nat):Value->Option (DataW Unit×List MemPlace)
 | .pointer (some ⟨b,i,none⟩)=>if b=rb /\ i<3 then some (.lit (z1s i),[]) else none
 | _=>none
theorem z01y {rb:Nat} {v:Value} {y:DataW Unit×List MemPlace} (h:ptrR rb v=some y):∃ i:Nat,v=.pointer (some ⟨rb,i,none⟩) /\ i<3 /\ y=(.lit (z1s i),[]):=by
 unfold ptrR at h;split at h
 · rename_i b i;split at h
   · rename_i hc;obtain ⟨rfl,hi⟩:=hc;cases h;exact ⟨i,rfl,hi,rfl⟩
   · cases h
 · cases h
theorem zzu {rb i:Nat} (h:i<3):ptrR rb (.pointer (some ⟨rb,i,none⟩))=some (.lit (z1s i),[]):=by
 simp [ptrR,h]
theorem z6b {H:Type} {P:Program} (w:World) {ops:Array Oper} {rest:List Oper} {o:Oper} {a:Act} {Q:Exit->Act->World->Prop}
 (hg:o.guard=none) (m x v:Operand) (t:TypeId) (hop:o.op=Op.insert t m x v)
 (k e:TypeId) (K:Keyed P k) (ht:P.underlying t=some (.map k e)) (R:Value->Option (DataW H×List MemPlace)) (b n:Nat) (D:DataW H)
 (hm:a.eval m=.map (some b)) (hown:w.ownsMap P k R b n D) (hn:n<maxLen) (key val:Value) (kl:Lit) (hx:a.eval x=key) (hv:a.eval v=val) (hkey:keyOf P k key=some kl)
 (d:DataW H) (ps:List MemPlace) (hval:R val=some (d,ps))
 (hK:∀ w',w'.ownsMap P k R b (n+1) (D.put kl d)->w.grownBy w' (some b)->wpList P ops Q rest (a.put o.dst undef) w') :
 wpList P ops Q (o::rest) a w:=by
 refine wpList_plain hg fun K' hK'=>?_
 obtain ⟨w',hrun,r1,r2⟩:=hown.update K ht hn hkey hval;unfold Oper.wp;simp [execOp,hop,hm,hx,hv,hrun,Result.andThen];exact hK' _ _ (hK w' r1 r2)
theorem z1r {w w':World} {k:Nat} (h:w.grownBy w' (some k)):Gr (fun x=>x=k) w w':=⟨h.os,h.tape,h.output,h.size,fun r hr hn=>h.block r hr (by simpa using hn)⟩
theorem zwn {w w':World} (h:w.grownBy w' none):Gr (fun _=>False) w w':=⟨h.os,h.tape,h.output,h.size,fun r hr hn=>h.block r hr (by simp)⟩
def mapD:DataW Unit:=(((DataW.map []).put (z1s 0) (.lit (z1s 0))).put (z1s 2) (.lit (z1s 1))).put (z1s 3) (.lit (z1s 2))
theorem zzv (z:DataW Unit):mapD.atKey (z1s 0) z=.lit (z1s 0) /\ mapD.atKey (z1s 2) z=.lit (z1s 1) /\ mapD.atKey (z1s 3) z=.lit (z1s 2):=by
 refine ⟨by kernel_rfl,by kernel_rfl,by kernel_rfl⟩
theorem z08w (k:Lit) (h:Go.Maps.has mapD k=true):k=z1s 0 \/ k=z1s 2 \/ k=z1s 3:=by
 by_cases h0:k=z1s 0
 · exact .inl h0
 by_cases h2:k=z1s 2
 · exact .inr (.inl h2)
 by_cases h3:k=z1s 3
 · exact .inr (.inr h3)
 exfalso;unfold mapD at h;rw [has_put_other h3,has_put_other h2,has_put_other h0] at h;cases h
theorem zp0:Go.Maps.has mapD (z1s 0)=true /\ Go.Maps.has mapD (z1s 2)=true /\ Go.Maps.has mapD (z1s 3)=true:=by
 refine ⟨by kernel_rfl,by kernel_rfl,by kernel_rfl⟩
def rcells (left:Lit->Bool) (f cl rt:Int):Array Value:=#[.int .i64 (cond (left (z1s 0)) 0 f),.int .i64 (cond (left (z1s 2)) 0 cl),.int .i64 (cond (left (z1s 3)) 0 rt),.int .i64 0,.int .i64 0,.int .i64 0,.bool false]
theorem z8 {W:World} {b:Nat} {l:List Value} {t:TypeId} (h:W.heap[b]?=some (.cells ⟨l⟩ t (0,0))) (i:Nat) (v:Value) (hv:l[i]?=some v):W.cell? ⟨b,i,none⟩=some v /\ W.frozen? ⟨b,i,none⟩=false:=by
 unfold World.cell? World.frozen?;rw [h];simp [hv]
theorem zla (left:Lit->Bool) (f cl rt:Int):(rcells left f cl rt).setIfInBounds 0 (.int .i64 f)=rcells (fun z=>left z&&!z.sameKey (z1s 0)) f cl rt /\ (rcells left f cl rt).setIfInBounds 1 (.int .i64 cl)=rcells (fun z=>left z&&!z.sameKey (z1s 2)) f cl rt /\
 (rcells left f cl rt).setIfInBounds 2 (.int .i64 rt)=rcells (fun z=>left z&&!z.sameKey (z1s 3)) f cl rt:=by
 refine ⟨?_,?_,?_⟩ <;> (unfold rcells;simp [z1s,Lit.sameKey])
theorem zi5 {w w':World} {k:Nat} (g:Gr (fun x=>x=k) w w'):w.grownBy w' (some k):=⟨g.os,g.tape,g.output,g.size,fun r hr hn=>g.same r hr (by simpa using hn)⟩
theorem zi6 {w:World} {p i:Nat} {v:Value} {l l':Array Value} {T:TypeId} (hp:w.heap[p]?=some (.cells l T (0,0))) (e:l.setIfInBounds i v=l'):(w.setCell ⟨p,i,none⟩ v).heap[p]?=some (.cells l' T (0,0)):=by
 rw [z2o,if_pos rfl,hp];show some (Obj.cells (l.setIfInBounds i v) T (0,0))=_;rw [e]
theorem z0e7 {w:World} {p:Nat} {a b c d e f g x:Value} {T:TypeId} (hp:w.heap[p]?=some (.cells #[a,b,c,d,e,f,g] T (0,0))):(w.setCell ⟨p,0,none⟩ x).heap[p]?=some (.cells #[x,b,c,d,e,f,g] T (0,0)):=zi6 hp rfl
theorem z0e8 {w:World} {p:Nat} {a b c d e f g x:Value} {T:TypeId} (hp:w.heap[p]?=some (.cells #[a,b,c,d,e,f,g] T (0,0))):(w.setCell ⟨p,1,none⟩ x).heap[p]?=some (.cells #[a,x,c,d,e,f,g] T (0,0)):=zi6 hp rfl
theorem z0e9 {w:World} {p:Nat} {a b c d e f g x:Value} {T:TypeId} (hp:w.heap[p]?=some (.cells #[a,b,c,d,e,f,g] T (0,0))):(w.setCell ⟨p,2,none⟩ x).heap[p]?=some (.cells #[a,b,x,d,e,f,g] T (0,0)):=zi6 hp rfl
theorem z0ea {w:World} {p:Nat} {a b c d e f g x:Value} {T:TypeId} (hp:w.heap[p]?=some (.cells #[a,b,c,d,e,f,g] T (0,0))):(w.setCell ⟨p,3,none⟩ x).heap[p]?=some (.cells #[a,b,c,x,e,f,g] T (0,0)):=zi6 hp rfl
theorem z0d8 {w:World} {p:Nat} {a b c d e f g x:Value} {T:TypeId} (hp:w.heap[p]?=some (.cells #[a,b,c,d,e,f,g] T (0,0))):(w.setCell ⟨p,4,none⟩ x).heap[p]?=some (.cells #[a,b,c,d,x,f,g] T (0,0)):=zi6 hp rfl
theorem z0d9 {w:World} {p:Nat} {a b c d e f g x:Value} {T:TypeId} (hp:w.heap[p]?=some (.cells #[a,b,c,d,e,f,g] T (0,0))):(w.setCell ⟨p,5,none⟩ x).heap[p]?=some (.cells #[a,b,c,d,e,x,g] T (0,0)):=zi6 hp rfl
theorem z0da {w:World} {p:Nat} {a b c d e f g x:Value} {T:TypeId} (hp:w.heap[p]?=some (.cells #[a,b,c,d,e,f,g] T (0,0))):(w.setCell ⟨p,6,none⟩ x).heap[p]?=some (.cells #[a,b,c,d,e,f,x] T (0,0)):=zi6 hp rfl
theorem store8 (w:World) {p:Nat} {a b c d e f g a' b' c' d' e' f' g' g2:Value} {T:TypeId} (hp:w.heap[p]?=some (.cells #[a,b,c,d,e,f,g] T (0,0))) :
 Gr (fun x=>x=p) w ((((((((w.setCell ⟨p,6,none⟩ g2).setCell ⟨p,0,none⟩ a').setCell ⟨p,1,none⟩ b').setCell ⟨p,2,none⟩ c').setCell ⟨p,3,none⟩ d').setCell ⟨p,4,none⟩ e').setCell ⟨p,5,none⟩ f').setCell ⟨p,6,none⟩ g') /\ ((((((((w.setCell ⟨p,6,none⟩ g2).setCell ⟨p,0,none⟩ a').setCell ⟨p,1,none⟩ b').setCell ⟨p,2,none⟩ c').setCell ⟨p,3,none⟩ d').setCell ⟨p,4,none⟩ e').setCell ⟨p,5,none⟩ f').setCell ⟨p,6,none⟩ g').heap[p]?=some (.cells #[a',b',c',d',e',f',g'] T (0,0)):=by
 have s:∀ (W:World) (i:Nat) (v:Value),Gr (fun x=>x=p) W (W.setCell ⟨p,i,none⟩ v):=fun W i v=>Gr.setCell W p i v rfl
 exact ⟨(((((((s _ _ _).trans (s _ _ _)).trans (s _ _ _)).trans (s _ _ _)).trans (s _ _ _)).trans (s _ _ _)).trans (s _ _ _)).trans (s _ _ _),z0da (z0d9 (z0d8 (z0ea (z0e9 (z0e8 (z0e7 (z0da hp)))))))⟩
theorem store2 (w:World) {p:Nat} {a b c d e f g e' f':Value} {T:TypeId} (hp:w.heap[p]?=some (.cells #[a,b,c,d,e,f,g] T (0,0))) :
 Gr (fun x=>x=p) w ((w.setCell ⟨p,4,none⟩ e').setCell ⟨p,5,none⟩ f') /\ ((w.setCell ⟨p,4,none⟩ e').setCell ⟨p,5,none⟩ f').heap[p]?=some (.cells #[a,b,c,d,e',f',g] T (0,0)) :=
 ⟨(Gr.setCell (L:=fun x=>x=p) w p 4 e' rfl).trans (Gr.setCell _ p 5 f' rfl),z0d9 (z0d8 hp)⟩
set_option maxHeartbeats 8000000 in
theorem z0bz {v0 v1 v2 v3 v4 v5 v6 v7 v8 v9 v10:Value} {o f cl rt lv le mo:Int} {ro:Bool} (w:World)
 (hMany:∀ w',Gr (fun x=>w.heap.size<=x) w w'->(Calls Tryz.prog 26 #[.agg #[v4,v5,v6,v7],.int .i64 o,.int .i64 0] w' fun en w''=>en=.returned (.int .i64 f) /\ Gr (fun _=>False) w' w'') /\
   (Calls Tryz.prog 26 #[.agg #[v4,v5,v6,v7],.int .i64 o,.int .i64 2] w' fun en w''=>en=.returned (.int .i64 cl) /\ Gr (fun _=>False) w' w'') /\
   (Calls Tryz.prog 26 #[.agg #[v4,v5,v6,v7],.int .i64 o,.int .i64 3] w' fun en w''=>en=.returned (.int .i64 rt) /\ Gr (fun _=>False) w' w''))
 (hWant:∀ w',Gr (fun x=>w.heap.size<=x) w w'->Calls Tryz.prog 27 #[.agg #[v8,v9]] w' fun en w''=>en=.returned (.int .i64 lv) /\ Gr (fun _=>False) w' w'')
 (hWear:∀ w',Gr (fun x=>w.heap.size<=x) w w'->Calls Tryz.prog 28 #[.agg #[v4,v5,v6,v7]] w' fun en w''=>en=.returned (.tuple #[.int .i64 le,.int .i64 mo]) /\ Gr (fun _=>False) w' w'')
 (hRo:(f≠0 /\ ro=false) \/ (f=0 /\ ∃ re:Int,(∀ w',Gr (fun x=>w.heap.size<=x) w w'->Calls Tryz.prog 29 #[.agg #[v4,v5,v6,v7],.int .i64 o] w' fun en w''=>en=.returned (.int .i64 re) /\ Gr (fun _=>False) w' w'') /\ ((re≠0 /\ ro=false) \/ (re=0 /\ ∃ vi:Int,(∀ w',Gr (fun x=>w.heap.size<=x) w w'->Calls Tryz.prog 30 #[.agg #[v4,v5,v6,v7],.agg #[v8,v9],.int .i64 o] w' fun en w''=>en=.returned (.int .i64 vi) /\ Gr (fun _=>False) w' w'') /\ ro=decide (vi<0))))) :
 Calls Tryz.prog 9 #[.agg #[v0,v1,v2,v3,v4,v5,v6,v7,v8,v9,v10,.int .i64 o]] w fun en w'=>en=.returned (.agg #[.int .i64 f,.int .i64 cl,.int .i64 rt,.int .i64 lv,.int .i64 le,.int .i64 mo,.bool ro]) /\ Gr (fun _=>False) w w':=by
 have hmm:=@run_makeMap Tryz.prog;have hb0:Gr (fun _=>False) w (((w.alloc (.cells #[v0,v1,v2,v3,v4,v5,v6,v7,v8,v9,v10,.int .i64 o] 34)).alloc (.cells #[.int .i64 0,.int .i64 0,.int .i64 0,.int .i64 0,.int .i64 0,.int .i64 0,.bool false] 42)).alloc (.map #[] 0)):=((Gr.alloc _ w _).trans (Gr.alloc _ _ _)).trans (Gr.alloc _ _ _);obtain ⟨_,z2,z3,_,z5⟩:=alloc3 w (.cells #[v0,v1,v2,v3,v4,v5,v6,v7,v8,v9,v10,.int .i64 o] 34) (.cells #[.int .i64 0,.int .i64 0,.int .i64 0,.int .i64 0,.int .i64 0,.int .i64 0,.bool false] 42) (.map #[] 0);have hown0:(((w.alloc (.cells #[v0,v1,v2,v3,v4,v5,v6,v7,v8,v9,v10,.int .i64 o] 34)).alloc (.cells #[.int .i64 0,.int .i64 0,.int .i64 0,.int .i64 0,.int .i64 0,.int .i64 0,.bool false] 42)).alloc (.map #[] 0)).ownsMap Tryz.prog 3 (ptrR (w.heap.size+1)) (w.heap.size+1+1) 0 (.map []):=by
  have m:=World.ownsMap_made ((w.alloc (.cells #[v0,v1,v2,v3,v4,v5,v6,v7,v8,v9,v10,.int .i64 o] 34)).alloc (.cells #[.int .i64 0,.int .i64 0,.int .i64 0,.int .i64 0,.int .i64 0,.int .i64 0,.bool false] 42)) Tryz.prog 3 (ptrR (w.heap.size+1));rw [show ((w.alloc (.cells #[v0,v1,v2,v3,v4,v5,v6,v7,v8,v9,v10,.int .i64 o] 34)).alloc (.cells #[.int .i64 0,.int .i64 0,.int .i64 0,.int .i64 0,.int .i64 0,.int .i64 0,.bool false] 42)).heap.size=w.heap.size+1+1 by
   show ((w.heap.push _).push _).size=_;rw [Array.size_push,Array.size_push]] at m
  exact m
 have k0:keyOf Tryz.prog 3 (.int .i64 0)=some (z1s 0):=keyOf_int_mk Tryz.underlying3 (by decide);have k2:keyOf Tryz.prog 3 (.int .i64 2)=some (z1s 2):=keyOf_int_mk Tryz.underlying3 (by decide);have k3:keyOf Tryz.prog 3 (.int .i64 3)=some (z1s 3):=keyOf_int_mk Tryz.underlying3 (by decide);have tok1:True:=trivial;have tok2:True:=trivial;have tok3:True:=trivial;generalize hW0:(((w.alloc (.cells #[v0,v1,v2,v3,v4,v5,v6,v7,v8,v9,v10,.int .i64 o] 34)).alloc (.cells #[.int .i64 0,.int .i64 0,.int .i64 0,.int .i64 0,.int .i64 0,.int .i64 0,.bool false] 42)).alloc (.map #[] 0))=W0 at hb0 z2 z3 z5 hown0;go_enter Tryz.func9,Tryz.ntmps9
 go_wp2_with (first
  | (have _t:=tok1;refine z6b _ rfl _ _ _ 78 rfl 3 77 zoz Tryz.underlying78 (ptrR (w.heap.size+1)) (w.heap.size+1+1) 0 (.map []) rfl (hW0▸hown0) (by unfold maxLen;omega) _ _ _ rfl rfl k0 _ [] (zzu (i:=0) (by omega)) ?_;intro w1 hown1 hg1;clear tok1)
  | (have _t:=tok2;refine z6b _ rfl _ _ _ 78 rfl 3 77 zoz Tryz.underlying78 (ptrR (w.heap.size+1)) (w.heap.size+1+1) 1 _ rfl hown1 (by unfold maxLen;omega) _ _ _ rfl rfl k2 _ [] (zzu (i:=1) (by omega)) ?_;intro w2 hown2 hg2;clear tok2)
  | (have _t:=tok3;refine z6b _ rfl _ _ _ 78 rfl 3 77 zoz Tryz.underlying78 (ptrR (w.heap.size+1)) (w.heap.size+1+1) 2 _ rfl hown2 (by unfold maxLen;omega) _ _ _ rfl rfl k3 _ [] (zzu (i:=2) (by omega)) ?_;intro w3 hown3 hg3;clear tok3)
  | (at_range;refine wpList_range_own _ rfl _ 78 rfl 3 77 zoz Tryz.underlying78 (ptrR (w.heap.size+1)) (w.heap.size+1+1) 3 _ rfl hown3 ?_;intro w4 hrg hg4 hs4)
  | go_in)
 have hsz3:W0.heap.size<=w3.heap.size:=Nat.le_trans hg1.size (Nat.le_trans hg2.size hg3.size);have g03:Gr (fun x=>x=w.heap.size+1+1) W0 w3:=((z1r hg1).trans (z1r hg2)).trans (z1r hg3);have g04:Gr (fun x=>x=w.heap.size+1+1) W0 w4:=g03.trans ((zwn hg4).wider fun _ h=>h.elim);have gw4:Gr (fun x=>w.heap.size<=x) w w4:=(hb0.wider fun _ h=>h.elim).trans (g04.wider fun _ h=>by omega);have b4:w4.heap[w.heap.size]?=some (.cells #[v0,v1,v2,v3,v4,v5,v6,v7,v8,v9,v10,.int .i64 o] 34 (0,0)):=(g04.same w.heap.size (by omega) (by omega)).trans z2;have r4:w4.heap[w.heap.size+1]?=some (.cells #[.int .i64 0,.int .i64 0,.int .i64 0,.int .i64 0,.int .i64 0,.int .i64 0,.bool false] 42 (0,0)):=(g04.same (w.heap.size+1) (by omega) (by omega)).trans z3;obtain ⟨it,hit⟩:∃ it,it=w3.heap.size:=⟨_,rfl⟩;rw [<- hit] at hrg hs4 ⊢;have hit2:w.heap.size+3<=it:=by omega
 clear hit;clear hown0 hown1 hown2 hown3 hg1 hg2 hg3 hg4 g03 g04 hmm k0 k2 k3 hW0 z2 z3;have HM:Aside (∀ w',Gr (fun x=>w.heap.size<=x) w w'->(Calls Tryz.prog 26 #[.agg #[v4,v5,v6,v7],.int .i64 o,.int .i64 0] w' fun en w''=>en=.returned (.int .i64 f) /\ Gr (fun _=>False) w' w'') /\
  (Calls Tryz.prog 26 #[.agg #[v4,v5,v6,v7],.int .i64 o,.int .i64 2] w' fun en w''=>en=.returned (.int .i64 cl) /\ Gr (fun _=>False) w' w'') /\
  (Calls Tryz.prog 26 #[.agg #[v4,v5,v6,v7],.int .i64 o,.int .i64 3] w' fun en w''=>en=.returned (.int .i64 rt) /\ Gr (fun _=>False) w' w'')):=hMany
 clear hMany;go_loopg [4] (Go.Maps.size mapD) (fun g s4 wx=>∃ left:Lit->Bool,wx.ranges Tryz.prog 3 (ptrR (w.heap.size+1)) (w.heap.size+1+1) it 3 mapD left g /\ Aside (∀ kl,left kl=true->kl=z1s 0 \/ kl=z1s 2 \/ kl=z1s 3) /\ wx.heap[w.heap.size+1]?=some (.cells (rcells left f cl rt) 42 (0,0)) /\ Gr (fun x=>x=w.heap.size+1 \/ x=it) w4 wx)
 case atStart =>
  refine ⟨Go.Maps.has mapD,hrg,z08w,?_,Gr.refl _ _⟩;rw [r4];unfold rcells;rw [zp0.1,zp0.2.1,zp0.2.2];rfl
 case round =>
  obtain ⟨left,hrgx,HL,hrc,hgx⟩:=hrel;have hbx:wr.heap[w.heap.size]?=some (.cells #[v0,v1,v2,v3,v4,v5,v6,v7,v8,v9,v10,.int .i64 o] 34 (0,0)):=(hgx.same w.heap.size (by omega) (by omega)).trans b4;go_wp2_with (first
   | (at_next;refine wpList_next_ranges _ rfl _ rfl 3 zoz (ptrR (w.heap.size+1)) (Value.int .i64) (fun i:Nat=>.pointer (some ⟨w.heap.size+1,i,none⟩)) (fun key kl hkey=>by obtain ⟨x,rfl,_⟩:=Maps.keyOf_int_inv Tryz.underlying3 hkey;exact ⟨x,rfl⟩) (fun v y hv=>by obtain ⟨i,rfl,_⟩:=z01y hv;exact ⟨i,rfl⟩) (w.heap.size+1+1) it 3 mapD left _ rfl hrgx ?_ ?_)
   | go_in)
  · intro hc0 hl0;have hszx:w4.heap.size<=wr.heap.size:=hgx.size;have gwr:Gr (fun x=>w.heap.size<=x) w wr:=gw4.trans (hgx.wider fun _ h=>by omega);have hrcE:wr.heap[w.heap.size+1]?=some (.cells #[.int .i64 f,.int .i64 cl,.int .i64 rt,.int .i64 0,.int .i64 0,.int .i64 0,.bool false] 42 (0,0)):=by
     rw [hrc];unfold rcells;rw [hl0,hl0,hl0];rfl
    obtain ⟨e8,_⟩:=z8 hbx 8 _ rfl;obtain ⟨e9,_⟩:=z8 hbx 9 _ rfl;have heapB:∀ {wA wB:World},wA.heap[w.heap.size+1]?=some (.cells #[.int .i64 f,.int .i64 cl,.int .i64 rt,.int .i64 0,.int .i64 0,.int .i64 0,.bool false] 42 (0,0))->w.heap.size+3<=wA.heap.size->Gr (fun _=>False) (wA.setCell ⟨w.heap.size+1,3,none⟩ (.int .i64 lv)) wB->wB.heap[w.heap.size+1]?=some (.cells #[.int .i64 f,.int .i64 cl,.int .i64 rt,.int .i64 lv,.int .i64 0,.int .i64 0,.bool false] 42 (0,0)):=by
     intro wA wB h1 h2 h3;rw [h3.same (w.heap.size+1) (Nat.lt_of_lt_of_le (by omega) (Gr.setCell (L:=fun x=>w.heap.size<=x) wA (w.heap.size+1) 3 (.int .i64 lv) (Nat.le_succ _)).size) id,z2o,if_pos rfl,h1];rfl
    have heapBox:∀ {wA wB:World},wA.heap[w.heap.size]?=some (.cells #[v0,v1,v2,v3,v4,v5,v6,v7,v8,v9,v10,.int .i64 o] 34 (0,0))->w.heap.size+3<=wA.heap.size->Gr (fun _=>False) (wA.setCell ⟨w.heap.size+1,3,none⟩ (.int .i64 lv)) wB->wB.heap[w.heap.size]?=some (.cells #[v0,v1,v2,v3,v4,v5,v6,v7,v8,v9,v10,.int .i64 o] 34 (0,0)):=by
     intro wA wB h1 h2 h3;rw [h3.same w.heap.size (Nat.lt_of_lt_of_le (by omega) (Gr.setCell (L:=fun x=>w.heap.size<=x) wA (w.heap.size+1) 3 (.int .i64 lv) (Nat.le_succ _)).size) id,z2o,if_neg (by omega),h1]
    clear hrgx hrc hgx HL HM;rcases hRo with ⟨hf,rfl⟩ | ⟨rfl,re,hRest,hRo⟩
    · have hfb:(f==0)=false:=by simpa using hf
      go_wp2_with (first
       | (go_at_call 27;refine (hWant wr gwr).mono ?_;rintro e wA ⟨rfl,hgA⟩;have gwA:Gr (fun x=>w.heap.size<=x) w wA:=gwr.trans (hgA.wider fun _ h=>h.elim);have hrA:=(hgA.same (w.heap.size+1) (by omega) id).trans hrcE;have hbA:=(hgA.same w.heap.size (by omega) id).trans hbx;obtain ⟨p3,q3⟩:=z8 hrA 3 _ rfl;obtain ⟨d4,_⟩:=z8 hbA 4 _ rfl;obtain ⟨d5,_⟩:=z8 hbA 5 _ rfl;obtain ⟨d6,_⟩:=z8 hbA 6 _ rfl;obtain ⟨d7,_⟩:=z8 hbA 7 _ rfl;have szA:w.heap.size+3<=wA.heap.size:=Nat.le_trans (by omega) hgA.size)
       | (go_at_call 28;refine (hWear _ (gwA.trans (Gr.setCell (L:=fun x=>w.heap.size<=x) wA (w.heap.size+1) 3 (.int .i64 lv) (Nat.le_succ _)))).mono ?_;rintro e wB ⟨rfl,hgB⟩;have szB:w.heap.size+3<=wB.heap.size:=Nat.le_trans szA (Nat.le_trans (Gr.setCell (L:=fun x=>w.heap.size<=x) wA (w.heap.size+1) 3 (.int .i64 lv) (Nat.le_succ _)).size hgB.size);have gwB:Gr (fun x=>w.heap.size<=x) w wB:=(gwA.trans (Gr.setCell (L:=fun x=>w.heap.size<=x) wA (w.heap.size+1) 3 (.int .i64 lv) (Nat.le_succ _))).trans (hgB.wider fun _ h=>h.elim);have hrB:=heapB hrA szA hgB;have hbB:=heapBox hbA szA hgB;clear p3 q3 d4 d5 d6 d7;obtain ⟨p0,q0⟩:=z8 hrB 0 _ rfl;obtain ⟨p1,q1⟩:=z8 hrB 1 _ rfl;obtain ⟨p2,q2⟩:=z8 hrB 2 _ rfl;obtain ⟨p3,q3⟩:=z8 hrB 3 _ rfl;obtain ⟨p4,q4⟩:=z8 hrB 4 _ rfl;obtain ⟨p5,q5⟩:=z8 hrB 5 _ rfl;obtain ⟨p6,q6⟩:=z8 hrB 6 _ rfl;obtain ⟨d4,_⟩:=z8 hbB 4 _ rfl;obtain ⟨d5,_⟩:=z8 hbB 5 _ rfl;obtain ⟨d6,_⟩:=z8 hbB 6 _ rfl;obtain ⟨d7,_⟩:=z8 hbB 7 _ rfl;obtain ⟨d8,_⟩:=z8 hbB 8 _ rfl;obtain ⟨d9,_⟩:=z8 hbB 9 _ rfl;obtain ⟨d11,_⟩:=z8 hbB 11 _ rfl;obtain ⟨sM,hM⟩:=store2 wB hrB (e':=.int .i64 le) (f':=.int .i64 mo);have gM:=gwB.trans (sM.wider (L':=fun x=>w.heap.size<=x) fun x h=>by omega);have szM:w.heap.size+3<=((wB.setCell ⟨w.heap.size+1,4,none⟩ (.int .i64 le)).setCell ⟨w.heap.size+1,5,none⟩ (.int .i64 mo)).heap.size:=Nat.le_trans szB sM.size;have bM:=(sM.same w.heap.size (by omega) (by omega)).trans hbB)
       | go_in)
      obtain ⟨sE,hE⟩:=store8 ((wB.setCell ⟨w.heap.size+1,4,none⟩ (.int .i64 le)).setCell ⟨w.heap.size+1,5,none⟩ (.int .i64 mo)) hM (a':=.int .i64 f) (b':=.int .i64 cl) (c':=.int .i64 rt) (d':=.int .i64 lv) (e':=.int .i64 le) (f':=.int .i64 mo) (g':=.bool (false)) (g2:=.bool (false));have gE:=gM.trans (sE.wider (L':=fun x=>w.heap.size<=x) fun x h=>by omega);revert hE gE
      generalize ((((((((((wB.setCell ⟨w.heap.size+1,4,none⟩ (.int .i64 le)).setCell ⟨w.heap.size+1,5,none⟩ (.int .i64 mo)).setCell ⟨w.heap.size+1,6,none⟩ (.bool (false))).setCell ⟨w.heap.size+1,0,none⟩ (.int .i64 f)).setCell ⟨w.heap.size+1,1,none⟩ (.int .i64 cl)).setCell ⟨w.heap.size+1,2,none⟩ (.int .i64 rt)).setCell ⟨w.heap.size+1,3,none⟩ (.int .i64 lv)).setCell ⟨w.heap.size+1,4,none⟩ (.int .i64 le)).setCell ⟨w.heap.size+1,5,none⟩ (.int .i64 mo)).setCell ⟨w.heap.size+1,6,none⟩ (.bool (false)))=WE;intro hE gE;clear p0 p1 p2 p3 p4 p5 p6 q0 q1 q2 q3 q4 q5 q6;obtain ⟨p0,_⟩:=z8 hE 0 _ rfl;obtain ⟨p1,_⟩:=z8 hE 1 _ rfl;obtain ⟨p2,_⟩:=z8 hE 2 _ rfl;obtain ⟨p3,_⟩:=z8 hE 3 _ rfl;obtain ⟨p4,_⟩:=z8 hE 4 _ rfl;obtain ⟨p5,_⟩:=z8 hE 5 _ rfl;obtain ⟨p6,_⟩:=z8 hE 6 _ rfl;simp [bodyPost,results,Tryz.results9,go_sem,p0,p1,p2,p3,p4,p5,p6];exact ⟨gE.os,gE.tape,gE.output,gE.size,fun r hr _=>gE.same r hr (by omega)⟩
    · rcases hRo with ⟨hre,rfl⟩ | ⟨rfl,vi,hVic,rfl⟩
      · have hreb:(re==0)=false:=by simpa using hre
        go_wp2_with (first
         | (go_at_call 27;refine (hWant wr gwr).mono ?_;rintro e wA ⟨rfl,hgA⟩;have gwA:Gr (fun x=>w.heap.size<=x) w wA:=gwr.trans (hgA.wider fun _ h=>h.elim);have hrA:=(hgA.same (w.heap.size+1) (by omega) id).trans hrcE;have hbA:=(hgA.same w.heap.size (by omega) id).trans hbx;obtain ⟨p3,q3⟩:=z8 hrA 3 _ rfl;obtain ⟨d4,_⟩:=z8 hbA 4 _ rfl;obtain ⟨d5,_⟩:=z8 hbA 5 _ rfl;obtain ⟨d6,_⟩:=z8 hbA 6 _ rfl;obtain ⟨d7,_⟩:=z8 hbA 7 _ rfl;have szA:w.heap.size+3<=wA.heap.size:=Nat.le_trans (by omega) hgA.size)
         | (go_at_call 28;refine (hWear _ (gwA.trans (Gr.setCell (L:=fun x=>w.heap.size<=x) wA (w.heap.size+1) 3 (.int .i64 lv) (Nat.le_succ _)))).mono ?_;rintro e wB ⟨rfl,hgB⟩;have szB:w.heap.size+3<=wB.heap.size:=Nat.le_trans szA (Nat.le_trans (Gr.setCell (L:=fun x=>w.heap.size<=x) wA (w.heap.size+1) 3 (.int .i64 lv) (Nat.le_succ _)).size hgB.size);have gwB:Gr (fun x=>w.heap.size<=x) w wB:=(gwA.trans (Gr.setCell (L:=fun x=>w.heap.size<=x) wA (w.heap.size+1) 3 (.int .i64 lv) (Nat.le_succ _))).trans (hgB.wider fun _ h=>h.elim);have hrB:=heapB hrA szA hgB;have hbB:=heapBox hbA szA hgB;clear p3 q3 d4 d5 d6 d7;obtain ⟨p0,q0⟩:=z8 hrB 0 _ rfl;obtain ⟨p1,q1⟩:=z8 hrB 1 _ rfl;obtain ⟨p2,q2⟩:=z8 hrB 2 _ rfl;obtain ⟨p3,q3⟩:=z8 hrB 3 _ rfl;obtain ⟨p4,q4⟩:=z8 hrB 4 _ rfl;obtain ⟨p5,q5⟩:=z8 hrB 5 _ rfl;obtain ⟨p6,q6⟩:=z8 hrB 6 _ rfl;obtain ⟨d4,_⟩:=z8 hbB 4 _ rfl;obtain ⟨d5,_⟩:=z8 hbB 5 _ rfl;obtain ⟨d6,_⟩:=z8 hbB 6 _ rfl;obtain ⟨d7,_⟩:=z8 hbB 7 _ rfl;obtain ⟨d8,_⟩:=z8 hbB 8 _ rfl;obtain ⟨d9,_⟩:=z8 hbB 9 _ rfl;obtain ⟨d11,_⟩:=z8 hbB 11 _ rfl;obtain ⟨sM,hM⟩:=store2 wB hrB (e':=.int .i64 le) (f':=.int .i64 mo);have gM:=gwB.trans (sM.wider (L':=fun x=>w.heap.size<=x) fun x h=>by omega);have szM:w.heap.size+3<=((wB.setCell ⟨w.heap.size+1,4,none⟩ (.int .i64 le)).setCell ⟨w.heap.size+1,5,none⟩ (.int .i64 mo)).heap.size:=Nat.le_trans szB sM.size;have bM:=(sM.same w.heap.size (by omega) (by omega)).trans hbB)
         | (go_at_call 29;refine (hRest _ gM).mono ?_;rintro e wC ⟨rfl,hgC⟩;have szC:w.heap.size+3<=wC.heap.size:=Nat.le_trans szM hgC.size;have gwC:Gr (fun x=>w.heap.size<=x) w wC:=gM.trans (hgC.wider fun _ h=>h.elim);have hrC:=(hgC.same (w.heap.size+1) (by omega) id).trans hM;have hbC:=(hgC.same w.heap.size (by omega) id).trans bM;clear p0 p1 p2 p3 p4 p5 p6 q0 q1 q2 q3 q4 q5 q6 d4 d5 d6 d7 d8 d9 d11;obtain ⟨p0,q0⟩:=z8 hrC 0 _ rfl;obtain ⟨p1,q1⟩:=z8 hrC 1 _ rfl;obtain ⟨p2,q2⟩:=z8 hrC 2 _ rfl;obtain ⟨p3,q3⟩:=z8 hrC 3 _ rfl;obtain ⟨p4,q4⟩:=z8 hrC 4 _ rfl;obtain ⟨p5,q5⟩:=z8 hrC 5 _ rfl;obtain ⟨p6,q6⟩:=z8 hrC 6 _ rfl;obtain ⟨d4,_⟩:=z8 hbC 4 _ rfl;obtain ⟨d5,_⟩:=z8 hbC 5 _ rfl;obtain ⟨d6,_⟩:=z8 hbC 6 _ rfl;obtain ⟨d7,_⟩:=z8 hbC 7 _ rfl;obtain ⟨d8,_⟩:=z8 hbC 8 _ rfl;obtain ⟨d9,_⟩:=z8 hbC 9 _ rfl;obtain ⟨d11,_⟩:=z8 hbC 11 _ rfl)
         | go_in)
        obtain ⟨sE,hE⟩:=store8 wC hrC (a':=.int .i64 0) (b':=.int .i64 cl) (c':=.int .i64 rt) (d':=.int .i64 lv) (e':=.int .i64 le) (f':=.int .i64 mo) (g':=.bool (false)) (g2:=.bool (false));have gE:=gwC.trans (sE.wider (L':=fun x=>w.heap.size<=x) fun x h=>by omega);revert hE gE
        generalize ((((((((wC.setCell ⟨w.heap.size+1,6,none⟩ (.bool (false))).setCell ⟨w.heap.size+1,0,none⟩ (.int .i64 0)).setCell ⟨w.heap.size+1,1,none⟩ (.int .i64 cl)).setCell ⟨w.heap.size+1,2,none⟩ (.int .i64 rt)).setCell ⟨w.heap.size+1,3,none⟩ (.int .i64 lv)).setCell ⟨w.heap.size+1,4,none⟩ (.int .i64 le)).setCell ⟨w.heap.size+1,5,none⟩ (.int .i64 mo)).setCell ⟨w.heap.size+1,6,none⟩ (.bool (false)))=WE;intro hE gE;clear p0 p1 p2 p3 p4 p5 p6 q0 q1 q2 q3 q4 q5 q6;obtain ⟨p0,_⟩:=z8 hE 0 _ rfl;obtain ⟨p1,_⟩:=z8 hE 1 _ rfl;obtain ⟨p2,_⟩:=z8 hE 2 _ rfl;obtain ⟨p3,_⟩:=z8 hE 3 _ rfl;obtain ⟨p4,_⟩:=z8 hE 4 _ rfl;obtain ⟨p5,_⟩:=z8 hE 5 _ rfl;obtain ⟨p6,_⟩:=z8 hE 6 _ rfl;simp [bodyPost,results,Tryz.results9,go_sem,p0,p1,p2,p3,p4,p5,p6];exact ⟨gE.os,gE.tape,gE.output,gE.size,fun r hr _=>gE.same r hr (by omega)⟩
      · go_wp2_with (first
         | (go_at_call 27;refine (hWant wr gwr).mono ?_;rintro e wA ⟨rfl,hgA⟩;have gwA:Gr (fun x=>w.heap.size<=x) w wA:=gwr.trans (hgA.wider fun _ h=>h.elim);have hrA:=(hgA.same (w.heap.size+1) (by omega) id).trans hrcE;have hbA:=(hgA.same w.heap.size (by omega) id).trans hbx;obtain ⟨p3,q3⟩:=z8 hrA 3 _ rfl;obtain ⟨d4,_⟩:=z8 hbA 4 _ rfl;obtain ⟨d5,_⟩:=z8 hbA 5 _ rfl;obtain ⟨d6,_⟩:=z8 hbA 6 _ rfl;obtain ⟨d7,_⟩:=z8 hbA 7 _ rfl;have szA:w.heap.size+3<=wA.heap.size:=Nat.le_trans (by omega) hgA.size)
         | (go_at_call 28;refine (hWear _ (gwA.trans (Gr.setCell (L:=fun x=>w.heap.size<=x) wA (w.heap.size+1) 3 (.int .i64 lv) (Nat.le_succ _)))).mono ?_;rintro e wB ⟨rfl,hgB⟩;have szB:w.heap.size+3<=wB.heap.size:=Nat.le_trans szA (Nat.le_trans (Gr.setCell (L:=fun x=>w.heap.size<=x) wA (w.heap.size+1) 3 (.int .i64 lv) (Nat.le_succ _)).size hgB.size);have gwB:Gr (fun x=>w.heap.size<=x) w wB:=(gwA.trans (Gr.setCell (L:=fun x=>w.heap.size<=x) wA (w.heap.size+1) 3 (.int .i64 lv) (Nat.le_succ _))).trans (hgB.wider fun _ h=>h.elim);have hrB:=heapB hrA szA hgB;have hbB:=heapBox hbA szA hgB;clear p3 q3 d4 d5 d6 d7;obtain ⟨p0,q0⟩:=z8 hrB 0 _ rfl;obtain ⟨p1,q1⟩:=z8 hrB 1 _ rfl;obtain ⟨p2,q2⟩:=z8 hrB 2 _ rfl;obtain ⟨p3,q3⟩:=z8 hrB 3 _ rfl;obtain ⟨p4,q4⟩:=z8 hrB 4 _ rfl;obtain ⟨p5,q5⟩:=z8 hrB 5 _ rfl;obtain ⟨p6,q6⟩:=z8 hrB 6 _ rfl;obtain ⟨d4,_⟩:=z8 hbB 4 _ rfl;obtain ⟨d5,_⟩:=z8 hbB 5 _ rfl;obtain ⟨d6,_⟩:=z8 hbB 6 _ rfl;obtain ⟨d7,_⟩:=z8 hbB 7 _ rfl;obtain ⟨d8,_⟩:=z8 hbB 8 _ rfl;obtain ⟨d9,_⟩:=z8 hbB 9 _ rfl;obtain ⟨d11,_⟩:=z8 hbB 11 _ rfl;obtain ⟨sM,hM⟩:=store2 wB hrB (e':=.int .i64 le) (f':=.int .i64 mo);have gM:=gwB.trans (sM.wider (L':=fun x=>w.heap.size<=x) fun x h=>by omega);have szM:w.heap.size+3<=((wB.setCell ⟨w.heap.size+1,4,none⟩ (.int .i64 le)).setCell ⟨w.heap.size+1,5,none⟩ (.int .i64 mo)).heap.size:=Nat.le_trans szB sM.size;have bM:=(sM.same w.heap.size (by omega) (by omega)).trans hbB)
         | (go_at_call 29;refine (hRest _ gM).mono ?_;rintro e wC ⟨rfl,hgC⟩;have szC:w.heap.size+3<=wC.heap.size:=Nat.le_trans szM hgC.size;have gwC:Gr (fun x=>w.heap.size<=x) w wC:=gM.trans (hgC.wider fun _ h=>h.elim);have hrC:=(hgC.same (w.heap.size+1) (by omega) id).trans hM;have hbC:=(hgC.same w.heap.size (by omega) id).trans bM;clear p0 p1 p2 p3 p4 p5 p6 q0 q1 q2 q3 q4 q5 q6 d4 d5 d6 d7 d8 d9 d11;obtain ⟨p0,q0⟩:=z8 hrC 0 _ rfl;obtain ⟨p1,q1⟩:=z8 hrC 1 _ rfl;obtain ⟨p2,q2⟩:=z8 hrC 2 _ rfl;obtain ⟨p3,q3⟩:=z8 hrC 3 _ rfl;obtain ⟨p4,q4⟩:=z8 hrC 4 _ rfl;obtain ⟨p5,q5⟩:=z8 hrC 5 _ rfl;obtain ⟨p6,q6⟩:=z8 hrC 6 _ rfl;obtain ⟨d4,_⟩:=z8 hbC 4 _ rfl;obtain ⟨d5,_⟩:=z8 hbC 5 _ rfl;obtain ⟨d6,_⟩:=z8 hbC 6 _ rfl;obtain ⟨d7,_⟩:=z8 hbC 7 _ rfl;obtain ⟨d8,_⟩:=z8 hbC 8 _ rfl;obtain ⟨d9,_⟩:=z8 hbC 9 _ rfl;obtain ⟨d11,_⟩:=z8 hbC 11 _ rfl)
         | (go_at_call 30;refine (hVic _ gwC).mono ?_;rintro e wD ⟨rfl,hgD⟩;have szD:w.heap.size+3<=wD.heap.size:=Nat.le_trans szC hgD.size;have gwD:Gr (fun x=>w.heap.size<=x) w wD:=gwC.trans (hgD.wider fun _ h=>h.elim);have hrD:=(hgD.same (w.heap.size+1) (by omega) id).trans hrC;have hbD:=(hgD.same w.heap.size (by omega) id).trans hbC;clear p0 p1 p2 p3 p4 p5 p6 q0 q1 q2 q3 q4 q5 q6 d4 d5 d6 d7 d8 d9 d11;obtain ⟨p0,q0⟩:=z8 hrD 0 _ rfl;obtain ⟨p1,q1⟩:=z8 hrD 1 _ rfl;obtain ⟨p2,q2⟩:=z8 hrD 2 _ rfl;obtain ⟨p3,q3⟩:=z8 hrD 3 _ rfl;obtain ⟨p4,q4⟩:=z8 hrD 4 _ rfl;obtain ⟨p5,q5⟩:=z8 hrD 5 _ rfl;obtain ⟨p6,q6⟩:=z8 hrD 6 _ rfl;obtain ⟨d4,_⟩:=z8 hbD 4 _ rfl;obtain ⟨d5,_⟩:=z8 hbD 5 _ rfl;obtain ⟨d6,_⟩:=z8 hbD 6 _ rfl;obtain ⟨d7,_⟩:=z8 hbD 7 _ rfl;obtain ⟨d8,_⟩:=z8 hbD 8 _ rfl;obtain ⟨d9,_⟩:=z8 hbD 9 _ rfl;obtain ⟨d11,_⟩:=z8 hbD 11 _ rfl)
         | go_in)
        obtain ⟨sE,hE⟩:=store8 wD hrD (a':=.int .i64 0) (b':=.int .i64 cl) (c':=.int .i64 rt) (d':=.int .i64 lv) (e':=.int .i64 le) (f':=.int .i64 mo) (g':=.bool (decide (vi<0))) (g2:=.bool (decide (vi<0)));have gE:=gwD.trans (sE.wider (L':=fun x=>w.heap.size<=x) fun x h=>by omega);revert hE gE
        generalize ((((((((wD.setCell ⟨w.heap.size+1,6,none⟩ (.bool (decide (vi<0)))).setCell ⟨w.heap.size+1,0,none⟩ (.int .i64 0)).setCell ⟨w.heap.size+1,1,none⟩ (.int .i64 cl)).setCell ⟨w.heap.size+1,2,none⟩ (.int .i64 rt)).setCell ⟨w.heap.size+1,3,none⟩ (.int .i64 lv)).setCell ⟨w.heap.size+1,4,none⟩ (.int .i64 le)).setCell ⟨w.heap.size+1,5,none⟩ (.int .i64 mo)).setCell ⟨w.heap.size+1,6,none⟩ (.bool (decide (vi<0))))=WE;intro hE gE;clear p0 p1 p2 p3 p4 p5 p6 q0 q1 q2 q3 q4 q5 q6;obtain ⟨p0,_⟩:=z8 hE 0 _ rfl;obtain ⟨p1,_⟩:=z8 hE 1 _ rfl;obtain ⟨p2,_⟩:=z8 hE 2 _ rfl;obtain ⟨p3,_⟩:=z8 hE 3 _ rfl;obtain ⟨p4,_⟩:=z8 hE 4 _ rfl;obtain ⟨p5,_⟩:=z8 hE 5 _ rfl;obtain ⟨p6,_⟩:=z8 hE 6 _ rfl;simp [bodyPost,results,Tryz.results9,go_sem,p0,p1,p2,p3,p4,p5,p6];exact ⟨gE.os,gE.tape,gE.output,gE.size,fun r hr _=>gE.same r hr (by omega)⟩
  · intro x c kl ya yb w1 cnt1 hk hlk hy hat hrg1 hlt hg1 hs1 hen;obtain ⟨x',ex,rfl,_⟩:=Maps.keyOf_int_inv Tryz.underlying3 hk;cases ex;obtain ⟨i,ei,hi3,ey⟩:=z01y hy;cases ei;cases ey;have hsz1:wr.heap.size<=w1.heap.size:=hg1.size;have hszx:w4.heap.size<=wr.heap.size:=hgx.size;have hrc1:w1.heap[w.heap.size+1]?=some (.cells (rcells left f cl rt) 42 (0,0)):=((z1r hg1).same (w.heap.size+1) (by omega) (by omega)).trans hrc;have hbx1:w1.heap[w.heap.size]?=some (.cells #[v0,v1,v2,v3,v4,v5,v6,v7,v8,v9,v10,.int .i64 o] 34 (0,0)):=((z1r hg1).same w.heap.size (by omega) (by omega)).trans hbx;have gw1:Gr (fun x=>w.heap.size<=x) w w1:=(gw4.trans (hgx.wider fun _ h=>by omega)).trans ((z1r hg1).wider fun _ h=>by omega);obtain ⟨d4,_⟩:=z8 hbx1 4 _ rfl;obtain ⟨d5,_⟩:=z8 hbx1 5 _ rfl;obtain ⟨d6,_⟩:=z8 hbx1 6 _ rfl;obtain ⟨d7,_⟩:=z8 hbx1 7 _ rfl;obtain ⟨d11,_⟩:=z8 hbx1 11 _ rfl;have hx3:x=0 \/ x=2 \/ x=3:=by
     have:=HL.out _ hlk;simpa [z1s] using this
    have hlt:=hlt;rcases hx3 with rfl | rfl | rfl
    · have hc:c=0:=by
       have e:=(zzv (.map [])).1.symm.trans (hat (.map []));simp only [DataW.lit.injEq,z1s,Lit.int.injEq,true_and] at e;omega
      subst hc;have hcall:=(HM.out w1 gw1).1;go_wp2_with (first
       | (go_at_call 26;refine hcall.mono ?_;rintro e w5 ⟨rfl,hg5⟩;have hrc5:=(hg5.same (w.heap.size+1) (by omega) id).trans hrc1;obtain ⟨p0,q0⟩:=z8 (l:=(rcells left f cl rt).toList) hrc5 0 _ rfl)
       | go_in)
      have sc:=Gr.setCell (L:=fun x=>x=w.heap.size+1) w5 (w.heap.size+1) 0 (.int .i64 f) rfl;go_roundg cnt1
      case rel =>
       refine ⟨fun z=>left z&&!z.sameKey (z1s 0),(hrg1.kept (hg5.grown none) (by simp) (by simp)).kept (zi5 sc) (by simp) (by simp;omega),fun kl h=>HL.out kl (by simp only [Bool.and_eq_true] at h;exact h.1),?_,(((hgx.trans ((z1r hg1).wider fun _ h=>.inr h)).trans (hg5.wider fun _ h=>h.elim)).trans (sc.wider fun _ h=>.inl h))⟩;rw [z2o,if_pos rfl,hrc5];show some (Obj.cells ((rcells left f cl rt).setIfInBounds 0 (.int .i64 f)) 42 (0,0))=_;rw [(zla left f cl rt).1]
      case measure=>exact hlt
    · have hc:c=1:=by
       have e:=(zzv (.map [])).2.1.symm.trans (hat (.map []));simp only [DataW.lit.injEq,z1s,Lit.int.injEq,true_and] at e;omega
      subst hc;have hcall:=(HM.out w1 gw1).2.1;go_wp2_with (first
       | (go_at_call 26;refine hcall.mono ?_;rintro e w5 ⟨rfl,hg5⟩;have hrc5:=(hg5.same (w.heap.size+1) (by omega) id).trans hrc1;obtain ⟨p0,q0⟩:=z8 (l:=(rcells left f cl rt).toList) hrc5 1 _ rfl)
       | go_in)
      have sc:=Gr.setCell (L:=fun x=>x=w.heap.size+1) w5 (w.heap.size+1) 1 (.int .i64 cl) rfl;go_roundg cnt1
      case rel =>
       refine ⟨fun z=>left z&&!z.sameKey (z1s 2),(hrg1.kept (hg5.grown none) (by simp) (by simp)).kept (zi5 sc) (by simp) (by simp;omega),fun kl h=>HL.out kl (by simp only [Bool.and_eq_true] at h;exact h.1),?_,(((hgx.trans ((z1r hg1).wider fun _ h=>.inr h)).trans (hg5.wider fun _ h=>h.elim)).trans (sc.wider fun _ h=>.inl h))⟩;rw [z2o,if_pos rfl,hrc5];show some (Obj.cells ((rcells left f cl rt).setIfInBounds 1 (.int .i64 cl)) 42 (0,0))=_;rw [(zla left f cl rt).2.1]
      case measure=>exact hlt
    · have hc:c=2:=by
       have e:=(zzv (.map [])).2.2.symm.trans (hat (.map []));simp only [DataW.lit.injEq,z1s,Lit.int.injEq,true_and] at e;omega
      subst hc;have hcall:=(HM.out w1 gw1).2.2;go_wp2_with (first
       | (go_at_call 26;refine hcall.mono ?_;rintro e w5 ⟨rfl,hg5⟩;have hrc5:=(hg5.same (w.heap.size+1) (by omega) id).trans hrc1;obtain ⟨p0,q0⟩:=z8 (l:=(rcells left f cl rt).toList) hrc5 2 _ rfl)
       | go_in)
      have sc:=Gr.setCell (L:=fun x=>x=w.heap.size+1) w5 (w.heap.size+1) 2 (.int .i64 rt) rfl;go_roundg cnt1
      case rel =>
       refine ⟨fun z=>left z&&!z.sameKey (z1s 3),(hrg1.kept (hg5.grown none) (by simp) (by simp)).kept (zi5 sc) (by simp) (by simp;omega),fun kl h=>HL.out kl (by simp only [Bool.and_eq_true] at h;exact h.1),?_,(((hgx.trans ((z1r hg1).wider fun _ h=>.inr h)).trans (hg5.wider fun _ h=>h.elim)).trans (sc.wider fun _ h=>.inl h))⟩;rw [z2o,if_pos rfl,hrc5];show some (Obj.cells ((rcells left f cl rt).setIfInBounds 2 (.int .i64 rt)) 42 (0,0))=_;rw [(zla left f cl rt).2.2]
      case measure=>exact hlt
end Go.Proofs.YtbdmoijmcondcaaGreat
namespace Clk
open Go Go.Proofs Go.Shelf Go.Sort Go.RowKit Go.Lib
def cmpI (x y:Int):Int:=if x<y then -1 else if y<x then 1 else 0
def orI (x y:Int):Int:=if x=0 then y else x
def cfK {α:Type} (key:α->Int×Int) (x y:α):Int:=orI (cmpI (key x).1 (key y).1) (cmpI (key x).2 (key y).2)
theorem z0a5 {α:Type} (key:α->Int×Int) (x y:α):ltOf (cfK key) x y=true↔((key x).1<(key y).1 \/ ((key x).1=(key y).1 /\ (key x).2<(key y).2)):=by
 unfold ltOf cfK orI cmpI;rw [decide_eq_true_iff];repeat' split
 all_goals (constructor <;> intro h <;> omega)
theorem z01z {α:Type} (key:α->Int×Int) (x y:α):ltOf (cfK key) x y=false↔¬ ((key x).1<(key y).1 \/ ((key x).1=(key y).1 /\ (key x).2<(key y).2)):=by
 rw [<- z0a5];simp
theorem z0db {α:Type} (key:α->Int×Int):SWO (ltOf (cfK key)) where
 irrefl x:=by rw [z01z];omega
 trans x y z h1 h2:=by rw [z0a5] at *;omega
 ntrans x y z h1 h2:=by rw [z01z] at *;omega
end Clk
namespace Clk
open Go Go.Proofs Go.Shelf Go.Sort Go.RowKit Go.Lib
structure SortAt (P:Program) (f g:Nat):Prop where
 none:∀ (p:Option Addr) (cap:Nat) (fv:Value) (w:World),Calls P f #[.slice p 0 cap,fv] w fun e w'=>e=.returned (.tuple #[]) /\ w'=w
 sort:∀ (m:Nat) (enc:Fin (m+1)->List Value),(∀ x,(enc x).length=5)->(∀ x,∀ v∈enc x,v.oneCell'=true)->∀ (cf:Fin (m+1)->Fin (m+1)->Int),SWO (ltOf cf)->∀ (blk off cap:Nat) (d:Array (Fin (m+1))) (w:World),
  CmpLays P g #[] enc 5 cf blk off d.size w->HoldsK enc 5 w blk off d->blk<w.heap.size->d.size<4611686018427387904->(∀ x y,(ltOf cf) x y=false->(ltOf cf) y x=false->x=y) ->
  Calls P f #[.slice (some ⟨blk,off,.none⟩) d.size cap,.func (.func g) #[] #[]] w fun e w'=>e=.returned (.tuple #[]) /\ ∃ n os,w'=sortWorldK enc 5 w blk off n (d.toList.mergeSort fun x y=>!(ltOf cf) y x).toArray os
 cmp:∀ (p k s:Int) (u v:Value) (p' k' s':Int) (u' v':Value),u.oneCell'=true->v.oneCell'=true->u'.oneCell'=true->v'.oneCell'=true->∀ W:World,
  Calls P g #[.agg #[.int .i64 p,.int .i64 k,.int .i64 s,u,v],.agg #[.int .i64 p',.int .i64 k',.int .i64 s',u',v']] W fun e w'=>e=.returned (.int .i64 (orI (cmpI s s') (cmpI p p'))) /\ ∃ q os',w'=grow (W.drewN q) os'
end Clk
namespace Go.Proofs
open Go.Shelf
def Tryz.sortL_ren:Go.Shelf.Ren:=⟨fun | 6=>54 | 15=>78 | 14=>77 | 28=>104 | 29=>105 | 20=>96 | 21=>97 | 22=>98 | 23=>99 | 24=>100 | 25=>101 | 26=>102 | 27=>103 | 46=>112 | 47=>113 | 48=>114 | 49=>115 | 50=>116 | 57=>120 | n=>n,fun | 22=>36 | 24=>30 | 25=>76 | 3=>3 | 39=>141 | 0=>0 | 53=>167 | 55=>169 | 4=>4 | 46=>160 | 45=>159 | 50=>164 | 5=>5 | 9=>9 | 66=>176 | 70=>77 | 76=>184 | 77=>81 | n=>n,fun | n=>n⟩
theorem Tryz.sortL:Go.Proofs.SlLaysF.n6 Tryz.prog Tryz.sortL_ren:={
 mixed:=by kernel_rfl
 f6:=⟨Tryz.f54.name,by decide,Tryz.func54.trans (congrArg some (by kernel_rfl))⟩
 f14:=⟨Tryz.f77.name,by decide,Tryz.func77.trans (congrArg some (by kernel_rfl))⟩
 f15:=Tryz.func78.trans (congrArg some (by kernel_rfl))
 f20:=⟨Tryz.f96.name,by decide,Tryz.func96.trans (congrArg some (by kernel_rfl))⟩
 f21:=⟨Tryz.f97.name,by decide,Tryz.func97.trans (congrArg some (by kernel_rfl))⟩
 f22:=⟨Tryz.f98.name,by decide,Tryz.func98.trans (congrArg some (by kernel_rfl))⟩
 f23:=⟨Tryz.f99.name,by decide,Tryz.func99.trans (congrArg some (by kernel_rfl))⟩
 f24:=⟨Tryz.f100.name,by decide,Tryz.func100.trans (congrArg some (by kernel_rfl))⟩
 f25:=⟨Tryz.f101.name,by decide,Tryz.func101.trans (congrArg some (by kernel_rfl))⟩
 f26:=⟨Tryz.f102.name,by decide,Tryz.func102.trans (congrArg some (by kernel_rfl))⟩
 f27:=⟨Tryz.f103.name,by decide,Tryz.func103.trans (congrArg some (by kernel_rfl))⟩
 f28:=Tryz.func104.trans (congrArg some (by kernel_rfl))
 f29:=Tryz.func105.trans (congrArg some (by kernel_rfl))
 f46:=⟨Tryz.f112.name,by decide,Tryz.func112.trans (congrArg some (by kernel_rfl))⟩
 f47:=Tryz.func113.trans (congrArg some (by kernel_rfl))
 f48:=Tryz.func114.trans (congrArg some (by kernel_rfl))
 f49:=⟨Tryz.f115.name,by decide,Tryz.func115.trans (congrArg some (by kernel_rfl))⟩
 f50:=⟨Tryz.f116.name,by decide,Tryz.func116.trans (congrArg some (by kernel_rfl))⟩
 f57:=⟨Tryz.f120.name,by decide,Tryz.func120.trans (congrArg some (by kernel_rfl))⟩
 t0:=Tryz.underlying0
 a0:=Tryz.isAgg0
 z0:=Tryz.sizeOf0
 v0:=Tryz.zeroValue0
 t3:=Tryz.underlying3
 a3:=Tryz.isAgg3
 z3:=Tryz.sizeOf3
 v3:=Tryz.zeroValue3
 t4:=Tryz.underlying4
 a4:=Tryz.isAgg4
 z4:=Tryz.sizeOf4
 v4:=Tryz.zeroValue4
 t5:=Tryz.underlying5
 a5:=Tryz.isAgg5
 z5:=Tryz.sizeOf5
 v5:=Tryz.zeroValue5
 t9:=Tryz.underlying9
 a9:=Tryz.isAgg9
 z9:=Tryz.sizeOf9
 v9:=Tryz.zeroValue9
 t22:=Tryz.underlying36
 a22:=Tryz.isAgg36
 z22:=Tryz.sizeOf36
 v22:=Tryz.zeroValue36
 a24:=Tryz.isAgg30
 z24:=Tryz.sizeOf30
 t25:=Tryz.underlying76
 a25:=Tryz.isAgg76
 z25:=Tryz.sizeOf76
 v25:=Tryz.zeroValue76
 t39:=Tryz.underlying141
 a39:=Tryz.isAgg141
 z39:=Tryz.sizeOf141
 v39:=Tryz.zeroValue141
 t45:=Tryz.underlying159
 a45:=Tryz.isAgg159
 z45:=Tryz.sizeOf159
 v45:=Tryz.zeroValue159
 t46:=Tryz.underlying160
 a46:=Tryz.isAgg160
 z46:=Tryz.sizeOf160
 v46:=Tryz.zeroValue160
 t50:=Tryz.underlying164
 a50:=Tryz.isAgg164
 z50:=Tryz.sizeOf164
 v50:=Tryz.zeroValue164
 t53:=Tryz.underlying167
 a53:=Tryz.isAgg167
 z53:=Tryz.sizeOf167
 v53:=Tryz.zeroValue167
 t55:=Tryz.underlying169
 a55:=Tryz.isAgg169
 z55:=Tryz.sizeOf169
 v55:=Tryz.zeroValue169
 t66:=Tryz.underlying176
 a66:=Tryz.isAgg176
 z66:=Tryz.sizeOf176
 v66:=Tryz.zeroValue176
 t70:=Tryz.underlying77
 a70:=Tryz.isAgg77
 z70:=Tryz.sizeOf77
 v70:=Tryz.zeroValue77
 t76:=Tryz.underlying184
 a76:=Tryz.isAgg184
 z76:=Tryz.sizeOf184
 v76:=Tryz.zeroValue184
 t77:=Tryz.underlying81
 a77:=Tryz.isAgg81
 z77:=Tryz.sizeOf81
 v77:=Tryz.zeroValue81 }
def Tryz.sortN_ren:Go.Shelf.Ren:=⟨fun | 6=>54 | 15=>78 | 14=>77 | 28=>104 | 29=>105 | 20=>96 | 21=>97 | 22=>98 | 23=>99 | 24=>100 | 25=>101 | 26=>102 | 27=>103 | 46=>112 | 47=>113 | 48=>114 | 49=>115 | 50=>116 | 57=>120 | n=>n,fun | 22=>36 | 24=>30 | 25=>76 | 3=>3 | 39=>141 | 0=>0 | 53=>167 | 55=>169 | 4=>4 | 46=>160 | 45=>159 | 50=>164 | 5=>5 | 9=>9 | 66=>176 | 70=>77 | 76=>184 | 77=>81 | n=>n,fun | n=>n⟩
theorem Tryz.sortN:Go.Proofs.SlLaysF0.n6 Tryz.prog Tryz.sortN_ren:={
 mixed:=by kernel_rfl
 f6:=⟨Tryz.f54.name,by decide,Tryz.func54.trans (congrArg some (by kernel_rfl))⟩
 f14:=⟨Tryz.f77.name,by decide,Tryz.func77.trans (congrArg some (by kernel_rfl))⟩
 f15:=Tryz.func78.trans (congrArg some (by kernel_rfl))
 f20:=⟨Tryz.f96.name,by decide,Tryz.func96.trans (congrArg some (by kernel_rfl))⟩
 f21:=⟨Tryz.f97.name,by decide,Tryz.func97.trans (congrArg some (by kernel_rfl))⟩
 f22:=⟨Tryz.f98.name,by decide,Tryz.func98.trans (congrArg some (by kernel_rfl))⟩
 f23:=⟨Tryz.f99.name,by decide,Tryz.func99.trans (congrArg some (by kernel_rfl))⟩
 f24:=⟨Tryz.f100.name,by decide,Tryz.func100.trans (congrArg some (by kernel_rfl))⟩
 f25:=⟨Tryz.f101.name,by decide,Tryz.func101.trans (congrArg some (by kernel_rfl))⟩
 f26:=⟨Tryz.f102.name,by decide,Tryz.func102.trans (congrArg some (by kernel_rfl))⟩
 f27:=⟨Tryz.f103.name,by decide,Tryz.func103.trans (congrArg some (by kernel_rfl))⟩
 f28:=Tryz.func104.trans (congrArg some (by kernel_rfl))
 f29:=Tryz.func105.trans (congrArg some (by kernel_rfl))
 f46:=⟨Tryz.f112.name,by decide,Tryz.func112.trans (congrArg some (by kernel_rfl))⟩
 f47:=Tryz.func113.trans (congrArg some (by kernel_rfl))
 f48:=Tryz.func114.trans (congrArg some (by kernel_rfl))
 f49:=⟨Tryz.f115.name,by decide,Tryz.func115.trans (congrArg some (by kernel_rfl))⟩
 f50:=⟨Tryz.f116.name,by decide,Tryz.func116.trans (congrArg some (by kernel_rfl))⟩
 f57:=⟨Tryz.f120.name,by decide,Tryz.func120.trans (congrArg some (by kernel_rfl))⟩
 t0:=Tryz.underlying0
 a0:=Tryz.isAgg0
 z0:=Tryz.sizeOf0
 v0:=Tryz.zeroValue0
 t3:=Tryz.underlying3
 a3:=Tryz.isAgg3
 z3:=Tryz.sizeOf3
 v3:=Tryz.zeroValue3
 t4:=Tryz.underlying4
 a4:=Tryz.isAgg4
 z4:=Tryz.sizeOf4
 v4:=Tryz.zeroValue4
 t5:=Tryz.underlying5
 a5:=Tryz.isAgg5
 z5:=Tryz.sizeOf5
 v5:=Tryz.zeroValue5
 t9:=Tryz.underlying9
 a9:=Tryz.isAgg9
 z9:=Tryz.sizeOf9
 v9:=Tryz.zeroValue9
 t22:=Tryz.underlying36
 a22:=Tryz.isAgg36
 z22:=Tryz.sizeOf36
 v22:=Tryz.zeroValue36
 t25:=Tryz.underlying76
 a25:=Tryz.isAgg76
 z25:=Tryz.sizeOf76
 v25:=Tryz.zeroValue76
 t39:=Tryz.underlying141
 a39:=Tryz.isAgg141
 z39:=Tryz.sizeOf141
 v39:=Tryz.zeroValue141
 t45:=Tryz.underlying159
 a45:=Tryz.isAgg159
 z45:=Tryz.sizeOf159
 v45:=Tryz.zeroValue159
 t46:=Tryz.underlying160
 a46:=Tryz.isAgg160
 z46:=Tryz.sizeOf160
 v46:=Tryz.zeroValue160
 t50:=Tryz.underlying164
 a50:=Tryz.isAgg164
 z50:=Tryz.sizeOf164
 v50:=Tryz.zeroValue164
 t53:=Tryz.underlying167
 a53:=Tryz.isAgg167
 z53:=Tryz.sizeOf167
 v53:=Tryz.zeroValue167
 t55:=Tryz.underlying169
 a55:=Tryz.isAgg169
 z55:=Tryz.sizeOf169
 v55:=Tryz.zeroValue169
 t66:=Tryz.underlying176
 a66:=Tryz.isAgg176
 z66:=Tryz.sizeOf176
 v66:=Tryz.zeroValue176
 t70:=Tryz.underlying77
 a70:=Tryz.isAgg77
 z70:=Tryz.sizeOf77
 v70:=Tryz.zeroValue77
 t76:=Tryz.underlying184
 a76:=Tryz.isAgg184
 z76:=Tryz.sizeOf184
 v76:=Tryz.zeroValue184
 t77:=Tryz.underlying81
 a77:=Tryz.isAgg81
 z77:=Tryz.sizeOf81
 v77:=Tryz.zeroValue81 }
end Go.Proofs
namespace Go.Proofs.YtbdmoijmcondcaaGreat
open Clk Go Go.Proofs Go.Shelf Go.RowKit Go.Lib Go.Sort
theorem nan56 (x:Int) (W:World):Calls Tryz.prog 56 #[.int .i64 x] W fun e w'=>e=.returned (.bool false) /\ w'=W:=by
 go_enter Tryz.func56,Tryz.ntmps56
 go_wp2
 go_ret
 simp
set_option maxHeartbeats 1000000 in
theorem cmp24 (x y:Int) (W:World):Calls Tryz.prog 24 #[.int .i64 x,.int .i64 y] W fun e w'=>e=.returned (.int .i64 (cmpI x y)) /\ w'=W:=by
 have hn:=nan56;unfold cmpI;go_enter Tryz.func24,Tryz.ntmps24
 go_wp2_with (go_at_call 56;refine (hn _ _).mono ?_;rintro e w' ⟨rfl,rfl⟩)
 all_goals go_ret
 all_goals refine ⟨?_,rfl⟩
 all_goals first
  | rfl
  | rw [if_pos (by assumption)]
  | rw [if_neg (by omega),if_pos (by assumption)]
  | rw [if_neg (by omega),if_neg (by omega)]
set_option maxHeartbeats 4000000 in
theorem cmp23 (b1 o1 n1 c1 b2 o2 n2 c2:Nat) (x y:Int) (W:World) (h1:0<n1) (h2:0<n2) (e1:W.cell? ⟨b1,o1,none⟩=some (.int .i64 x)) (e2:W.cell? ⟨b2,o2,none⟩=some (.int .i64 y)) :
 Calls Tryz.prog 23 #[.slice (some ⟨b1,o1,none⟩) n1 c1,.slice (some ⟨b2,o2,none⟩) n2 c2] W fun e w'=>e=.returned (.int .i64 (cmpI x y)) /\ ∃ q os',w'=grow (W.drewN q) os':=by
 have hc:=cmp24;go_enter Tryz.func23,Tryz.ntmps23
 go_wp2
 refine wp_region_still_tail 7 (by kernel_rfl) (by kernel_rfl) ?_;simp only [List.take_succ_cons,List.take_zero,List.drop_succ_cons,List.drop_zero];obtain ⟨W3,hW3⟩:∃ W3:World,W3={ heap:=W.heap,tape:=W.tape,drawn:=W.drawn+1,os:=W.os,output:=W.output }:=⟨_,rfl⟩;rw [<- hW3];have f1:W3.cell? ⟨b1,o1,none⟩=some (.int .i64 x):=by rw [hW3];exact e1
 have f2:W3.cell? ⟨b2,o2,none⟩=some (.int .i64 y):=by rw [hW3];exact e2
 have hg:∃ os,W3=grow (W.drewN 1) os:=⟨#[],by rw [hW3,grow_empty];rfl⟩;clear hW3 e1 e2;repeat still_step
 still_call (hc _ _ _)
 refine wpStill_nil ?_;go_wp2
 obtain ⟨os,rfl⟩:=hg;go_ret
 exact ⟨rfl,1,os,rfl⟩
end Go.Proofs.YtbdmoijmcondcaaGreat
namespace Go.Proofs.YtbdmoijmcondcaaGreat
open Go Go.Proofs Go.RowKit Go.Maps Go.Sort Go.Shelf
attribute [local go_sem] Oper.semAt_some
abbrev Sl:={ v:Value // ∃ a n c,v=.slice a n c }
def ValAt {H:Type} (R:Value->Option (DataW H×List MemPlace)) (D0:DataW H) (p:Int×Sl):Prop:=∃ y,R p.2.1=some y /\ ∀ zd,D0.atKey (.int .i64 p.1) zd=y.1
def AllVals {H:Type} (R:Value->Option (DataW H×List MemPlace)) (D0:DataW H) (xs:List Sl):Prop:=∃ ps:List (Int×Sl),xs=ps.map (·.2) /\ (ps.map (·.1)).Nodup /\ (∀ k,k∈ps.map (·.1)↔has D0 (.int .i64 k)=true) /\ ∀ p∈ps,ValAt R D0 p
theorem z06p:Keyed Tryz.prog 3:=int_keyed Tryz.underlying3
set_option maxHeartbeats 1000000 in
theorem z08x {H:Type} (F:Fence) (n:Nat) (h55:F.fn 55) (hro:F.round=none) (hn:1<=n) (l Bm b nn:Nat) (D0:DataW H) {R:Value->Option (DataW H×List MemPlace)} (hR0:∀ v y,R v=some y->∃ a n c,v=.slice a n c) (J Jx:List Sl->World->Prop)
 (hY:∀ pre x W,J pre W->pre.length<Maps.size D0->YieldAt F (n - 1) Tryz.prog l #[x.1] W fun e W' =>
   (e=.returned (.bool true) /\ J (pre++[x]) W' /\ KeepsWalks W W') \/ (e=.returned (.bool false) /\ Jx (pre++[x]) W'))
 (W:World) (hJ:AbidesFrom W.heap.size J) (hm:W.cell? ⟨Bm,0,none⟩=some (.map (some b))) (hown:W.ownsMap Tryz.prog 3 R b nn D0) (h0:J [] W) :
 CallsIn F n Tryz.prog 55 #[.func (.yield l) #[] #[],.pointer (some ⟨Bm,0,none⟩)] W fun e W'=>(∃ v,e=.returned v) /\
  ((∃ xs,AllVals R D0 xs /\ J xs W') \/ (∃ pre,True /\ Jx pre W')):=by
 refine callsIn_of_wp Tryz.func55 rfl h55 ?_ hro;simp only [Tryz.ntmps55,List.size_toArray,List.length_cons,List.length_nil,Nat.reduceAdd,Nat.reduceSub,Array.replicate_succ,Array.replicate_zero,List.push_toArray,List.append_toArray,List.nil_append,List.cons_append];gi_wp2_with (first
  | (gi_at_range;refine wpListIn_range_own _ rfl _ 69 rfl 3 30 z06p Tryz.underlying69 _ b nn _ rfl hown ?_;intro w0 hrg0 hg0 hs0)
  | gi_in)
 go_frame
 gi_loopw [4] (fun _ wr=>∃ (left:Lit->Bool) (cnt:Nat) (ps:List (Int×Sl)),wr.ranges Tryz.prog 3 R b W.heap.size nn D0 left cnt /\ ps.length+cnt<=Maps.size D0 /\ CollectedI D0 left (ps.map (·.1)) /\ (∀ p∈ps,ValAt R D0 p) /\ J (ps.map (·.2)) wr)
  (fun _ wr=>wr.rangeLeft b W.heap.size)
 case atStart =>
  exact ⟨_,_,[],hrg0,by simp,CollectedI.start D0,by simp,hJ [] W w0 none h0 hg0 (fun r e=>by cases e)⟩
 case round =>
  obtain ⟨left,cnt,ps,hrg,hcs,hC,hV,hJs⟩:=hrel;gi_wp2_with (first
   | (gi_at_next;refine wpListIn_next_ranges _ rfl _ rfl 3 z06p R (Value.int .i64) (fun x:Sl=>x.1) (fun key kl hk=>by obtain ⟨x,hx,_⟩:=Maps.keyOf_i64 Tryz.underlying3 hk;exact ⟨x,hx⟩) (fun v y hv=>⟨⟨v,hR0 v y hv⟩,rfl⟩) b W.heap.size nn _ _ _ rfl hrg ?_ ?_)
   | gi_in)
  · intro hc0 hl0;gi_wp2
    go_end0
    exact ⟨⟨_,rfl⟩,.inl ⟨ps.map (·.2),⟨ps,rfl,hC.1,fun k=>by rw [hC.2 k,hl0];simp,hV⟩,hJs⟩⟩
  · intro x cv ca cn cc hcv kl yd yp w2 cnt2 hkey hlk hv hat hrg2 hlt hg2 hs2 hen;subst hcv;obtain ⟨x',ex,rfl,_⟩:=Maps.keyOf_i64 Tryz.underlying3 hkey;cases ex;have hJ2:J (ps.map (·.2)) w2:=hJ _ wr w2 (some W.heap.size) hJs hg2 (fun r e=>by cases e;exact ⟨Nat.le_refl _,hrg.iter_walk⟩);obtain ⟨fn,tmps,assign,body,hy,hR⟩:=hY (ps.map (·.2)) ⟨.slice ca cn cc,ca,cn,cc,rfl⟩ w2 hJ2 (by simp;omega);clear hs2;have hVc:ValAt R D0 (x,(⟨.slice ca cn cc,ca,cn,cc,rfl⟩:Sl)):=⟨(yd,yp),hv,hat⟩;dsimp only at hy hen;gi_wp2
    refine hR.mono ?_;have hC2:=hC.step hlk hat;rintro e W3 (⟨rfl,hJ3,hk3⟩ | ⟨rfl,hJx3⟩)
    · gi_wp2
      have hrg3:=hrg2.of_walks hk3;go_roundw
      case rel =>
       refine ⟨_,cnt2,ps++[(x,⟨.slice ca cn cc,ca,cn,cc,rfl⟩)],hrg3,by simp;omega,by rw [List.map_append];exact hC2,fun p hp=>?_,by rw [List.map_append];exact hJ3⟩;rcases List.mem_append.1 hp with hp | hp
       · exact hV p hp
       · rw [List.mem_singleton.1 hp];exact hVc
      case measure=>rw [hrg3.left_eq,hrg.left_eq];exact hlt
    · gi_wp2
      refine bodyPost_ret (results_none rfl _ _ _) rfl ?_;exact ⟨⟨_,rfl⟩,.inr ⟨_,trivial,hJx3⟩⟩
theorem z042 {H:Type} (F:Fence) (n:Nat) (h55:F.fn 55) (hro:F.round=none) (hn:1<=n) (Bm b nn:Nat) (D0:DataW H) {R:Value->Option (DataW H×List MemPlace)} (hR0:∀ v y,R v=some y->∃ a n c,v=.slice a n c) (w:World) (hBm:Bm<w.heap.size)
 (hm:w.cell? ⟨Bm,0,none⟩=some (.map (some b))) (hown:w.ownsMap Tryz.prog 3 R b nn D0) :
 SeqStops F n Tryz.prog 55 #[.pointer (some ⟨Bm,0,none⟩)] (fun x:Sl=>x.1) (AllVals R D0) (fun _=>True) (Maps.size D0) w:=fun l J Jx W hW hJ _ hY h0=>by
 have hown':W.ownsMap Tryz.prog 3 R b nn D0:=by
  have hbl:=hown.lt;obtain ⟨es,clock,hb,Ft,hs,hD⟩:=hown;exact ⟨es,clock,(hW.block b hbl).trans hb,Ft,hs,hD⟩
 exact z08x F n h55 hro hn l Bm b nn D0 hR0 J Jx hY W hJ ((hW.cell (p:=⟨Bm,0,none⟩) hBm).trans hm) hown' h0
end Go.Proofs.YtbdmoijmcondcaaGreat
namespace Go.Proofs.YtbdmoijmcondcaaGreat
open Go Go.Proofs Go.RowKit Go.Maps Go.Sort Go.Shelf
attribute [local go_sem] Oper.semAt_some
theorem info30:(Tryz.prog.info? 30).map (fun i=>(i.zero,i.size,i.bytes))=some (some (.slice none 0 0),1,24):=by kernel_rfl
set_option maxHeartbeats 2000000 in
theorem z06q (F:Fence) (n:Nat) (h76:F.fn 76) (hro:F.round=none) (hn:3<=n) (gf:Nat) (lb:Array Value) (hFg:F.fn gf) (eg:∀ args w,(callFunc gf args).run Tryz.prog w=.ok (.enter gf args) w) (S Sp:List Sl->Prop) (N:Nat) (hN:N<=maxLen) (hNb:N*24<=140737488355328) (w:World)
 (hseq:SeqStops F (n - 1) Tryz.prog gf lb (fun x:Sl=>x.1) S Sp N w) :
 CallsIn F n Tryz.prog 76 #[.slice none 0 0,.func (.func gf) #[] lb] w fun e W'=>∃ v xs,e=.returned v /\ S xs /\ W'.ownsRow w.heap.size 30 1 v xs.length (xs.map (·.1)) /\ (v=.slice none 0 0↔xs=[]) /\ Below w.heap.size w W':=by
 have h1:1<=n:=by omega
 obtain ⟨i0,hi,hz0,hz1,hz2⟩:=info_parts info30;refine callsIn_of_wp_marks Tryz.func76 rfl h76 ?_ hro;simp only [Tryz.ntmps76,List.size_toArray,List.length_cons,List.length_nil,Nat.reduceAdd,Nat.reduceSub,Array.replicate_succ,Array.replicate_zero,List.push_toArray,List.append_toArray,List.nil_append,List.cons_append];gi_wp2
 have bO:=Boxed.new w 36 (.slice none 0 0);have hB0:Below w.heap.size w (w.alloc (.cells #[.slice none 0 0] 36)):=(Below.refl _ w).alloc (Nat.le_refl _) _;refine wpIn_rangeFunc_ownG hro h1 (gf:=gf) (lb:=lb) rfl hFg eg
  (encs:=fun x:Sl=>#[x.1]) (Kp:=KeepsWalks) (w0:=w) hseq walksK_t walksK_b hB0 (fun _=>rfl)
  (fun pre W=>(∃ v,Boxed W w.heap.size 36 v /\ W.ownsRow w.heap.size 30 1 v pre.length (pre.map (·.1)) /\ (v=.slice none 0 0↔pre=[])) /\ Below w.heap.size w W)
  (fun _ _ _=>False)
  (OwnFrom.and (Own.from (holdsRow_own (β:=List Sl) w.heap.size w.heap.size 36 30 1 (fun pre=>pre.length) (fun pre=>pre.map (·.1)) (fun pre v=>v=.slice none 0 0↔pre=[])) _) (ownFrom_below (Nat.le_refl _) (by simp)))
  (fun _ _ _ _ _ hs _ _=>hs)
  ⟨⟨_,bO,World.ownsRow_nil _ _ _ _,by simp⟩,hB0⟩
  (fun x=>{ tmps:=#[.slice none 0 0,.func (.func gf) #[] lb,.pointer (some ⟨w.heap.size,0,none⟩),undef,.slice none 0 0,x.1,.func (.func gf) #[] lb,x.1,undef,undef,undef,undef,undef],defers:=[] }) ?assign ?body ?done ?stop
 case assign =>
  intro l x W K hK;gi_wp2
  exact hK
 case body =>
  rintro l pre ⟨xv,xa,xn,xc,rfl⟩ W ⟨⟨v,hv,hrow,hnil⟩,hB⟩ hlt
  have hc:=hv.cell;gi_wp2_with (gi_at_builtin;refine wpListIn_append_own _ rfl _ _ 36 rfl w.heap.size 30 i0 (.slice none 0 0) 1 24 Tryz.underlying36 hi hz0 hz1 hz2 rfl (by decide) _ _ _ rfl (hrow.alloc _) ⟨W.heap.size,0,none⟩ 1 1 [.slice xa xn xc] rfl rfl (cell_one_new _ _ _) (by simp [Value.oneCell']) (by omega) (by omega) (by have:=hB.size;simp;omega) ?_;intro v' w1 hown' hgrow _;obtain ⟨g',cap',rfl⟩:=ownsRow_succ hown';obtain ⟨hv1,hv2,hr2,hk2,hb2⟩:=hv.appended (by decide) hrow hB.size (Nat.le_refl _) hown' hgrow;have hc1:=hv1.cell;have hf1:=hv1.frozen)
  exact ⟨hk2.from _,hk2.walks,⟨_,hv2,by simpa using hr2,by simp⟩,hB.trans hb2⟩
 case done =>
  rintro D ys W hD hS ⟨⟨v,hv,hrow,hnil⟩,hB⟩ hK
  have hc:=hv.cell;gi_wp2
  refine ⟨by simp,.inl ⟨_,_,rfl,run_takeDeferred hK,?_⟩⟩;exact ⟨_,results_tmp rfl _ _ _,v,ys,rfl,hS,ownsRow_putObj hrow _ hK rfl,hnil,hB.trans (belowK_b (w:=w) (Nat.le_refl _) W D _ _ (by simp at hD;omega) hK rfl rfl)⟩
 case stop =>
  rintro D c pre W _ _ h _
  exact h.elim
set_option maxHeartbeats 1000000 in
theorem z043 (F:Fence) (n:Nat) (h53:F.fn 53) (h76:F.fn 76) (hro:F.round=none) (hn:4<=n) (gf:Nat) (lb:Array Value) (hFg:F.fn gf) (eg:∀ args w,(callFunc gf args).run Tryz.prog w=.ok (.enter gf args) w) (S Sp:List Sl->Prop) (N:Nat) (hN:N<=maxLen) (hNb:N*24<=140737488355328) (w:World)
 (hseq:SeqStops F (n - 1 - 1) Tryz.prog gf lb (fun x:Sl=>x.1) S Sp N w) :
 CallsIn F n Tryz.prog 53 #[.func (.func gf) #[] lb] w fun e W'=>∃ v xs,e=.returned v /\ S xs /\ W'.ownsRow w.heap.size 30 1 v xs.length (xs.map (·.1)) /\ (v=.slice none 0 0↔xs=[]) /\ Below w.heap.size w W':=by
 have h1:1<=n:=by omega
 refine callsIn_of_wp Tryz.func53 rfl h53 ?_ hro;simp only [Tryz.ntmps53,List.size_toArray,List.length_cons,List.length_nil,Nat.reduceAdd,Nat.reduceSub,Array.replicate_succ,Array.replicate_zero,List.push_toArray,List.append_toArray,List.nil_append,List.cons_append];gi_wp2_with (gi_at_call 76;refine (z06q F (n - 1) h76 hro (by omega) gf lb hFg eg S Sp N hN hNb _ hseq).mono ?_;rintro e w' ⟨v,ss,rfl,hS,hrow,hnil,hb⟩)
 go_ret
 exact ⟨v,ss,rfl,hS,hrow,hnil,hb⟩
end Go.Proofs.YtbdmoijmcondcaaGreat
namespace Go.Proofs.YtbdmoijmcondcaaGreat
open Clk Go Go.Proofs Go.Shelf Go.RowKit Go.Lib Go.Sort
def fstOf (w:World) (x:Sl):Int:=match x.1 with
 | .slice (some a) _ _=>match w.cell? a with
   | some (.int _ y)=>y
   | _=>0
 | _=>0
def HasFst (w:World) (x:Sl):Prop:=∃ b o n c y,x.1=.slice (some ⟨b,o,none⟩) n c /\ 0<n /\ b<w.heap.size /\ w.cell? ⟨b,o,none⟩=some (.int .i64 y)
theorem HasFst.at {w:World} {x:Sl} (h:HasFst w x):∃ b o n c,x.1=.slice (some ⟨b,o,none⟩) n c /\ 0<n /\ b<w.heap.size /\ w.cell? ⟨b,o,none⟩=some (.int .i64 (fstOf w x)):=by
 obtain ⟨b,o,n,c,y,e,h1,h2,h3⟩:=h;refine ⟨b,o,n,c,e,h1,h2,?_⟩;have:fstOf w x=y:=by unfold fstOf;rw [e];simp only;rw [h3]
 rw [this];exact h3
theorem zjm {α:Type} [Inhabited α] {enc:α->Value} {w:World} {blk m r:Nat} {dk:Array α} {os:Array Obj} (hr:r<w.heap.size) (hne:r≠blk):(sortWorld enc w blk 0 m dk os).heap[r]?=w.heap[r]?:=by
 unfold sortWorld;show ((putRow enc (Sort.ahead w m) blk 0 dk).heap++os)[r]?=_;have hs:(putRow enc (Sort.ahead w m) blk 0 dk).heap.size=w.heap.size:=by simp [putRow,mapBlock,Sort.ahead]
 rw [Array.getElem?_append_left (by rw [hs];exact hr)];simp [putRow,mapBlock,Sort.ahead,Array.getElem?_modify,show blk≠r by omega]
theorem zp1 {α:Type} [Inhabited α] (enc:α->Value) (w:World) (blk m:Nat) (dk:Array α) (os:Array Obj):w.grownBy (sortWorld enc w blk 0 m dk os) (some blk) :=
 ⟨rfl,rfl,rfl,by show w.heap.size<=((putRow enc (Sort.ahead w m) blk 0 dk).heap++os).size;simp [putRow,mapBlock,Sort.ahead],fun k hk hne=>zjm hk (fun e=>hne (by rw [e]))⟩
theorem cfK1 {α:Type} (f:α->Int):cfK (fun i=>(f i,0))=fun x y=>cmpI (f x) (f y):=by
 funext x y
 unfold cfK orI;simp only;have:cmpI 0 0=0:=rfl;rw [this];split
 · rename_i h;exact h.symm
 · rfl
theorem z0c0 {α:Type} (f:α->Int) (x y:α):ltOf (fun x y=>cmpI (f x) (f y)) x y=decide (f x<f y):=by
 show decide ((if f x<f y then (-1:Int) else if f y<f x then 1 else 0)<0)=_;by_cases h:f x<f y
 · rw [if_pos h,zT h];rfl
 · rw [if_neg h,zF h];split <;> rfl
set_option maxHeartbeats 1000000 in
theorem z08y {w w1:World} {v:Value} {xs:List Sl} (hF:∀ x∈xs,HasFst w x) (hrow:w1.ownsRow w.heap.size 30 1 v xs.length (xs.map (·.1))) (hnil:v=.slice none 0 0↔xs=[]) (hb:RowKit.Below w.heap.size w w1) (hlen:xs.length<4611686018427387904) :
 Calls Tryz.prog 54 #[v,.func (.func 23) #[] #[]] w1 fun e w2=>e=.returned (.tuple #[]) /\ ∃ ys:List Sl,ys.Perm xs /\ ys.Pairwise (fun a b=>fstOf w a<=fstOf w b) /\ w2.ownsRow w.heap.size 30 1 v ys.length (ys.map (·.1)) /\ RowKit.Below w.heap.size w w2:=by
 cases hx:xs with
 | nil =>
   subst hx;rw [hnil.2 rfl] at hrow ⊢;exact (AnyF.slices_SortFunc_none Tryz.sortN none 0 (.func (.func 23) #[] #[]) w1).mono fun e w2 ⟨h1,h2⟩=>by
    subst h2;exact ⟨h1,[],.refl _,.nil,hrow,hb⟩
 | cons x0 xs0 =>
   have hne:v≠.slice none 0 0:=fun e=>by rw [hnil.1 e] at hx;cases hx
   obtain ⟨m,hm⟩:∃ m,xs.length=m+1:=⟨xs0.length,by rw [hx];rfl⟩;rw [<- hx];clear hx;let sl:=fun i:Fin (m+1)=>xs[i.val]'(by rw [hm];exact i.isLt)
   have hmap:(List.finRange (m+1)).map sl=xs:=by
    apply List.ext_getElem
    · simp [hm]
    · intro i h1 h2;simp [sl]
   let enc:=fun i:Fin (m+1)=>(sl i).1
   have hrow':w1.ownsRow w.heap.size 30 1 v (m+1) ((List.finRange (m+1)).map enc):=by
    have h:=congrArg (List.map (fun x:Sl=>x.1)) hmap;rw [List.map_map] at h;have h2:(List.finRange (m+1)).map enc=xs.map (·.1):=h;rw [h2,<- hm];exact hrow
   obtain ⟨g,cap,rfl,hbg,hgl,hncap,hcm,_,hH⟩:=Lib.holds_of_ownsRow hrow' hne;have hfst:∀ i,∃ b o n c,enc i=.slice (some ⟨b,o,none⟩) n c /\ 0<n /\ b<w.heap.size /\ w.cell? ⟨b,o,none⟩=some (.int .i64 (fstOf w (sl i))):=fun i=>(hF (sl i) (List.getElem_mem _)).at
   have hone:OneCell enc:=fun i=>by
    obtain ⟨b,o,n,c,e,_⟩:=hfst i;rw [e];rfl
   have hsz:((List.finRange (m+1)).toArray:Array (Fin (m+1))).size=m+1:=by simp
   have hO:SWO (ltOf fun x y=>cmpI (fstOf w (sl x)) (fstOf w (sl y))):=by
    have:=z0db (fun i:Fin (m+1)=>(fstOf w (sl i),(0:Int)));rwa [cfK1] at this
   have hcmp:CmpLays1 Tryz.prog 23 #[] enc (fun x y=>cmpI (fstOf w (sl x)) (fstOf w (sl y))) g 0 (List.finRange (m+1)).toArray.size w1:=fun mm os dk hs x y=>by
    obtain ⟨b1,o1,n1,c1,e1,p1,q1,r1⟩:=hfst x;obtain ⟨b2,o2,n2,c2,e2,p2,q2,r2⟩:=hfst y;have hw:∀ r,r<w.heap.size->(sortWorld enc w1 g 0 mm dk os).heap[r]?=w.heap[r]?:=fun r hr=>(zjm (Nat.lt_of_lt_of_le hr hb.size) (by omega)).trans (hb.block r hr)
    have:=cmp23 b1 o1 n1 c1 b2 o2 n2 c2 (fstOf w (sl x)) (fstOf w (sl y)) (sortWorld enc w1 g 0 mm dk os) p1 p2 ((z1n (hw b1 q1)).trans r1) ((z1n (hw b2 q2)).trans r2);rw [e1,e2];exact this
   have hsort:=Any.slices_SortFunc Tryz.sortL enc hone _ hO 23 #[] g 0 cap (List.finRange (m+1)).toArray w1 (enters_of Tryz.func23 (by kernel_rfl) rfl) hcmp hH hgl (by rw [hsz];omega);rw [hsz] at hsort;refine hsort.mono fun e w2 ⟨h1,d',n,os,hp,hs,hw2⟩=>⟨h1,d'.toList.map sl,?_,?_,?_,?_⟩
   · obtain ⟨p1,_,p2⟩:=hp;have ex:∀ A:Array (Fin (m+1)),A.size=m+1->(A.extract 0 (m+1)).toList=A.toList:=fun A h=>by
      have:∀ k,A.size=k->A.extract 0 k=A:=fun k e=>by subst e;exact Array.extract_size
      rw [this _ h]
     rw [ex _ (by rw [p1,hsz]),ex _ hsz] at p2;have:=p2.map sl;rwa [List.toList_toArray,hmap] at this
   · have hd:d'.size=m+1:=by rw [hp.1,hsz]
     rw [List.pairwise_iff_getElem];intro i j hi hj hij;simp only [List.length_map,Array.length_toList] at hi hj;simp only [List.getElem_map,Array.getElem_toList];have:=hs i j (Nat.zero_le _) hij (by omega);rw [z0c0,decide_eq_false_iff_not,getElem!_pos d' i hi,getElem!_pos d' j hj] at this;exact Int.not_lt.1 this
   · have hd:d'.size=m+1:=by rw [hp.1,hsz]
     have h3:=Lib.ownsRow_putRow (enc:=enc) (q:=n) (k:=m+1) (ys:=d'.toList) hrow' (by simp [hd]) (Nat.le_refl _);rw [List.take_of_length_le (by simp [hd])] at h3;have h4:(putRow enc (Sort.ahead w1 n) g 0 d'.toList.toArray).grownBy w2 none:=by
      rw [hw2];unfold sortWorld;refine ⟨rfl,rfl,rfl,by show _<=((putRow enc (Sort.ahead w1 n) g 0 d').heap++os).size;simp,fun k hk _=>?_⟩;show ((putRow enc (Sort.ahead w1 n) g 0 d').heap++os)[k]?=_;rw [Array.getElem?_append_left (by simpa using hk)]
     have h5:=h3.kept h4 (.inr (by simp [Value.ownBlock]));rw [List.length_map,Array.length_toList,hd,List.map_map];exact h5
   · rw [hw2];exact hb.grown (zp1 enc w1 g n d' os) hb.size (fun k e=>by cases e;exact hbg)
end Go.Proofs.YtbdmoijmcondcaaGreat
namespace Go.Proofs.YtbdmoijmcondcaaGreat
open Clk Go Go.Proofs Go.Shelf Go.RowKit Go.Lib Go.Sort Go.Maps
theorem zzw (b:Nat) (W:World):Calls Tryz.prog 22 #[.map (some b)] W fun e W'=>e=.returned (.func (.func 55) #[] #[.pointer (some ⟨W.heap.size,0,none⟩)]) /\ W'=W.alloc (.cells #[.map (some b)] 69):=by
 go_enter Tryz.func22,Tryz.ntmps22
 go_wp2
 go_ret
 exact ⟨rfl,rfl⟩
set_option maxHeartbeats 2000000 in
theorem zzx {H:Type} (Bm b nn:Nat) (D0:DataW H) {R:Value->Option (DataW H×List MemPlace)} (hR0:∀ v y,R v=some y->∃ a n c,v=.slice a n c) (w:World) (hBm:Bm<w.heap.size)
 (hm:w.cell? ⟨Bm,0,none⟩=some (.map (some b))) (hown:w.ownsMap Tryz.prog 3 R b nn D0) (hN:Maps.size D0<=4294967296) (hF:∀ xs,AllVals R D0 xs->(∀ x∈xs,HasFst w x) /\ xs.length<4611686018427387904) :
 Calls Tryz.prog 21 #[.func (.func 55) #[] #[.pointer (some ⟨Bm,0,none⟩)],.func (.func 23) #[] #[]] w fun e w2=>∃ v,e=.returned v /\ ∃ xs ys:List Sl,AllVals R D0 xs /\ ys.Perm xs /\ ys.Pairwise (fun a b=>fstOf w a<=fstOf w b) /\ w2.ownsRow w.heap.size 30 1 v ys.length (ys.map (·.1)) /\ RowKit.Below w.heap.size w w2:=by
 have hcol:=callsIn_wide.1 (z043 Fence.wide 9 trivial trivial rfl (by omega) 55 #[.pointer (some ⟨Bm,0,none⟩)] trivial (enters_of Tryz.func55 (by kernel_rfl) rfl) (AllVals R D0) (fun _=>True) (Maps.size D0) (by unfold maxLen;omega) (by omega) w (z042 Fence.wide 7 trivial rfl (by omega) Bm b nn D0 hR0 w hBm hm hown));go_enter Tryz.func21,Tryz.ntmps21
 go_wp2_with (first
  | (go_at_call 53;refine hcol.mono ?_;rintro e w1 ⟨v,xs,rfl,hS,hrow,hnil,hb⟩)
  | (go_at_call 54;refine (z08y (hF xs hS).1 hrow hnil hb (hF xs hS).2).mono ?_;rintro e w2 ⟨rfl,ys,hp,hs,hrow2,hb2⟩)
  | go_in)
 go_ret
 exact ⟨v,rfl,xs,ys,hS,hp,hs,hrow2,hb2⟩
end Go.Proofs.YtbdmoijmcondcaaGreat
namespace Clk
open Go
theorem zp2 {α:Type} (h:α->Int):∀ {l m:List α},l.Perm m->l.Pairwise (fun a b=>h a<=h b)->m.Pairwise (fun a b=>h a<h b)->l=m
 | l,[],hp,_,_=>List.perm_nil.1 hp
 | [],b::m,hp,_,_=>(List.nil_perm.1 hp).symm
 | a::l,b::m,hp,h1,h2=>by
   rw [List.pairwise_cons] at h1 h2;have ha:a∈b::m:=hp.mem_iff.1 (List.mem_cons_self ..);have hb:b∈a::l:=hp.mem_iff.2 (List.mem_cons_self ..);have e:a=b:=by
    rcases List.mem_cons.1 ha with e | ha
    · exact e
    · have:=h2.1 a ha;rcases List.mem_cons.1 hb with e | hb
      · exact e.symm
      · have:=h1.1 b hb;omega
   subst e;rw [zp2 h (List.perm_cons _ |>.1 hp) h1.2 h2.2]
theorem zf7 {α β:Type} (f:α->β):∀ {l:List α},(l.map f).Nodup->l.Nodup
 | [],_=>.nil
 | a::l,h=>by
   rw [List.map_cons,List.nodup_cons] at h;rw [List.nodup_cons];exact ⟨fun e=>h.1 (List.mem_map.2 ⟨a,e,rfl⟩),zf7 f h.2⟩
theorem zzy {α:Type}:∀ {l m:List α},l.Nodup->m.Nodup->(∀ x,x∈l↔x∈m)->l.Perm m:=by
 intro l m hl hm h;classical
 rw [List.perm_iff_count];intro a;rw [hl.count,hm.count];simp [h a]
end Clk
namespace Go.Proofs.YtbdmoijmcondcaaGreat
open Clk Go Go.Proofs Go.Shelf Go.RowKit Go.Lib Go.Sort Go.Maps
theorem zi7 {w:World} {base:Nat} {x:Sl} {l:List Int} (h:w.ownsInts base 3 .i64 x.1 l) (hl:l≠[]):HasFst w x /\ fstOf w x=l.getD 0 0:=by
 have hlen:0<l.length:=List.length_pos_iff.2 hl;rcases h.1.2 with ⟨_,h0⟩ | ⟨g,cap,cur,e,_⟩
 · omega
 · have h1:=h.1;rw [e] at h1;have hc:=h1.cellAt 0 (by omega);have e0:(l.map (Value.int .i64))[0]?=some (.int .i64 (l.getD 0 0)):=by
    obtain ⟨a,r,rfl⟩:=List.exists_cons_of_ne_nil hl;rfl
   rw [e0] at hc;refine ⟨⟨g,0,l.length,cap,_,e,hlen,(h1.lt g rfl).2,hc⟩,?_⟩;unfold fstOf;rw [e];simp only;rw [hc]
open Classical in
noncomputable def listOf (w:World) (base:Nat) (x:Sl):List Int:=if h:∃ l,w.ownsInts base 3 .i64 x.1 l then Classical.choose h else []
theorem z06r {w:World} {base:Nat} {x:Sl} {l:List Int} (h:w.ownsInts base 3 .i64 x.1 l):listOf w base x=l:=by
 have hex:∃ l,w.ownsInts base 3 .i64 x.1 l:=⟨l,h⟩;unfold listOf;rw [dif_pos hex];exact (Classical.choose_spec hex).unique h
theorem zh0 {w:World} {base k:Nat} {D:DataW Unit} {G:List (Int×List Int)} (hR:RepG D G) (hr:Rise k G) {xs:List Sl} (h:AllVals (rowElem (H:=Unit) w base 3 .i64) D xs) :
 (∀ x∈xs,w.ownsInts base 3 .i64 x.1 (listOf w base x) /\ listOf w base x≠[]) /\ (xs.map (listOf w base)).Perm (G.map (·.2)):=by
 obtain ⟨ps,rfl,hnd,hkeys,hv⟩:=h;obtain ⟨_,hgn,hhas,hat⟩:=hR;have hp:∀ p∈ps,w.ownsInts base 3 .i64 p.2.1 (listOf w base p.2) /\ (p.1,listOf w base p.2)∈G:=fun p hpm=>by
  have hk:p.1∈G.map (·.1):=(hhas p.1).1 ((hkeys p.1).1 (List.mem_map.2 ⟨p,hpm,rfl⟩));obtain ⟨x,hx,ex⟩:=List.mem_map.1 hk;obtain ⟨y,hy,hyat⟩:=hv p hpm;obtain ⟨zs,ho,rfl⟩:=rowElem_inv hy;have e1:=hat x hx .nil;rw [ex] at e1;have e2:DataW.atKey D (z1s p.1) .nil=_:=hyat .nil;rw [e1] at e2;simp only at e2;rcases ho.datum (H:=Unit) with ⟨e3,_⟩ | e3
  · rw [e3] at e2;cases e2
  · rw [e3] at e2;have e4:=zn7 e2;rw [z06r ho];refine ⟨ho,?_⟩;rw [<- e4,<- ex];exact hx
 refine ⟨fun x hx=>?_,?_⟩
 · obtain ⟨p,hpm,rfl⟩:=List.mem_map.1 hx;exact ⟨(hp p hpm).1,(hr.1 _ (hp p hpm).2).1⟩
 · have hperm:(ps.map (fun p=>(p.1,listOf w base p.2))).Perm G:=by
    refine zzy ?_ (zf7 _ hgn) fun z=>⟨fun hz=>?_,fun hz=>?_⟩
    · refine zf7 (·.1) ?_;rw [List.map_map];exact hnd
    · obtain ⟨p,hpm,rfl⟩:=List.mem_map.1 hz;exact (hp p hpm).2
    · have:z.1∈ps.map (·.1):=(hkeys z.1).2 ((hhas z.1).2 (List.mem_map.2 ⟨z,hz,rfl⟩));obtain ⟨p,hpm,e⟩:=List.mem_map.1 this;refine List.mem_map.2 ⟨p,hpm,?_⟩;have h2:=(hp p hpm).2;have a1:=hat _ h2 .nil;have a2:=hat _ hz .nil;rw [<- e] at a2;have a3:=zn7 (a1.symm.trans a2);rw [show listOf w base p.2=z.2 from a3,show p.1=z.1 from e]
   have:=hperm.map (·.2);rw [List.map_map] at this;rw [List.map_map];exact this
theorem zt9 {w5:World} {Bm b base n k:Nat} {D:DataW Unit} {G:List (Int×List Int)} (hR:RepG D G) (hr:Rise k G) (hl:G.length<4611686018427387904) (hown:w5.ownsGroups Tryz.prog 3 base 3 .i64 b n D) (hBm:Bm<w5.heap.size)
 (hm:w5.cell? ⟨Bm,0,none⟩=some (.map (some b))) (hn:n<=4294967296) :
 Calls Tryz.prog 21 #[.func (.func 55) #[] #[.pointer (some ⟨Bm,0,none⟩)],.func (.func 23) #[] #[]] w5 fun e w6=>∃ v,e=.returned v /\ ∃ xs:List (List Int×Value),xs.map (·.1)=G.map (·.2) /\ (∀ x∈xs,w6.ownsInts base 3 .i64 x.2 x.1) /\ w6.ownsRow w5.heap.size 30 1 v xs.length (xs.map (·.2)) /\ RowKit.Below w5.heap.size w5 w6:=by
 have hom:w5.ownsMap Tryz.prog 3 (rowElem (H:=Unit) w5 base 3 .i64) b n D:=by
  obtain ⟨es,clock,h1,h2,h3,h4,_⟩:=hown;exact ⟨es,clock,h1,h2,h3,h4⟩
 have hR0:∀ v y,rowElem (H:=Unit) w5 base 3 .i64 v=some y->∃ a n c,v=.slice a n c:=fun v y h=>by
  obtain ⟨zs,ho,_⟩:=rowElem_inv h;rcases ho.1.2 with ⟨rfl,_⟩ | ⟨g,cap,cur,rfl,_⟩ <;> exact ⟨_,_,_,rfl⟩
 refine (zzx Bm b n D hR0 w5 hBm hm hom (Nat.le_trans hom.size_le hn) fun xs hx=>?_).mono fun e w6 ⟨v,he,xs,ys,hx,hp,hs,hrow,hb⟩=>?_
 · obtain ⟨h1,h2⟩:=zh0 hR hr hx;refine ⟨fun x hx=>(zi7 (h1 x hx).1 (h1 x hx).2).1,?_⟩;have:=h2.length_eq;rw [List.length_map,List.length_map] at this;omega
 · obtain ⟨h1,h2⟩:=zh0 hR hr hx;have hy:∀ y∈ys,w5.ownsInts base 3 .i64 y.1 (listOf w5 base y) /\ listOf w5 base y≠[]:=fun y hy=>h1 y (hp.mem_iff.1 hy)
   have heq:ys.map (listOf w5 base)=G.map (·.2):=by
    refine zp2 (fun l:List Int=>l.getD 0 0) ((hp.map _).trans h2) ?_ ?_
    · rw [List.pairwise_map];refine hs.imp_of_mem fun {a b} ha hb h=>?_
      rwa [(zi7 (hy a ha).1 (hy a ha).2).2,(zi7 (hy b hb).1 (hy b hb).2).2] at h
    · rw [List.pairwise_map];exact hr.2
   refine ⟨v,he,ys.map (fun y=>(listOf w5 base y,y.1)),?_,?_,?_,hb⟩
   · rw [List.map_map];exact heq
   · intro x hx;obtain ⟨y,hy',rfl⟩:=List.mem_map.1 hx;exact (hy y hy').1.kept (w':=w6) (row:=none) ⟨hb.os,hb.tape,hb.output,hb.size,fun i hi _=>hb.block i hi⟩ (by cases y.1.ownBlock <;> simp)
   · rw [List.length_map,List.map_map];exact hrow
end Go.Proofs.YtbdmoijmcondcaaGreat
namespace Go.Proofs.YtbdmoijmcondcaaGreat
open Clk Go Go.Proofs Go.Shelf Go.RowKit Go.Maps
theorem zero30 (w:World):(zeroValue 30).run Tryz.prog w=.ok (.slice none 0 0) w:=by kernel_rfl
theorem info3:(Tryz.prog.info? 3).map (fun i=>(i.zero,i.size,i.bytes))=some (some (.int .i64 0),1,8):=by kernel_rfl
theorem zm6 {w:World} {b b':Nat} {e:TypeId} {sz n:Nat} {v:Value} {xs:List Value} (h:b'<=b) (ho:w.ownsRow b e sz v n xs):w.ownsRow b' e sz v n xs :=
 ⟨ho.1,ho.2.imp id fun ⟨g,cap,cur,e1,e2,r⟩=>⟨g,cap,cur,e1,Nat.le_trans h e2,r⟩⟩
set_option maxHeartbeats 8000000 in
theorem zzz {HAS:Int->Option Str} {M:List Int} {G:List (Int×List Int)} {v0 v1 v2 v3 v4 v5 v6 v7 v9 v10 v11:Value} {a1:Option Addr} {c1:Nat} (w:World) (hlen:M.length<4294967296) (hwf:∀ n∈M,-9223372036854775808<=n /\ n<9223372036854775808)
 (hG:grpF HAS M 0 []=some G)
 (hM:∀ i (hi:i<M.length),∃ ad:Addr,a1=some ad /\ ad.spot=none /\ ad.block<w.heap.size /\ w.cell? ⟨ad.block,ad.off+i,none⟩=some (.int .i64 M[i]))
 (hHas:∀ w',Gr (fun x=>w.heap.size<=x) w w'->∀ (s:Int) (y:Str),HAS s=some y->Calls Tryz.prog 20 #[.agg #[v4,v5,v6,v7],.agg #[.slice a1 M.length c1,v9],.int .i64 s] w' fun en w''=>en=.returned (.string ⟨y.toArray⟩) /\ Gr (fun _=>False) w' w'') :
 Calls Tryz.prog 7 #[.agg #[v0,v1,v2,v3,v4,v5,v6,v7,.slice a1 M.length c1,v9,v10,v11]] w fun en w'=>∃ v,en=.returned v /\ Gr (fun _=>False) w w' /\ ∃ xs:List (List Int×Value),xs.map (·.1)=G.map (·.2) /\ (∀ x∈xs,w'.ownsInts w.heap.size 3 .i64 x.2 x.1) /\ w'.ownsRow w.heap.size 30 1 v xs.length (xs.map (·.2)):=by
 have hmm:=@run_makeMap Tryz.prog;obtain ⟨i0,hi,hz0,hz1,hz2⟩:=info_parts info3;obtain ⟨W0,hW0⟩:∃ W0,W0=((w.alloc (.cells #[v0,v1,v2,v3,v4,v5,v6,v7,.slice a1 M.length c1,v9,v10,v11] 34)).alloc (.map #[] 0)):=⟨_,rfl⟩;have hsz0:W0.heap.size=w.heap.size+2:=by
  rw [hW0];show ((w.heap.push _).push _).size=_;rw [Array.size_push,Array.size_push]
 have hb0:Gr (fun _=>False) w W0:=by rw [hW0];exact (Gr.alloc _ w _).trans (Gr.alloc _ _ _)
 have hbox0:W0.heap[w.heap.size]?=some (.cells #[v0,v1,v2,v3,v4,v5,v6,v7,.slice a1 M.length c1,v9,v10,v11] 34 (0,0)):=by
  rw [hW0];show ((w.heap.push _).push _)[w.heap.size]?=_;rw [Array.getElem?_push,if_neg (by simp),Array.getElem?_push,if_pos rfl]
 have hown0:W0.ownsGroups (H:=Unit) Tryz.prog 3 (w.heap.size+2) 3 .i64 (w.heap.size+1) 0 (.map []):=by
  have m:=World.ownsGroups_made (H:=Unit) (w.alloc (.cells #[v0,v1,v2,v3,v4,v5,v6,v7,.slice a1 M.length c1,v9,v10,v11] 34)) Tryz.prog 3 3 .i64;rw [show (w.alloc (.cells #[v0,v1,v2,v3,v4,v5,v6,v7,.slice a1 M.length c1,v9,v10,v11] 34)).heap.size=w.heap.size+1 from Array.size_push ..] at m;rw [hW0];exact m
 have HF:Aside ((∀ n∈M,-9223372036854775808<=n /\ n<9223372036854775808) /\ grpF HAS M 0 []=some G):=⟨hwf,hG⟩;clear hwf hG;have HC:Aside ((∀ i (hi:i<M.length),∃ ad:Addr,a1=some ad /\ ad.spot=none /\ ad.block<w.heap.size /\ w.cell? ⟨ad.block,ad.off+i,none⟩=some (.int .i64 M[i]))):=hM;clear hM;have HH:Aside (∀ w',Gr (fun x=>w.heap.size<=x) w w'->∀ (s:Int) (y:Str),HAS s=some y->Calls Tryz.prog 20 #[.agg #[v4,v5,v6,v7],.agg #[.slice a1 M.length c1,v9],.int .i64 s] w' fun en w''=>en=.returned (.string ⟨y.toArray⟩) /\ Gr (fun _=>False) w' w''):=hHas;clear hHas;go_enter Tryz.func7,Tryz.ntmps7
 go_wp2
 rw [<- hW0];go_loopg [11] M.length (fun g s11 wx=>∃ (k n:Nat) (acc:List (Int×List Int)) (D:DataW Unit),k+g=M.length /\ s11=.int .i64 k /\ Aside (grpF HAS (M.drop k) k acc=some G) /\ Aside (RepG D acc /\ Rise k acc /\ acc.length<=k) /\ n<=k /\ wx.ownsGroups Tryz.prog 3 (w.heap.size+2) 3 .i64 (w.heap.size+1) n D /\ Gr (fun x=>w.heap.size+1<=x) W0 wx)
 case atStart=>exact ⟨0,0,[],.map [],by omega,rfl,(show grpF HAS (M.drop 0) 0 []=some G by rw [List.drop_zero];exact HF.out.2),⟨z08t,z08u,Nat.le_refl _⟩,Nat.le_refl _,hown0,Gr.refl _ _⟩
 case round =>
  obtain ⟨k,n,acc,D,hkg,rfl,HI,HR,hnk,hown,hg⟩:=hrel;have hbx:wr.heap[w.heap.size]?=some (.cells #[v0,v1,v2,v3,v4,v5,v6,v7,.slice a1 M.length c1,v9,v10,v11] 34 (0,0)):=(hg.same w.heap.size (by omega) (by omega)).trans hbox0;have szr:w.heap.size+2<=wr.heap.size:=Nat.le_trans (Nat.le_of_eq hsz0.symm) hg.size;have gwr:Gr (fun x=>w.heap.size<=x) w wr:=(hb0.wider fun _ h=>h.elim).trans (hg.wider fun _ h=>by omega);cases gk with
  | zero =>
    have hnk2:¬ ((k:Int)<(M.length:Int)):=by omega
    have HA:Aside (grpF HAS (M.drop k) k acc=some G /\ k=M.length):=⟨HI.out,by omega⟩;obtain ⟨rfl,hlG⟩:acc=G /\ acc.length<=4294967296:=by
     obtain ⟨u1,u2⟩:=HA.out;rw [List.drop_eq_nil_of_le (by omega)] at u1;cases u1;exact ⟨rfl,by have:=HR.out.2.2;omega⟩
    clear HI;have hown5:(wr.alloc (.cells #[.map (some (w.heap.size+1))] 69)).ownsGroups Tryz.prog 3 (w.heap.size+2) 3 .i64 (w.heap.size+1) n D:=hown.kept (row:=none) (World.grownBy_alloc _ _ _) (by simp) (hown.rowsAbove (by simp));have hs5:=zt9 (k:=k) HR.out.1 HR.out.2.1 (by omega) hown5 (Bm:=wr.heap.size) (by simp) (Boxed.new wr 69 (.map (some (w.heap.size+1)))).cell (by omega);have hv5:=zzw (w.heap.size+1) wr;go_wp2_with (first
     | (go_at_call 22;refine hv5.mono ?_;rintro e w5 ⟨rfl,rfl⟩)
     | (go_at_call 21;refine hs5.mono ?_;rintro e w6 ⟨v,rfl,xs,hxs,hin,hrow,hb⟩)
     | go_in)
    go_ret
    have gA:Gr (fun _=>False) w (wr.alloc (.cells #[.map (some (w.heap.size+1))] 69)):=(hb0.hide hg (fun r h=>by omega)).trans (Gr.alloc _ _ _);exact ⟨v,rfl,gA.trans ⟨hb.os,hb.tape,hb.output,hb.size,fun r hr _=>hb.block r hr⟩,xs,hxs,fun x hx=>⟨zm6 (by omega) (hin x hx).1,(hin x hx).2⟩,zm6 gA.size hrow⟩
  | succ g =>
    have hlt:k<M.length:=by omega
    have hyk:((k:Int)<(M.length:Int)):=by omega
    obtain ⟨ad,rfl,ad1,ad2,ad3⟩:=HC.out k hlt;obtain ⟨ab,ao,sp⟩:=ad;simp only at ad1 ad2 ad3;subst ad1;have hcell:wr.cell? ⟨ab,ao+k,none⟩=some (.int .i64 M[k]):=(z1n (gwr.same ab ad2 (by omega))).trans ad3;have hxr : -9223372036854775808<=M[k] /\ M[k]<9223372036854775808:=HF.out.1 _ (by simp [List.getElem_mem]);obtain ⟨x,hx⟩:∃ x,x=M[k]:=⟨_,rfl⟩;rw [<- hx] at hcell hxr;have HX:Aside (x=M[k]):=hx;clear hx;obtain ⟨y,hy,HR2⟩:∃ y,HAS (k:Int)=some y /\ Aside (grpF HAS (M.drop (k+1)) (k+1) (if y=[] then acc else addG x k acc)=some G):=by
     have u1:=HI.out;rw [List.drop_eq_getElem_cons hlt,<- HX.out] at u1;unfold grpF at u1;split at u1
     · cases u1
     · rename_i a ha;exact ⟨a,ha,u1⟩
    have hcall:=HH.out wr gwr k y hy;have hkey:keyOf Tryz.prog 3 (.int .i64 x)=some (z1s x):=keyOf_int_mk Tryz.underlying3 (WalkArith.wf_i64 ⟨hxr.1,by omega⟩);clear hy;obtain ⟨d4,_⟩:=z8 hbx 4 _ rfl;obtain ⟨d5,_⟩:=z8 hbx 5 _ rfl;obtain ⟨d6,_⟩:=z8 hbx 6 _ rfl;obtain ⟨d7,_⟩:=z8 hbx 7 _ rfl;obtain ⟨d8,_⟩:=z8 hbx 8 _ rfl;obtain ⟨d9,_⟩:=z8 hbx 9 _ rfl;by_cases hy0:y=[]
    · subst hy0;go_wp2_with (first
       | (go_at_call 20;refine hcall.mono ?_;rintro e w2 ⟨rfl,hg2⟩;have hownB:=hown.kept (hg2.grown none) (by simp) (hown.rowsAbove (by simp));have sz2:w.heap.size+2<=w2.heap.size:=Nat.le_trans szr hg2.size)
       | go_in)
      go_roundg g
      case rel =>
       refine ⟨k+1,n,acc,D,by omega,by go_num,?_,⟨HR.out.1,HR.out.2.1.mono (Nat.le_succ _),by have:=HR.out.2.2;omega⟩,by omega,hownB,hg.trans (hg2.wider fun _ h=>h.elim)⟩;have:=HR2.out;have h2:grpF HAS (M.drop (k+1)) (k+1) acc=some G:=by simpa using this
       exact h2
      case measure=>omega
    · have hs0:y.isEmpty=false:=by cases y with
       | nil=>exact absurd rfl hy0
       | cons _ _=>rfl
      go_wp2_with (first
       | (go_at_call 20;refine hcall.mono ?_;rintro e w2 ⟨rfl,hg2⟩;have hownB:=hown.kept (hg2.grown none) (by simp) (hown.rowsAbove (by simp));have sz2:w.heap.size+2<=w2.heap.size:=Nat.le_trans szr hg2.size)
       | (at_lookup;refine wpList_lookup_groups _ rfl _ _ 69 rfl 3 30 3 .i64 z06p Tryz.underlying69 (zero30 _) (w.heap.size+2) (w.heap.size+1) n D rfl hownB (by unfold maxLen;omega) _ _ rfl hkey ?_;intro v zs hat hoi hzl hback)
       | (at_builtin;refine wpList_append_own_at _ rfl _ _ 30 rfl (w.heap.size+2) 3 i0 (.int .i64 0) 1 8 Tryz.underlying30 hi hz0 hz1 hz2 rfl (by decide) _ _ _ rfl (hoi.1.alloc _) ⟨w2.heap.size,0,none⟩ 1 1 [.int .i64 k] rfl rfl (cell_one_new _ _ _) (ints_oneCell .i64 [(k:Int)]) (by unfold maxLen;omega) (by omega) (by simp;omega) ?_;intro v' w3 hown' hgrow hnil hloc)
       | (at_mapUpdate;refine wpList_mapUpdate_back _ rfl _ _ _ 69 rfl hback rfl rfl rfl ((World.grownBy_alloc _ _ _).trans hgrow) (hoi.appended hown' (WalkArith.wf_i64 (by omega))) (by simp;omega) (hloc.imp id (fun h=>⟨_,h,by simp⟩)) ?_;intro w4 hown4' hgrow4;have hown4:w4.ownsGroups Tryz.prog 3 (w.heap.size+2) 3 .i64 (w.heap.size+1) (n+1) (D.put (z1s x) (rowDatum .i64 v' (zs++[(k:Int)]))):=hown4';clear hown4')
       | go_in)
      have hdat:=hoi.appended hown' (WalkArith.wf_i64 (by omega));have hall:=(World.grownBy_alloc w2 _ _).trans hgrow;go_roundg g
      case rel =>
       refine ⟨k+1,n+1,addG x k acc,_,by omega,by go_num,?_,⟨?_,HR.out.2.1.add x,?_⟩,by omega,hown4,?_⟩
       · have:=HR2.out;rwa [if_neg hy0] at this
       · rw [hdat.datum_pos (by simp)];exact HR.out.1.add (HR.out.1.look hoi hat)
       · have:=HR.out.2.2;have:=zop x k acc;omega
       · have hge:∀ r,v.ownBlock=some r->w.heap.size+2<=r:=fun r h=>(hoi.1.lt r h).1
         exact (hg.trans (hg2.wider fun _ h=>h.elim)).trans (Gr.trans ⟨hall.os,hall.tape,hall.output,hall.size,fun r hr hn=>hall.block r hr (fun e=>by have:=hge r e.symm;omega)⟩ ⟨hgrow4.os,hgrow4.tape,hgrow4.output,hgrow4.size,fun r hr hn=>hgrow4.block r hr (by simp;omega)⟩)
      case measure=>omega
end Go.Proofs.YtbdmoijmcondcaaGreat
namespace Go.Proofs.YtbdmoijmcondcaaGreat
open Clk Go Go.Proofs
theorem vs_1 {w:World} {N:Nat->Prop} {a:AV} {vs:Array Value} (h:IRel w N [a] vs):∃ x,vs=#[x] /\ RelI w N a x:=by
 obtain ⟨hs,hc⟩:=h;obtain ⟨l⟩:=vs;match l,hs with
 | [x],_=>exact ⟨x,rfl,hc 0 a x rfl rfl⟩
theorem vs_2 {w:World} {N:Nat->Prop} {a b:AV} {vs:Array Value} (h:IRel w N [a,b] vs):∃ x y,vs=#[x,y] /\ RelI w N a x /\ RelI w N b y:=by
 obtain ⟨hs,hc⟩:=h;obtain ⟨l⟩:=vs;match l,hs with
 | [x,y],_=>exact ⟨x,y,rfl,hc 0 a x rfl rfl,hc 1 b y rfl rfl⟩
theorem z08z {l:List (FuncId×Clk.Spec)} (hl:zk Tryz.prog (zl l)) {h:Int×Int->Option Int} (hs:z0p l 80=some ⟨[.i,.i],[.i],h⟩):zk Tryz.prog (zl ((59,⟨[.table,.i],[.i],cntF h⟩)::l)):=by
 refine zeq hl ⟨_,Tryz.func59,by rfl⟩ fun (x:Clk.Table×Int) y hxy w N vs hN hr=>?_
 obtain ⟨t,b⟩:=x;obtain ⟨v,u,rfl,hv,hu⟩:=vs_2 (a:=.agg [eInts t.map,eInts t.by_]) (b:=iA b) hr;obtain ⟨x,y',rfl,hx,hy⟩:=agg2 hv;have:=zjd hu;subst this;obtain ⟨a1,c1,rfl,h1⟩:=zt7 hx;obtain ⟨a2,c2,rfl,h2⟩:=zt7 hy;have hxy':cntF h (t,b)=some y:=hxy;unfold cntF at hxy';split at hxy'
 · rename_i hg;split at hxy'
   · cases hxy'
   · rename_i ks hks;cases hxy';have hP:PlaceAt Tryz.prog 80 h:=fun x y a he w=>zoq hl hs (x:=(x,y)) he (z06m (.int _ _) (.int _ _))
     refine (z041 hP hg.1 hg.2 hks w (fun i hi=>?_) (fun i hi=>?_)).mono fun en w' ⟨e1,g⟩=>?_
     · obtain ⟨ad,k1,k2,_,k4,k5⟩:=h1 i hi;exact ⟨ad,k1,k2,k4,k5⟩
     · obtain ⟨ad,k1,k2,_,k4,k5⟩:=h2 i hi;exact ⟨ad,k1,k2,k4,k5⟩
     · rw [e1];exact zl5 g (.int _ _)
 · cases hxy'
theorem z0c1 {l:List (FuncId×Clk.Spec)} (hl:zk Tryz.prog (zl l)) {MANY:Chip×Int×Int->Option Int} {WANT:Table->Option Int} {WEAR:Chip->Option (Int×Int)} {REST:Chip×Int->Option Int} {VIC:Chip×Table×Int->Option Int}
 (h1:z0p l 26=some ⟨[.chip,.i,.i],[.i],MANY⟩) (h2:z0p l 27=some ⟨[.table],[.i],WANT⟩) (h3:z0p l 28=some ⟨[.chip],[.i,.i],WEAR⟩) (h4:z0p l 29=some ⟨[.chip,.i],[.i],REST⟩) (h5:z0p l 30=some ⟨[.chip,.table,.i],[.i],VIC⟩) :
 zk Tryz.prog (zl ((9,⟨[.device],[.report],ofF MANY WANT WEAR REST VIC⟩)::l)):=by
 refine zeq hl ⟨_,Tryz.func9,by rfl⟩ fun (d:Clk.Device) y hxy w N vs hN hr=>?_
 obtain ⟨v,rfl,hv⟩:=vs_1 (a:=.agg (z82 .device d)) hr;obtain ⟨v0,v1,v2,v3,v4,v5,v6,v7,v8,v9,v10,v11,rfl,r4,r5,r6,r7,r8,r9,r11⟩:=agg12 hv;have:=zjd r11;subst this;have hxy':ofF MANY WANT WEAR REST VIC d=some y:=hxy;have new:∀ {w':World},Gr (fun x=>w.heap.size<=x) w w'->∀ {x:AV} {v:Value},RelI w N x v->RelI w' (fun _=>False) x v:=fun g _ _ h=>z06l (fun _ h=>h.elim) g h
 have hchip:∀ {w':World},Gr (fun x=>w.heap.size<=x) w w'->RelI w' (fun _=>False) (encV .chip d.chip) (.agg #[v4,v5,v6,v7]):=fun g=>z06o (new g r4) (new g r5) (new g r6) (new g r7)
 have htab:∀ {w':World},Gr (fun x=>w.heap.size<=x) w w'->RelI w' (fun _=>False) (encV .table d.table) (.agg #[v8,v9]):=fun g=>z06n (new g r8) (new g r9)
 have fin:∀ {f cl rt lv le mo:Int} {ro:Bool},y=⟨f,cl,rt,lv,le,mo,ro⟩->∀ {en:Ending} {w':World},en=.returned (.agg #[.int .i64 f,.int .i64 cl,.int .i64 rt,.int .i64 lv,.int .i64 le,.int .i64 mo,.bool ro]) /\ Gr (fun _=>False) w w'->zab w N (encRes [.report] y) en w':=by
  rintro f cl rt lv le mo ro rfl en w' ⟨rfl,g⟩
  refine zl5 g (.agg rfl fun i a u e1 e2=>?_);match i,e1,e2 with
  | 0,e1,e2=>cases e1;cases e2;exact .int _ _
  | 1,e1,e2=>cases e1;cases e2;exact .int _ _
  | 2,e1,e2=>cases e1;cases e2;exact .int _ _
  | 3,e1,e2=>cases e1;cases e2;exact .int _ _
  | 4,e1,e2=>cases e1;cases e2;exact .int _ _
  | 5,e1,e2=>cases e1;cases e2;exact .int _ _
  | 6,e1,e2=>cases e1;cases e2;exact .bool _
  | i+7,e1,e2=>simp [z82] at e1
 unfold ofF at hxy';split at hxy'
 · cases hxy'
 rename_i f hf;split at hxy'
 · cases hxy'
 rename_i cl hcl;split at hxy'
 · cases hxy'
 rename_i rt hrt;split at hxy'
 · cases hxy'
 rename_i lv hlv;split at hxy'
 · cases hxy'
 rename_i lm hlm;obtain ⟨le,mo⟩:=lm;have W:=@z0bz v0 v1 v2 v3 v4 v5 v6 v7 v8 v9 v10 d.opn f cl rt lv le mo;have M1:=fun w' (g:Gr (fun x=>w.heap.size<=x) w w')=>(⟨zoq hl h1 (x:=(d.chip,d.opn,0)) hf (zwl (hchip g) (.int _ _) (.int _ _)),zoq hl h1 (x:=(d.chip,d.opn,2)) hcl (zwl (hchip g) (.int _ _) (.int _ _)),zoq hl h1 (x:=(d.chip,d.opn,3)) hrt (zwl (hchip g) (.int _ _) (.int _ _))⟩:_ /\ _ /\ _)
 have M2:=fun w' (g:Gr (fun x=>w.heap.size<=x) w w')=>zoq hl h2 (x:=d.table) hlv (z0a4 (htab g))
 have M3:=fun w' (g:Gr (fun x=>w.heap.size<=x) w w')=>z0bw hl h3 (x:=d.chip) hlm (z0a4 (hchip g))
 split at hxy'
 · rename_i hf0;cases hxy';exact (W w M1 M2 M3 (.inl ⟨hf0,rfl⟩)).mono fun en w' h=>fin rfl h
 · rename_i hf0;have hf0:f=0:=Classical.not_not.1 hf0;split at hxy'
   · cases hxy'
   rename_i re hre;have M4:=fun w' (g:Gr (fun x=>w.heap.size<=x) w w')=>zoq hl h4 (x:=(d.chip,d.opn)) hre (z06m (hchip g) (.int _ _))
   split at hxy'
   · rename_i hre0;cases hxy';exact (W w M1 M2 M3 (.inr ⟨hf0,re,M4,.inl ⟨hre0,rfl⟩⟩)).mono fun en w' h=>fin rfl h
   · rename_i hre0;have hre0:re=0:=Classical.not_not.1 hre0;split at hxy'
     · cases hxy'
     rename_i vi hvi;cases hxy';have M5:=fun w' (g:Gr (fun x=>w.heap.size<=x) w w')=>zoq hl h5 (x:=(d.chip,d.table,d.opn)) hvi (zwl (hchip g) (htab g) (.int _ _))
     exact (W w M1 M2 M3 (.inr ⟨hf0,re,M4,.inr ⟨hre0,vi,M5,rfl⟩⟩)).mono fun en w' h=>fin rfl h
theorem z000 {l:List (FuncId×Clk.Spec)} (hl:zk Tryz.prog (zl l)) {HAS:Chip×Table×Int->Option Str} (hs:z0p l 20=some ⟨[.chip,.table,.i],[.str],HAS⟩) :
 zk Tryz.prog (zl ((7,⟨[.device],[.list (.list .i)],sharesF HAS⟩)::l)):=by
 refine zeq hl ⟨_,Tryz.func7,by rfl⟩ fun (d:Clk.Device) y hxy w N vs hN hr=>?_
 obtain ⟨v,rfl,hv⟩:=vs_1 (a:=.agg (z82 .device d)) hr;obtain ⟨v0,v1,v2,v3,v4,v5,v6,v7,v8,v9,v10,v11,rfl,r4,r5,r6,r7,r8,r9,r11⟩:=agg12 hv;have hxy':sharesF HAS d=some y:=hxy;have new:∀ {w':World},Gr (fun x=>w.heap.size<=x) w w'->∀ {x:AV} {v:Value},RelI w N x v->RelI w' (fun _=>False) x v:=fun g _ _ h=>z06l (fun _ h=>h.elim) g h
 have hchip:∀ {w':World},Gr (fun x=>w.heap.size<=x) w w'->RelI w' (fun _=>False) (encV .chip d.chip) (.agg #[v4,v5,v6,v7]):=fun g=>z06o (new g r4) (new g r5) (new g r6) (new g r7)
 have htab:∀ {w':World},Gr (fun x=>w.heap.size<=x) w w'->RelI w' (fun _=>False) (encV .table d.table) (.agg #[v8,v9]):=fun g=>z06n (new g r8) (new g r9)
 obtain ⟨a1,c1,rfl,hM⟩:=zt7 r8;unfold sharesF at hxy';split at hxy'
 · rename_i hg;obtain ⟨G,hG,rfl⟩:=Option.map_eq_some_iff.1 hxy';refine (zzz w hg.1 hg.2 hG (fun i hi=>by obtain ⟨ad,k1,k2,_,k4,k5⟩:=hM i hi;exact ⟨ad,k1,k2,k4,k5⟩) fun w' g s t hst=>z0d7 hl hs (x:=(d.chip,d.table,s)) hst (zwl (hchip g) (htab g) (.int _ _))).mono fun en w' ⟨v,e1,g,xs,hxs,hin,hrow⟩=>?_
   rw [e1];refine zl5 g ?_;show RelI w' N (.rows ((G.map (·.2)).map (z82 (.list .i)))) v;have hlist:(G.map (·.2)).map (z82 (.list .i))=(xs.map (fun x=>eInts x.1)).map (fun a=>[a]):=by
    rw [<- hxs,List.map_map,List.map_map];rfl
   rw [hlist];refine zwm (base:=w.heap.size) hN (vs:=xs.map (·.2)) (by rw [List.length_map];exact hrow) (by simp) fun i a u h1 h2=>?_
   rw [List.getElem?_map] at h1 h2;obtain ⟨x,h3,rfl⟩:=Option.map_eq_some_iff.1 h1;rw [h3] at h2;cases h2;have ho:=hin x (List.mem_of_getElem? h3);have hmap:x.1.map (fun n=>[iA n])=(x.1.map iA).map (fun a=>[a]):=by rw [List.map_map];rfl
   unfold eInts;rw [hmap];refine zwm (base:=w.heap.size) hN (vs:=x.1.map (Value.int .i64)) (by rw [List.length_map];exact ho.1) (by simp) fun i a u h1 h2=>?_
   rw [List.getElem?_map] at h1 h2;obtain ⟨z,h3,rfl⟩:=Option.map_eq_some_iff.1 h1;rw [h3] at h2;cases h2;exact .int _ _
 · cases hxy'
end Go.Proofs.YtbdmoijmcondcaaGreat
namespace Clk.YtbdmoijmcondcaaGreat
open Go Go.Proofs Go.Proofs.YtbdmoijmcondcaaGreat
noncomputable def LN:List (FuncId×Spec):=[]
theorem ok_N:zk Tryz.prog (zl LN):=z06g
noncomputable def zm7:Nat->Option Tmpl:=fun _=>none
noncomputable def zm8:Nat->Nat->Option (Nat×Nat):=fun _ _=>none
theorem z001 (N:Nat) (a0:Chip) (a1:Int):z1a (z11.mk' (z0p LN) zm7 zm8) N 400 52 [.chip,.i] [.page,.bool] (a0,a1)=zd7 a0 a1:=by kernel_rfl
noncomputable def zi8:List (FuncId×Spec):=(52,⟨[.chip,.i],[.page,.bool],zi1⟩)::LN
theorem zwo:zk Tryz.prog (zl zi8):=za zt z1c zh ok_N (by kernel_rfl) ⟨_,Tryz.func52,by rfl⟩ (tm:=zm7) (gh:=zm8) fun x y h=>⟨0,400,(z001 0 x.1 x.2).trans h⟩
theorem z044 (N:Nat) (a0:Chip) (a1:Table) (a2:Int):z1a (z11.mk' (z0p zi8) zm7 zm8) N 400 20 [.chip,.table,.i] [.str] (a0,a1,a2)=zgl a0 a1 a2:=by kernel_rfl
noncomputable def zs0:List (FuncId×Spec):=(20,⟨[.chip,.table,.i],[.str],zgm⟩)::zi8
theorem z002:zk Tryz.prog (zl zs0):=za zt z1c zh zwo (by kernel_rfl) ⟨_,Tryz.func20,by rfl⟩ (tm:=zm7) (gh:=zm8) fun x y h=>⟨0,400,(z044 0 x.1 x.2.1 x.2.2).trans h⟩
noncomputable def za5:List (FuncId×Spec):=(7,⟨[.device],[(.list (.list .i))],z9q⟩)::zs0
theorem zmv:zk Tryz.prog (zl za5):=z000 z002 (by kernel_rfl)
noncomputable def zf8:Nat->Option Tmpl:=fun cx=>cond (Nat.beq cx 426) (some ⟨[],[],19,[.raw 4 1,.raw 4 1],([.var (.list .page),.fix (.fn 82 [] []),J,J,J,J,J,.var .i,.var .i]++jN 18),[],[]⟩) <| none
theorem zqf (N:Nat) (a0:Chip) (a1:Int) (a2:Int):z1a (z11.mk' (z0p za5) zf8 zm8) N 400 62 [.chip,.i,.i] [.i] (a0,a1,a2)=z6t N a0 a1 a2:=by kernel_rfl
noncomputable def zbs:List (FuncId×Spec):=(62,⟨[.chip,.i,.i],[.i],z3w⟩)::za5
theorem zp3:zk Tryz.prog (zl zbs):=za zt z1c zh zmv (by kernel_rfl) ⟨_,Tryz.func62,by rfl⟩ (tm:=zf8) (gh:=zm8) fun x y h=>by obtain ⟨N,h⟩:=zg h;exact ⟨N,400,(zqf N x.1 x.2.1 x.2.2).trans h⟩
noncomputable def zh1:Nat->Option Tmpl:=fun cx=>cond (Nat.beq cx 1) (some ⟨[],[],25,[.raw 4 1,.raw 1 1,.st .chip,.raw 1 1,.raw 1 1,.dfr,.loop 15],([.fix (.yield 6),.fix (.ptr 2 0 0 0),.fix (.ptr 3 0 0 0),.fix (.ptr 4 0 0 0),J,J,.fix (.ptr 2 0 0 0),J,.var .i,.var .i]++jN 19++[.var .i,.agg .chip,.var .i,.var .i,J,J,J,.fix (.ptr 0 0 0 0),J,J,.fix (.ptr 1 0 0 0),J,J,J,.fix (.fn 79 [] [(.ptr 2 0 0 0),(.ptr 3 0 0 0),(.ptr 4 0 0 0)]),J,J,J,J]),[],[]⟩) <| none
theorem zta (N:Nat) (a0:Chip) (a1:Int) (a2:Int):z1a (z11.mk' (z0p zbs) zh1 zm8) N 400 26 [.chip,.i,.i] [.i] (a0,a1,a2)=zjf N a0 a1 a2:=by kernel_rfl
noncomputable def zdh:List (FuncId×Spec):=(26,⟨[.chip,.i,.i],[.i],z18⟩)::zbs
theorem zqg:zk Tryz.prog (zl zdh):=za zt z1c zh zp3 (by kernel_rfl) ⟨_,Tryz.func26,by rfl⟩ (tm:=zh1) (gh:=zm8) fun x y h=>by obtain ⟨N,h⟩:=zg h;exact ⟨N,400,(zta N x.1 x.2.1 x.2.2).trans h⟩
theorem zwp (N:Nat) (a0:Int) (a1:Int):z1a (z11.mk' (z0p zdh) zm7 zm8) N 400 80 [.i,.i] [.i] (a0,a1)=zm1 a0 a1:=by kernel_rfl
noncomputable def zm9:List (FuncId×Spec):=(80,⟨[.i,.i],[.i],z7c⟩)::zdh
theorem ztb:zk Tryz.prog (zl zm9):=za zt z1c zh zqg (by kernel_rfl) ⟨_,Tryz.func80,by rfl⟩ (tm:=zm7) (gh:=zm8) fun x y h=>⟨0,400,(zwp 0 x.1 x.2).trans h⟩
noncomputable def zf9:List (FuncId×Spec):=(59,⟨[.table,.i],[.i],zb1⟩)::zm9
theorem ztc:zk Tryz.prog (zl zf9):=z08z ztb (by kernel_rfl)
noncomputable def ze9:Nat->Option Tmpl:=fun cx=>cond (Nat.beq cx 1) (some ⟨[],[],14,[.st .table],([J,.fix (.ptr 0 0 0 0),.var .i,J,.var .i]++jN 9++[.agg .table]),[],[]⟩) <| none
theorem zp4 (N:Nat) (a0:Table):z1a (z11.mk' (z0p zf9) ze9 zm8) N 400 27 [.table] [.i] a0=zf0 N a0:=by kernel_rfl
noncomputable def za6:List (FuncId×Spec):=(27,⟨[.table],[.i],z2r⟩)::zf9
theorem zmw:zk Tryz.prog (zl za6):=za zt z1c zh ztc (by kernel_rfl) ⟨_,Tryz.func27,by rfl⟩ (tm:=ze9) (gh:=zm8) fun x y h=>by obtain ⟨N,h⟩:=zg h;exact ⟨N,400,(zp4 N x).trans h⟩
noncomputable def zjn:Nat->Option Tmpl:=fun cx=>cond (Nat.beq cx 6) (some ⟨[],[],25,[],([.var (.list .i),J,J,.var .i,.var .i]++jN 20),[],[]⟩) <| none
theorem zwq (N:Nat) (a0:(List Int)):z1a (z11.mk' (z0p za6) zjn zm8) N 400 60 [(.list .i)] [.i] a0=zf1 N a0:=by kernel_rfl
noncomputable def zfa:List (FuncId×Spec):=(60,⟨[(.list .i)],[.i],zf2⟩)::za6
theorem ztd:zk Tryz.prog (zl zfa):=za zt z1c zh zmw (by kernel_rfl) ⟨_,Tryz.func60,by rfl⟩ (tm:=zjn) (gh:=zm8) fun x y h=>by obtain ⟨N,h⟩:=zg h;exact ⟨N,400,(zwq N x).trans h⟩
noncomputable def zjo:Nat->Option Tmpl:=fun cx=>cond (Nat.beq cx 6) (some ⟨[],[],25,[],([.var (.list .i),J,J,.var .i,.var .i]++jN 20),[],[]⟩) <| none
theorem zwr (N:Nat) (a0:(List Int)):z1a (z11.mk' (z0p zfa) zjo zm8) N 400 61 [(.list .i)] [.i] a0=zf3 N a0:=by kernel_rfl
noncomputable def zfb:List (FuncId×Spec):=(61,⟨[(.list .i)],[.i],zf4⟩)::zfa
theorem zte:zk Tryz.prog (zl zfb):=za zt z1c zh ztd (by kernel_rfl) ⟨_,Tryz.func61,by rfl⟩ (tm:=zjo) (gh:=zm8) fun x y h=>by obtain ⟨N,h⟩:=zg h;exact ⟨N,400,(zwr N x).trans h⟩
noncomputable def zh2:Nat->Option Tmpl:=fun cx=>cond (Nat.beq cx 1) (some ⟨[.tmp 4 .i],[(1,.i)],30,[.raw 4 1,.dead,.blk .i 0 true],([J,.fix (.ptr 0 0 0 0),J,J,.fix (.bref 2 0),J,J,.fix (.ptr 0 0 0 0),.var (.list .block),.var .i,.var .i]++jN 23++[.var (.list .i)]),[],[]⟩) <| none
theorem ztf (N:Nat) (a0:Chip):z1a (z11.mk' (z0p zfb) zh2 zm8) N 400 28 [.chip] [.i,.i] a0=zjg N a0:=by kernel_rfl
noncomputable def zdi:List (FuncId×Spec):=(28,⟨[.chip],[.i,.i],z5g⟩)::zfb
theorem zqh:zk Tryz.prog (zl zdi):=za zt z1c zh zte (by kernel_rfl) ⟨_,Tryz.func28,by rfl⟩ (tm:=zh2) (gh:=zm8) fun x y h=>by obtain ⟨N,h⟩:=zg h;exact ⟨N,400,(ztf N x).trans h⟩
theorem ztg (N:Nat) (a0:Chip) (a1:Int):z1a (z11.mk' (z0p zdi) zm7 zm8) N 400 29 [.chip,.i] [.i] (a0,a1)=z8n a0 a1:=by kernel_rfl
noncomputable def zdj:List (FuncId×Spec):=(29,⟨[.chip,.i],[.i],z59⟩)::zdi
theorem zqi:zk Tryz.prog (zl zdj):=za zt z1c zh zqh (by kernel_rfl) ⟨_,Tryz.func29,by rfl⟩ (tm:=zm7) (gh:=zm8) fun x y h=>⟨0,400,(ztg 0 x.1 x.2).trans h⟩
theorem z003 (N:Nat) (a0:Int):z1a (z11.mk' (z0p zdj) zm7 zm8) N 400 56 [.i] [.bool] a0=zi0 a0:=by kernel_rfl
noncomputable def zi9:List (FuncId×Spec):=(56,⟨[.i],[.bool],z9l⟩)::zdj
theorem zws:zk Tryz.prog (zl zi9):=za zt z1c zh zqi (by kernel_rfl) ⟨_,Tryz.func56,by rfl⟩ (tm:=zm7) (gh:=zm8) fun x y h=>⟨0,400,(z003 0 x).trans h⟩
theorem zth (N:Nat) (a0:Int) (a1:Int):z1a (z11.mk' (z0p zi9) zm7 zm8) N 400 24 [.i,.i] [.i] (a0,a1)=zd9 a0 a1:=by kernel_rfl
noncomputable def zdk:List (FuncId×Spec):=(24,⟨[.i,.i],[.i],z5h⟩)::zi9
theorem zqj:zk Tryz.prog (zl zdk):=za zt z1c zh zws (by kernel_rfl) ⟨_,Tryz.func24,by rfl⟩ (tm:=zm7) (gh:=zm8) fun x y h=>⟨0,400,(zth 0 x.1 x.2).trans h⟩
noncomputable def zwt:Nat->Option Tmpl:=fun cx=>cond (Nat.beq cx 1) (some ⟨[],[],18,[],([J,J,J,.var .i,J,J,.var (.list .i),.var .i,.var .i]++jN 9),[],[]⟩) <| none
theorem z090 (N:Nat) (a0:(List Int)):z1a (z11.mk' (z0p zdk) zwt zm8) N 400 83 [(.list .i)] [.i] a0=zjh N a0:=by kernel_rfl
noncomputable def zti:List (FuncId×Spec):=(83,⟨[(.list .i)],[.i],zt8⟩)::zdk
theorem z06s:zk Tryz.prog (zl zti):=za zt z1c zh zqj (by kernel_rfl) ⟨_,Tryz.func83,by rfl⟩ (tm:=zwt) (gh:=zm8) fun x y h=>by obtain ⟨N,h⟩:=zg h;exact ⟨N,400,(z090 N x).trans h⟩
theorem zia (N:Nat) (a0:Rank) (a1:Rank):z1a (z11.mk' (z0p zti) zm7 zm8) N 400 63 [.rank,.rank] [.bool] (a0,a1)=z1q a0 a1:=by kernel_rfl
noncomputable def z4n:List (FuncId×Spec):=(63,⟨[.rank,.rank],[.bool],z4m⟩)::zti
theorem zgu:zk Tryz.prog (zl z4n):=za zt z1c zh z06s (by kernel_rfl) ⟨_,Tryz.func63,by rfl⟩ (tm:=zm7) (gh:=zm8) fun x y h=>⟨0,400,(zia 0 x.1 x.2).trans h⟩
noncomputable def zea:Nat->Option Tmpl:=fun cx=>cond (Nat.beq cx 1) (some ⟨[],[],25,[.st .chip,.st .table,.raw 1 1,.st .rank,.st .chip,.raw 1 1,.raw 1 1,.dfr,.loop 50],([.fix (.yield 8),.fix (.ptr 4 0 0 0),.fix (.ptr 5 0 0 0),.fix (.ptr 6 0 0 0),J,J,.fix (.ptr 4 0 0 0),J,.var .i,.var .i]++jN 15++[.agg .chip,.agg .table,.var .i,.agg .rank,.agg .chip,.var .i,.var .i,J,J,J,.fix (.ptr 0 0 0 0),.fix (.ptr 1 0 0 0),J,J,.fix (.ptr 2 0 0 0),.fix (.ptr 3 0 0 0),J,J,.fix (.agg [(.int .i64 0),(.int .i64 0)]),J,J,.fix (.fn 79 [] [(.ptr 4 0 0 0),(.ptr 5 0 0 0),(.ptr 6 0 0 0)])]++jN 35),[],[]⟩) <| none
theorem zp5 (N:Nat) (a0:Chip) (a1:Table) (a2:Int):z1a (z11.mk' (z0p z4n) zea zm8) N 400 30 [.chip,.table,.i] [.i] (a0,a1,a2)=z5j N a0 a1 a2:=by kernel_rfl
noncomputable def zfc:List (FuncId×Spec):=(30,⟨[.chip,.table,.i],[.i],z2s⟩)::z4n
theorem zmx:zk Tryz.prog (zl zfc):=za zt z1c zh zgu (by kernel_rfl) ⟨_,Tryz.func30,by rfl⟩ (tm:=zea) (gh:=zm8) fun x y h=>by obtain ⟨N,h⟩:=zg h;exact ⟨N,400,(zp5 N x.1 x.2.1 x.2.2).trans h⟩
noncomputable def zib:List (FuncId×Spec):=(9,⟨[.device],[.report],z6a⟩)::zfc
theorem zwu:zk Tryz.prog (zl zib):=z0c1 zmx (by kernel_rfl) (by kernel_rfl) (by kernel_rfl) (by kernel_rfl) (by kernel_rfl)
theorem zwv (N:Nat) (a0:Geometry):z1a (z11.mk' (z0p zib) zm7 zm8) N 400 31 [.geometry] [.bool] a0=zai a0:=by kernel_rfl
noncomputable def zfd:List (FuncId×Spec):=(31,⟨[.geometry],[.bool],zaj⟩)::zib
theorem ztj:zk Tryz.prog (zl zfd):=za zt z1c zh zwu (by kernel_rfl) ⟨_,Tryz.func31,by rfl⟩ (tm:=zm7) (gh:=zm8) fun x y h=>⟨0,400,(zwv 0 x).trans h⟩
noncomputable def zma:Nat->Option Tmpl:=fun cx=>cond (Nat.beq cx 6) (some ⟨[.cell 1 0 0 .block],[(2,.block)],68,[.raw 4 1,.raw 4 1,.dead,.nst true 0 true],([.var .i,.var .i,.var (.list .i),J,J,J,.fix (.ptr 0 0 0 0),J,.fix (.ptr 1 0 0 0),.var .i]++jN 62++[.fix (.bref 3 0),.var .bool,.var .bool,.var .i,.var (.list .block)]),[.nest 3 true],[.abs 3]⟩) <| cond (Nat.beq cx 110) (some ⟨[],[],68,[.raw 4 1,.raw 4 1,.dead,.nst true 0 false],([.var .i,J,.var (.list .i),J,J,J,.fix (.ptr 0 0 0 0),J,.fix (.ptr 1 0 0 0),J,.var .i]++jN 61++[.fix (.bref 3 0),.var .bool,.var .bool,.var .i,.var (.list .block)]),[],[]⟩) <| none
theorem z004 (N:Nat) (a0:Int) (a1:Int) (a2:(List Int)):z1a (z11.mk' (z0p zfd) zma zm8) N 400 32 [.i,.i,(.list .i)] [.chip,.i] (a0,a1,a2)=zd4 N a0 a1 a2:=by kernel_rfl
noncomputable def zic:List (FuncId×Spec):=(32,⟨[.i,.i,(.list .i)],[.chip,.i],zhz⟩)::zfd
theorem zww:zk Tryz.prog (zl zic):=za zt z1c zh ztj (by kernel_rfl) ⟨_,Tryz.func32,by rfl⟩ (tm:=zma) (gh:=zm8) fun x y h=>by obtain ⟨N,h⟩:=zg h;exact ⟨N,400,(z004 N x.1 x.2.1 x.2.2).trans h⟩
noncomputable def zjp:Nat->Option Tmpl:=fun cx=>cond (Nat.beq cx 1) (some ⟨[],[],21,[.st .chip],([J,.fix (.ptr 0 0 0 0),J,.var .i,.var .i]++jN 16++[.agg .chip]),[],[]⟩) <| none
theorem zwx (N:Nat) (a0:Chip):z1a (z11.mk' (z0p zic) zjp zm8) N 400 33 [.chip] [.i] a0=zm2 N a0:=by kernel_rfl
noncomputable def zfe:List (FuncId×Spec):=(33,⟨[.chip],[.i],zax⟩)::zic
theorem ztk:zk Tryz.prog (zl zfe):=za zt z1c zh zww (by kernel_rfl) ⟨_,Tryz.func33,by rfl⟩ (tm:=zjp) (gh:=zm8) fun x y h=>by obtain ⟨N,h⟩:=zg h;exact ⟨N,400,(zwx N x).trans h⟩
noncomputable def zh3:Nat->Option Tmpl:=fun cx=>cond (Nat.beq cx 1) (some ⟨[],[],92,[.raw 2 1,.st .found,.raw 2 1,.dead,.dead,.blk .i 0 false,.dead,.dead,.blk .i 0 false,.dead,.raw 2 1,.dead],([J,J,.fix (.ptr 0 0 0 0),.fix (.ptr 1 0 0 0),.fix (.ptr 2 0 0 0),.fix (.ptr 10 0 0 0),.var .i,J,.fix (.ptr 0 0 0 0),J,.fix (.bref 5 0),.fix (.ptr 0 0 0 1),J,.fix (.bref 8 0)]++jN 80++[.agg .found,J,J,.var (.list .i),.var (.list .i),.fix (.bref 5 0),.fix (.bref 8 0)]),[],[]⟩) <| none
theorem ztl (N:Nat) (a0:Table) (a1:Found):z1a (z11.mk' (z0p zfe) zh3 zm8) N 400 49 [.table,.found] [.table] (a0,a1)=z8b N a0 a1:=by kernel_rfl
noncomputable def zdl:List (FuncId×Spec):=(49,⟨[.table,.found],[.table],z35⟩)::zfe
theorem zqk:zk Tryz.prog (zl zdl):=za zt z1c zh ztk (by kernel_rfl) ⟨_,Tryz.func49,by rfl⟩ (tm:=zh3) (gh:=zm8) fun x y h=>by obtain ⟨N,h⟩:=zg h;exact ⟨N,400,(ztl N x.1 x.2).trans h⟩
noncomputable def zmb:Nat->Option Tmpl:=fun cx=>cond (Nat.beq cx 1) (some ⟨[.cell 1 0 0 .i,.cell 1 0 1 .i],[(2,.i),(3,.i)],25,[.raw 2 1,.raw 2 1,.dead,.dead,.blk .i 0 true,.blk .i 0 true],([.var .i,J,.fix (.ptr 0 0 0 0),.fix (.ptr 1 0 0 0),.var .i]++jN 22++[.fix (.bref 4 0),.fix (.bref 5 0),.var (.list .i),.var (.list .i)]),[],[]⟩) <| none
theorem z005 (N:Nat) (a0:Int):z1a (z11.mk' (z0p zdl) zmb zm8) N 400 84 [.i] [.table] a0=zor N a0:=by kernel_rfl
noncomputable def zid:List (FuncId×Spec):=(84,⟨[.i],[.table],zhu⟩)::zdl
theorem zwy:zk Tryz.prog (zl zid):=za zt z1c zh zqk (by kernel_rfl) ⟨_,Tryz.func84,by rfl⟩ (tm:=zmb) (gh:=zm8) fun x y h=>by obtain ⟨N,h⟩:=zg h;exact ⟨N,400,(z005 N x).trans h⟩
theorem ztm (N:Nat) (a0:Int) (a1:Int):z1a (z11.mk' (z0p zid) zm7 zm8) N 400 50 [.i,.i] [.i] (a0,a1)=z8d a0 a1:=by kernel_rfl
noncomputable def zdm:List (FuncId×Spec):=(50,⟨[.i,.i],[.i],z38⟩)::zid
theorem zql:zk Tryz.prog (zl zdm):=za zt z1c zh zwy (by kernel_rfl) ⟨_,Tryz.func50,by rfl⟩ (tm:=zm7) (gh:=zm8) fun x y h=>⟨0,400,(ztm 0 x.1 x.2).trans h⟩
noncomputable def zjq:Nat->Option Tmpl:=fun cx=>cond (Nat.beq cx 1) (some ⟨[],[],46,[],([.var (.list .i),J,J,.var .i]++jN 42),[],[]⟩) <| none
theorem zwz (N:Nat) (a0:(List Int)):z1a (z11.mk' (z0p zdm) zjq zm8) N 400 109 [(.list .i)] [.bool] a0=zlx N a0:=by kernel_rfl
noncomputable def zff:List (FuncId×Spec):=(109,⟨[(.list .i)],[.bool],zer⟩)::zdm
theorem ztn:zk Tryz.prog (zl zff):=za zt z1c zh zql (by kernel_rfl) ⟨_,Tryz.func109,by rfl⟩ (tm:=zjq) (gh:=zm8) fun x y h=>by obtain ⟨N,h⟩:=zg h;exact ⟨N,400,(zwz N x).trans h⟩
end Clk.YtbdmoijmcondcaaGreat
namespace Clk.YtbdmoijmcondcaaGreat
open Go Go.Proofs Go.Proofs.YtbdmoijmcondcaaGreat
noncomputable def zh4:Nat->Option Tmpl:=fun cx=>cond (Nat.beq cx 26) (some ⟨[],[],58,[.st .record],([J,.fix (.ptr 0 0 0 0),J,.var .i,.fix (.ptr 0 0 0 1),J,J,J,.fix (.ptr 0 0 0 1),J,J,J,J,.fix (.ptr 0 0 0 2),J,J,J,J,.fix (.ptr 0 0 0 0)]++jN 39++[.agg .record]),[],[]⟩) <| none
theorem zto (N:Nat) (a0:Record):z1a (z11.mk' (z0p zff) zh4 zm8) N 400 92 [.record] [.bool] a0=zcx N a0:=by kernel_rfl
noncomputable def zdn:List (FuncId×Spec):=(92,⟨[.record],[.bool],zcy⟩)::zff
theorem zqm:zk Tryz.prog (zl zdn):=za zt z1c zh ztn (by kernel_rfl) ⟨_,Tryz.func92,by rfl⟩ (tm:=zh4) (gh:=zm8) fun x y h=>by obtain ⟨N,h⟩:=zg h;exact ⟨N,400,(zto N x).trans h⟩
noncomputable def zmc:Nat->Option Tmpl:=fun cx=>cond (Nat.beq cx 6) (some ⟨[],[],28,[],([.var .i,J,J,.var .str]++jN 24),[],[]⟩) <| none
theorem z006 (N:Nat) (a0:Int):z1a (z11.mk' (z0p zdn) zmc zm8) N 400 119 [.i] [.str] a0=zhv N a0:=by kernel_rfl
noncomputable def zie:List (FuncId×Spec):=(119,⟨[.i],[.str],zcz⟩)::zdn
theorem zx0:zk Tryz.prog (zl zie):=za zt z1c zh zqm (by kernel_rfl) ⟨_,Tryz.func119,by rfl⟩ (tm:=zmc) (gh:=zm8) fun x y h=>by obtain ⟨N,h⟩:=zg h;exact ⟨N,400,(z006 N x).trans h⟩
noncomputable def zjr:Nat->Option Tmpl:=fun cx=>cond (Nat.beq cx 1) (some ⟨[],[],27,[],([.var (.list .i),J,J,J,.var .str,.var .i]++jN 21),[],[]⟩) <| none
theorem zx1 (N:Nat) (a0:(List Int)):z1a (z11.mk' (z0p zie) zjr zm8) N 400 110 [(.list .i)] [.str,.i] a0=zes N a0:=by kernel_rfl
noncomputable def zfg:List (FuncId×Spec):=(110,⟨[(.list .i)],[.str,.i],z75⟩)::zie
theorem ztp:zk Tryz.prog (zl zfg):=za zt z1c zh zx0 (by kernel_rfl) ⟨_,Tryz.func110,by rfl⟩ (tm:=zjr) (gh:=zm8) fun x y h=>by obtain ⟨N,h⟩:=zg h;exact ⟨N,400,(zx1 N x).trans h⟩
noncomputable def zjs:Nat->Option Tmpl:=fun cx=>cond (Nat.beq cx 1) (some ⟨[.tmp 4 .i],[(2,.i)],54,[.st .record,.blk .i 0 false,.dead,.blk .i 0 true],([J,.fix (.ptr 0 0 0 0),J,.fix (.bref 1 0),.fix (.bref 3 0),.var .i]++jN 6++[.fix (.ptr 0 0 0 0),J,.fix (.ptr 0 0 0 1),J,.fix (.bref 1 0)]++jN 37++[.agg .record,.var (.list .i),.var (.list .i)]),[],[]⟩) <| none
theorem zx2 (N:Nat) (a0:Record):z1a (z11.mk' (z0p zfg) zjs zm8) N 400 93 [.record] [.str] a0=zly N a0:=by kernel_rfl
noncomputable def zfh:List (FuncId×Spec):=(93,⟨[.record],[.str],zet⟩)::zfg
theorem ztq:zk Tryz.prog (zl zfh):=za zt z1c zh ztp (by kernel_rfl) ⟨_,Tryz.func93,by rfl⟩ (tm:=zjs) (gh:=zm8) fun x y h=>by obtain ⟨N,h⟩:=zg h;exact ⟨N,400,(zx2 N x).trans h⟩
theorem ztr (N:Nat) (a0:Int):z1a (z11.mk' (z0p zfh) zm7 zm8) N 400 94 [.i] [.str] a0=zd0 a0:=by kernel_rfl
noncomputable def zdo:List (FuncId×Spec):=(94,⟨[.i],[.str],z8c⟩)::zfh
theorem zqn:zk Tryz.prog (zl zdo):=za zt z1c zh ztq (by kernel_rfl) ⟨_,Tryz.func94,by rfl⟩ (tm:=zm7) (gh:=zm8) fun x y h=>⟨0,400,(ztr 0 x).trans h⟩
theorem zx3 (N:Nat) (a0:Int):z1a (z11.mk' (z0p zdo) zm7 zm8) N 400 111 [.i] [.i] a0=zeu a0:=by kernel_rfl
noncomputable def zfi:List (FuncId×Spec):=(111,⟨[.i],[.i],zan⟩)::zdo
theorem zts:zk Tryz.prog (zl zfi):=za zt z1c zh zqn (by kernel_rfl) ⟨_,Tryz.func111,by rfl⟩ (tm:=zm7) (gh:=zm8) fun x y h=>⟨0,400,(zx3 0 x).trans h⟩
noncomputable def zmd:Nat->Option Tmpl:=fun cx=>cond (Nat.beq cx 1) (some ⟨[],[],26,[],([.var .str,J,J,.var .i,.var .i]++jN 21),[],[]⟩) <| cond (Nat.beq cx 29) (some ⟨[],[],26,[],([.var .str,J,J,.var .i,.var .i,.var .i]++jN 20),[],[]⟩) <| none
theorem z007 (N:Nat) (a0:Str):z1a (z11.mk' (z0p zfi) zmd zm8) N 400 95 [.str] [.i] a0=zos N a0:=by kernel_rfl
noncomputable def zif:List (FuncId×Spec):=(95,⟨[.str],[.i],zhw⟩)::zfi
theorem zx4:zk Tryz.prog (zl zif):=za zt z1c zh zts (by kernel_rfl) ⟨_,Tryz.func95,by rfl⟩ (tm:=zmd) (gh:=zm8) fun x y h=>by obtain ⟨N,h⟩:=zg h;exact ⟨N,400,(z007 N x).trans h⟩
theorem zqo (N:Nat) (a0:Record) (a1:Str):z1a (z11.mk' (z0p zif) zm7 zm8) N 400 74 [.record,.str] [.str,.i] (a0,a1)=z6j a0 a1:=by kernel_rfl
noncomputable def zbt:List (FuncId×Spec):=(74,⟨[.record,.str],[.str,.i],z6k⟩)::zif
theorem zp6:zk Tryz.prog (zl zbt):=za zt z1c zh zx4 (by kernel_rfl) ⟨_,Tryz.func74,by rfl⟩ (tm:=zm7) (gh:=zm8) fun x y h=>⟨0,400,(zqo 0 x.1 x.2).trans h⟩
noncomputable def zjt:Nat->Option Tmpl:=fun cx=>cond (Nat.beq cx 1) (some ⟨[],[],48,[],([.var .str,J,J,J,J,.var .i,.var .i,.var .i]++jN 40),[],[]⟩) <| none
theorem zx5 (N:Nat) (a0:Str):z1a (z11.mk' (z0p zbt) zjt zm8) N 400 122 [.str] [.i,.str,.bool] a0=zlz N a0:=by kernel_rfl
noncomputable def zfj:List (FuncId×Spec):=(122,⟨[.str],[.i,.str,.bool],zao⟩)::zbt
theorem ztt:zk Tryz.prog (zl zfj):=za zt z1c zh zp6 (by kernel_rfl) ⟨_,Tryz.func122,by rfl⟩ (tm:=zjt) (gh:=zm8) fun x y h=>by obtain ⟨N,h⟩:=zg h;exact ⟨N,400,(zx5 N x).trans h⟩
noncomputable def zfk:Nat->Option Tmpl:=fun cx=>cond (Nat.beq cx 6) (some ⟨[.tmp 8 .i],[(0,.i)],47,[.dead,.blk .i 0 true],([J,J,J,J,J,.var .i,.var .str,J,.fix (.bref 1 0),.var .i]++jN 37++[.var (.list .i)]),[],[]⟩) <| none
theorem zqp (N:Nat) (a0:Str):z1a (z11.mk' (z0p zfj) zfk zm8) N 400 121 [.str] [(.list .i),.str,.i] a0=zbh N a0:=by kernel_rfl
noncomputable def zbu:List (FuncId×Spec):=(121,⟨[.str],[(.list .i),.str,.i],z3v⟩)::zfj
theorem zp7:zk Tryz.prog (zl zbu):=za zt z1c zh ztt (by kernel_rfl) ⟨_,Tryz.func121,by rfl⟩ (tm:=zfk) (gh:=zm8) fun x y h=>by obtain ⟨N,h⟩:=zg h;exact ⟨N,400,(zqp N x).trans h⟩
noncomputable def zfl:Nat->Option Tmpl:=fun cx=>cond (Nat.beq cx 6) (some ⟨[.cell 9 0 3 .i],[(11,.i)],91,[.raw 4 1,.dead,.dead,.dead,.dead,.dead,.dead,.dead,.dead,.raw 4 1,.dead,.dead,.blk .i 0 true],([.var .str,.var .str,J,J,.fix (.ptr 0 0 0 0)]++jN 6++[.var (.list .i),J,J,.fix (.ptr 9 0 0 0),.var .i]++jN 79++[.var .i,.var .i,.var (.list .i),.fix (.bref 12 0),.var (.list .i)]),[],[]⟩) <| none
theorem zqq (N:Nat) (a0:Str) (a1:Str):z1a (z11.mk' (z0p zbu) zfl zm8) N 400 117 [.str,.str] [.record,.i] (a0,a1)=z6l N a0 a1:=by kernel_rfl
noncomputable def zbv:List (FuncId×Spec):=(117,⟨[.str,.str],[.record,.i],zbi⟩)::zbu
theorem zp8:zk Tryz.prog (zl zbv):=za zt z1c zh zp7 (by kernel_rfl) ⟨_,Tryz.func117,by rfl⟩ (tm:=zfl) (gh:=zm8) fun x y h=>by obtain ⟨N,h⟩:=zg h;exact ⟨N,400,(zqq N x.1 x.2).trans h⟩
theorem zx6 (N:Nat) (a0:Page):z1a (z11.mk' (z0p zbv) zm7 zm8) N 400 107 [.page] [.i,.record] a0=zap a0:=by kernel_rfl
noncomputable def zfm:List (FuncId×Spec):=(107,⟨[.page],[.i,.record],zev⟩)::zbv
theorem ztu:zk Tryz.prog (zl zfm):=za zt z1c zh zp8 (by kernel_rfl) ⟨_,Tryz.func107,by rfl⟩ (tm:=zm7) (gh:=zm8) fun x y h=>⟨0,400,(zx6 0 x).trans h⟩
theorem ztv (N:Nat) (a0:Found) (a1:Found):z1a (z11.mk' (z0p zfm) zm7 zm8) N 400 118 [.found,.found] [.bool] (a0,a1)=z8e a0 a1:=by kernel_rfl
noncomputable def zdp:List (FuncId×Spec):=(118,⟨[.found,.found],[.bool],zd1⟩)::zfm
theorem zqr:zk Tryz.prog (zl zdp):=za zt z1c zh ztu (by kernel_rfl) ⟨_,Tryz.func118,by rfl⟩ (tm:=zm7) (gh:=zm8) fun x y h=>⟨0,400,(ztv 0 x.1 x.2).trans h⟩
noncomputable def zme:Nat->Option Tmpl:=fun cx=>cond (Nat.beq cx 1) (some ⟨[.tmp 5 .found],[(1,.found)],42,[.st .found,.dead,.blk .found 0 true],([.var (.list .found),J,J,.fix (.ptr 0 0 0 0),J,.fix (.bref 2 0),.var .bool,.var .i]++jN 34++[.agg .found,.var (.list .found)]),[],[]⟩) <| none
theorem z008 (N:Nat) (a0:(List Found)) (a1:Found):z1a (z11.mk' (z0p zdp) zme zm8) N 400 108 [(.list .found),.found] [(.list .found)] (a0,a1)=zot N a0 a1:=by kernel_rfl
noncomputable def zig:List (FuncId×Spec):=(108,⟨[(.list .found),.found],[(.list .found)],zhx⟩)::zdp
theorem zx7:zk Tryz.prog (zl zig):=za zt z1c zh zqr (by kernel_rfl) ⟨_,Tryz.func108,by rfl⟩ (tm:=zme) (gh:=zm8) fun x y h=>by obtain ⟨N,h⟩:=zg h;exact ⟨N,400,(z008 N x.1 x.2).trans h⟩
noncomputable def zmf:Nat->Option Tmpl:=fun cx=>cond (Nat.beq cx 1) (some ⟨[],[],55,[.st .chip],([J,.fix (.ptr 0 0 0 0),J,.var (.list .found),.var .i]++jN 50++[.agg .chip]),[],[]⟩) <| cond (Nat.beq cx 29) (some ⟨[],[],55,[.st .chip],([J,.fix (.ptr 0 0 0 0),J,.var (.list .found),.var .i,.var .i,J,J,J,J,.fix (.ptr 0 0 0 0)]++jN 44++[.agg .chip]),[],[]⟩) <| none
theorem z009 (N:Nat) (a0:Chip):z1a (z11.mk' (z0p zig) zmf zm8) N 400 85 [.chip] [(.list .found)] a0=zou N a0:=by kernel_rfl
noncomputable def zih:List (FuncId×Spec):=(85,⟨[.chip],[(.list .found)],zhy⟩)::zig
theorem zx8:zk Tryz.prog (zl zih):=za zt z1c zh zx7 (by kernel_rfl) ⟨_,Tryz.func85,by rfl⟩ (tm:=zmf) (gh:=zm8) fun x y h=>by obtain ⟨N,h⟩:=zg h;exact ⟨N,400,(z009 N x).trans h⟩
noncomputable def zfn:Nat->Option Tmpl:=fun cx=>cond (Nat.beq cx 1) (some ⟨[],[],37,[.raw 4 1,.raw 2 1,.st .table],([J,J,.fix (.ptr 0 0 0 0),J,.fix (.ptr 1 0 0 0),J,.fix (.ptr 2 0 0 0),.var (.list .found),.var .i,.var .i]++jN 33++[.agg .table]),[],[]⟩) <| none
theorem zqs (N:Nat) (a0:Chip) (a1:Int):z1a (z11.mk' (z0p zih) zfn zm8) N 400 64 [.chip,.i] [.table,.i] (a0,a1)=z6p N a0 a1:=by kernel_rfl
noncomputable def zbw:List (FuncId×Spec):=(64,⟨[.chip,.i],[.table,.i],zbl⟩)::zih
theorem zp9:zk Tryz.prog (zl zbw):=za zt z1c zh zx8 (by kernel_rfl) ⟨_,Tryz.func64,by rfl⟩ (tm:=zfn) (gh:=zm8) fun x y h=>by obtain ⟨N,h⟩:=zg h;exact ⟨N,400,(zqs N x.1 x.2).trans h⟩
noncomputable def zpa:Nat->Option Tmpl:=fun cx=>cond (Nat.beq cx 1) (some ⟨[.tmp 3 .block],[(4,.block)],29,[.raw 4 1,.raw 4 1,.st .chip,.raw 4 1,.dead,.nst true 0 true],([J,.fix (.ptr 2 0 0 0),.fix (.ptr 3 0 0 0),.fix (.bref 5 0),.var .i]++jN 32++[.agg .chip,J,J,J,J,.var (.list .block)]),[.nest 5 true],[.abs 5]⟩) <| none
theorem z045 (N:Nat) (a0:Chip):z1a (z11.mk' (z0p zbw) zpa zm8) N 400 65 [.chip] [.chip] a0=zrz N a0:=by kernel_rfl
noncomputable def zlb:List (FuncId×Spec):=(65,⟨[.chip],[.chip],zl7⟩)::zbw
theorem z00a:zk Tryz.prog (zl zlb):=za zt z1c zh zp9 (by kernel_rfl) ⟨_,Tryz.func65,by rfl⟩ (tm:=zpa) (gh:=zm8) fun x y h=>by obtain ⟨N,h⟩:=zg h;exact ⟨N,400,(z045 N x).trans h⟩
noncomputable def zh5:Nat->Option Tmpl:=fun cx=>cond (Nat.beq cx 6) (some ⟨[],[],76,[.st .geometry,.st .chip,.raw 12 1],([J,J,.fix (.ptr 0 0 0 0),.fix (.ptr 1 0 0 0),.fix (.ptr 2 0 0 0),J,.var .i,.var .i]++jN 7++[.fix (.ptr 1 0 0 0),J,J,.fix (.ptr 0 0 0 0)]++jN 57++[.agg .geometry,.agg .chip]++jN 12),[],[]⟩) <| none
theorem ztw (N:Nat) (a0:Geometry) (a1:Chip):z1a (z11.mk' (z0p zlb) zh5 zm8) N 400 34 [.geometry,.chip] [.device,.i] (a0,a1)=z8h N a0 a1:=by kernel_rfl
noncomputable def zdq:List (FuncId×Spec):=(34,⟨[.geometry,.chip],[.device,.i],zd2⟩)::zlb
theorem zqt:zk Tryz.prog (zl zdq):=za zt z1c zh z00a (by kernel_rfl) ⟨_,Tryz.func34,by rfl⟩ (tm:=zh5) (gh:=zm8) fun x y h=>by obtain ⟨N,h⟩:=zg h;exact ⟨N,400,(ztw N x.1 x.2).trans h⟩
theorem zqu (N:Nat) (a0:Geometry) (a1:(List Int)):z1a (z11.mk' (z0p zdq) zm7 zm8) N 400 10 [.geometry,(.list .i)] [.device,.i] (a0,a1)=z6u a0 a1:=by kernel_rfl
noncomputable def zbx:List (FuncId×Spec):=(10,⟨[.geometry,(.list .i)],[.device,.i],z6v⟩)::zdq
theorem zpb:zk Tryz.prog (zl zbx):=za zt z1c zh zqt (by kernel_rfl) ⟨_,Tryz.func10,by rfl⟩ (tm:=zm7) (gh:=zm8) fun x y h=>⟨0,400,(zqu 0 x.1 x.2).trans h⟩
theorem ztx (N:Nat) (a0:Int):z1a (z11.mk' (z0p zbx) zm7 zm8) N 400 11 [(.int .u8)] [.geometry] a0=z8i a0:=by kernel_rfl
noncomputable def zdr:List (FuncId×Spec):=(11,⟨[(.int .u8)],[.geometry],z8j⟩)::zbx
theorem zqv:zk Tryz.prog (zl zdr):=za zt z1c zh zpb (by kernel_rfl) ⟨_,Tryz.func11,by rfl⟩ (tm:=zm7) (gh:=zm8) fun x y h=>⟨0,400,(ztx 0 x).trans h⟩
theorem zx9 (N:Nat) (a0:Chip) (a1:Int):z1a (z11.mk' (z0p zdr) zm7 zm8) N 400 57 [.chip,.i] [.page,.bool] (a0,a1)=zb0 a0 a1:=by kernel_rfl
noncomputable def zfo:List (FuncId×Spec):=(57,⟨[.chip,.i],[.page,.bool],z7e⟩)::zdr
theorem zty:zk Tryz.prog (zl zfo):=za zt z1c zh zqv (by kernel_rfl) ⟨_,Tryz.func57,by rfl⟩ (tm:=zm7) (gh:=zm8) fun x y h=>⟨0,400,(zx9 0 x.1 x.2).trans h⟩
theorem z00b (N:Nat) (a0:Chip) (a1:Table) (a2:Int):z1a (z11.mk' (z0p zfo) zm7 zm8) N 400 25 [.chip,.table,.i] [.str] (a0,a1,a2)=zd8 a0 a1 a2:=by kernel_rfl
noncomputable def zii:List (FuncId×Spec):=(25,⟨[.chip,.table,.i],[.str],z9o⟩)::zfo
theorem zxa:zk Tryz.prog (zl zii):=za zt z1c zh zty (by kernel_rfl) ⟨_,Tryz.func25,by rfl⟩ (tm:=zm7) (gh:=zm8) fun x y h=>⟨0,400,(z00b 0 x.1 x.2.1 x.2.2).trans h⟩
noncomputable def zmg:Nat->Option Tmpl:=fun cx=>cond (Nat.beq cx 1) (some ⟨[.tmp 3 .str],[(1,.str)],23,[.st .device,.dead,.blk .str 0 true],([J,.fix (.ptr 0 0 0 0),J,.fix (.bref 2 0),.var .i]++jN 18++[.agg .device,.var (.list .str)]),[],[]⟩) <| none
theorem z00c (N:Nat) (a0:Device):z1a (z11.mk' (z0p zii) zmg zm8) N 400 8 [.device] [(.list .str)] a0=zov N a0:=by kernel_rfl
noncomputable def zij:List (FuncId×Spec):=(8,⟨[.device],[(.list .str)],zow⟩)::zii
theorem zxb:zk Tryz.prog (zl zij):=za zt z1c zh zxa (by kernel_rfl) ⟨_,Tryz.func8,by rfl⟩ (tm:=zmg) (gh:=zm8) fun x y h=>by obtain ⟨N,h⟩:=zg h;exact ⟨N,400,(z00c N x).trans h⟩
noncomputable def zh6:Nat->Option Tmpl:=fun cx=>cond (Nat.beq cx 25) (some ⟨[],[],54,[.st .command],([.var .i,J,J,.fix (.ptr 0 0 0 0),J,.var .i,.var .i,.fix (.ptr 0 0 0 2),J,.fix (.ptr 0 0 0 0),J,J,J,J,J,.fix (.ptr 0 0 0 3)]++jN 38++[.agg .command]),[],[]⟩) <| none
theorem ztz (N:Nat) (a0:Int) (a1:Command):z1a (z11.mk' (z0p zij) zh6 zm8) N 400 35 [.i,.command] [.i] (a0,a1)=zji N a0 a1:=by kernel_rfl
noncomputable def zds:List (FuncId×Spec):=(35,⟨[.i,.command],[.i],zdb⟩)::zij
theorem zqw:zk Tryz.prog (zl zds):=za zt z1c zh zxb (by kernel_rfl) ⟨_,Tryz.func35,by rfl⟩ (tm:=zh6) (gh:=zm8) fun x y h=>by obtain ⟨N,h⟩:=zg h;exact ⟨N,400,(ztz N x.1 x.2).trans h⟩
noncomputable def zmh:Nat->Option Tmpl:=fun cx=>cond (Nat.beq cx 1) (some ⟨[.tmp 3 .str],[(0,.str)],18,[.dead,.blk .str 0 true],([.var .i,J,J,.fix (.bref 1 0),.var .i]++jN 13++[.var (.list .str)]),[],[]⟩) <| none
theorem z00d (N:Nat) (a0:Int):z1a (z11.mk' (z0p zds) zmh zm8) N 400 36 [.i] [(.list .str)] a0=zox N a0:=by kernel_rfl
noncomputable def zik:List (FuncId×Spec):=(36,⟨[.i],[(.list .str)],zi3⟩)::zds
theorem zxc:zk Tryz.prog (zl zik):=za zt z1c zh zqw (by kernel_rfl) ⟨_,Tryz.func36,by rfl⟩ (tm:=zmh) (gh:=zm8) fun x y h=>by obtain ⟨N,h⟩:=zg h;exact ⟨N,400,(z00d N x).trans h⟩
end Clk.YtbdmoijmcondcaaGreat
namespace Clk.YtbdmoijmcondcaaGreat
open Go Go.Proofs Go.Proofs.YtbdmoijmcondcaaGreat
theorem zxd (N:Nat) (a0:(List Fate)):z1a (z11.mk' (z0p zik) zm7 zm8) N 400 43 [(.list .fate)] [.fate,(.list .fate)] a0=zat a0:=by kernel_rfl
noncomputable def zfp:List (FuncId×Spec):=(43,⟨[(.list .fate)],[.fate,(.list .fate)],z7b⟩)::zik
theorem zu0:zk Tryz.prog (zl zfp):=za zt z1c zh zxc (by kernel_rfl) ⟨_,Tryz.func43,by rfl⟩ (tm:=zm7) (gh:=zm8) fun x y h=>⟨0,400,(zxd 0 x).trans h⟩
theorem zxe (N:Nat) (a0:Write):z1a (z11.mk' (z0p zfp) zm7 zm8) N 400 45 [.write] [.page,.i] a0=zaq a0:=by kernel_rfl
noncomputable def zfq:List (FuncId×Spec):=(45,⟨[.write],[.page,.i],zew⟩)::zfp
theorem zu1:zk Tryz.prog (zl zfq):=za zt z1c zh zu0 (by kernel_rfl) ⟨_,Tryz.func45,by rfl⟩ (tm:=zm7) (gh:=zm8) fun x y h=>⟨0,400,(zxe 0 x).trans h⟩
noncomputable def zh7:Nat->Option Tmpl:=fun cx=>cond (Nat.beq cx 26) (some ⟨[],[],63,[.raw 4 1,.st .block],([J,J,J,.fix (.ptr 0 0 0 0),J,J,J,.fix (.ptr 1 0 0 0),.var .i,J,J,J,J,.fix (.ptr 0 0 0 0),J,J,J,J,J,.fix (.ptr 0 0 0 0)]++jN 6++[.fix (.ptr 0 0 0 0)]++jN 40++[.agg .block]),[],[]⟩) <| none
theorem zu2 (N:Nat) (a0:Chip) (a1:Int) (a2:Int):z1a (z11.mk' (z0p zfq) zh7 zm8) N 400 69 [.chip,.i,.i] [.i] (a0,a1,a2)=z8m N a0 a1 a2:=by kernel_rfl
noncomputable def zdt:List (FuncId×Spec):=(69,⟨[.chip,.i,.i],[.i],z3e⟩)::zfq
theorem zqx:zk Tryz.prog (zl zdt):=za zt z1c zh zu1 (by kernel_rfl) ⟨_,Tryz.func69,by rfl⟩ (tm:=zh7) (gh:=zm8) fun x y h=>by obtain ⟨N,h⟩:=zg h;exact ⟨N,400,(zu2 N x.1 x.2.1 x.2.2).trans h⟩
theorem zxf (N:Nat) (a0:Chip) (a1:Int):z1a (z11.mk' (z0p zdt) zm7 zm8) N 400 46 [.chip,.i] [.i] (a0,a1)=zar a0 a1:=by kernel_rfl
noncomputable def zfr:List (FuncId×Spec):=(46,⟨[.chip,.i],[.i],z7a⟩)::zdt
theorem zu3:zk Tryz.prog (zl zfr):=za zt z1c zh zqx (by kernel_rfl) ⟨_,Tryz.func46,by rfl⟩ (tm:=zm7) (gh:=zm8) fun x y h=>⟨0,400,(zxf 0 x.1 x.2).trans h⟩
noncomputable def zju:Nat->Option Tmpl:=fun cx=>cond (Nat.beq cx 1) (some ⟨[],[],40,[.st .chip],([J,.var .i,.fix (.ptr 0 0 0 0),J,J,.var .i,.var .i]++jN 33++[.agg .chip]),[],[]⟩) <| none
theorem zxg (N:Nat) (a0:Chip) (a1:Int):z1a (z11.mk' (z0p zfr) zju zm8) N 400 47 [.chip,.i] [.i] (a0,a1)=zm0 N a0 a1:=by kernel_rfl
noncomputable def zfs:List (FuncId×Spec):=(47,⟨[.chip,.i],[.i],zex⟩)::zfr
theorem zu4:zk Tryz.prog (zl zfs):=za zt z1c zh zu3 (by kernel_rfl) ⟨_,Tryz.func47,by rfl⟩ (tm:=zju) (gh:=zm8) fun x y h=>by obtain ⟨N,h⟩:=zg h;exact ⟨N,400,(zxg N x.1 x.2).trans h⟩
noncomputable def zft:Nat->Option Tmpl:=fun cx=>cond (Nat.beq cx 1) (some ⟨[.tmp 3 .block],[(4,.block)],29,[.raw 4 1,.raw 4 1,.st .chip,.raw 4 1,.dead,.nst true 0 true],([J,.fix (.ptr 2 0 0 0),.fix (.ptr 3 0 0 0),.fix (.bref 5 0),.var .i]++jN 32++[.agg .chip,J,J,J,J,.var (.list .block)]),[.nest 5 true],[.abs 5]⟩) <| none
theorem zqy (N:Nat) (a0:Chip):z1a (z11.mk' (z0p zfs) zft zm8) N 400 73 [.chip] [.chip,.i] a0=zgy N a0:=by kernel_rfl
noncomputable def zby:List (FuncId×Spec):=(73,⟨[.chip],[.chip,.i],z01⟩)::zfs
theorem zpc:zk Tryz.prog (zl zby):=za zt z1c zh zu4 (by kernel_rfl) ⟨_,Tryz.func73,by rfl⟩ (tm:=zft) (gh:=zm8) fun x y h=>by obtain ⟨N,h⟩:=zg h;exact ⟨N,400,(zqy N x).trans h⟩
theorem zu5 (N:Nat) (a0:Chip) (a1:Int) (a2:Int):z1a (z11.mk' (z0p zby) zm7 zm8) N 400 75 [.chip,.i,.i] [.bool] (a0,a1,a2)=z8k a0 a1 a2:=by kernel_rfl
noncomputable def zdu:List (FuncId×Spec):=(75,⟨[.chip,.i,.i],[.bool],zd3⟩)::zby
theorem zqz:zk Tryz.prog (zl zdu):=za zt z1c zh zpc (by kernel_rfl) ⟨_,Tryz.func75,by rfl⟩ (tm:=zm7) (gh:=zm8) fun x y h=>⟨0,400,(zu5 0 x.1 x.2.1 x.2.2).trans h⟩
noncomputable def zeb:Nat->Option Tmpl:=fun cx=>cond (Nat.beq cx 5) (some ⟨[.tmp 3 .block],[(6,.block)],29,[.raw 4 1,.raw 3 1,.raw 4 1,.raw 4 1,.st .chip,.raw 4 1,.dead,.nst true 0 true],([J,.fix (.ptr 4 0 0 0),.fix (.ptr 5 0 0 0),.fix (.bref 7 0),.var .i]++jN 39++[.agg .chip,J,J,J,J,.var (.list .block)]),[.nest 7 true],[.abs 7]⟩) <| cond (Nat.beq cx 26) (some ⟨[.tmp 3 .block],[(6,.block)],29,[.raw 4 1,.st .page,.st .fate,.raw 4 1,.st .chip,.raw 4 1,.dead,.nst true 0 true],([J,.fix (.ptr 4 0 0 0),.fix (.ptr 5 0 0 0),.fix (.bref 7 0),.var .i]++jN 28++[.agg .page,.agg .fate,J,J,J,J,.agg .chip,J,J,J,J,.var (.list .block)]),[.nest 7 true],[.abs 7]⟩) <| none
noncomputable def zec:Nat->Nat->Option (Nat×Nat):=fun cx id=>cond (Nat.beq cx 27541&&Nat.beq id 18) (some (7,1)) <| cond (Nat.beq cx 27542&&Nat.beq id 18) (some (7,1)) <| cond (Nat.beq cx 27545&&Nat.beq id 18) (some (7,1)) <| cond (Nat.beq cx 27546&&Nat.beq id 18) (some (7,1)) <| cond (Nat.beq cx 27557&&Nat.beq id 18) (some (7,1)) <| cond (Nat.beq cx 27558&&Nat.beq id 18) (some (7,1)) <| cond (Nat.beq cx 27561&&Nat.beq id 18) (some (7,1)) <| cond (Nat.beq cx 27562&&Nat.beq id 18) (some (7,1)) <| none
theorem zpd (N:Nat) (a0:Chip) (a1:Int) (a2:Int) (a3:Page) (a4:Fate):z1a (z11.mk' (z0p zdu) zeb zec) N 400 48 [.chip,.i,.i,.page,.fate] [.chip,.i] (a0,a1,a2,a3,a4)=z56 N a0 a1 a2 a3 a4:=by kernel_rfl
noncomputable def za7:List (FuncId×Spec):=(48,⟨[.chip,.i,.i,.page,.fate],[.chip,.i],z57⟩)::zdu
theorem zmy:zk Tryz.prog (zl za7):=za zt z1c zh zqz (by kernel_rfl) ⟨_,Tryz.func48,by rfl⟩ (tm:=zeb) (gh:=zec) fun x y h=>by obtain ⟨N,h⟩:=zg h;exact ⟨N,400,(zpd N x.1 x.2.1 x.2.2.1 x.2.2.2.1 x.2.2.2.2).trans h⟩
noncomputable def zmi:Nat->Option Tmpl:=fun cx=>cond (Nat.beq cx 6) (some ⟨[],[],104,[.st .device,.st .write,.raw 12 1,.st .page],([J,J,.var (.list .fate),.fix (.ptr 0 0 0 0),.fix (.ptr 1 0 0 0),J,.fix (.ptr 2 0 0 0),J,J,.fix (.ptr 3 0 0 0),J,J,J,J,.fix (.ptr 0 0 0 10),J,.fix (.ptr 1 0 0 1),.fix (.ptr 1 0 0 2)]++jN 86++[.agg .device,.agg .write]++jN 12++[.agg .page]),[],[]⟩) <| none
theorem z00e (N:Nat) (a0:Device) (a1:Write) (a2:(List Fate)):z1a (z11.mk' (z0p za7) zmi zm8) N 400 18 [.device,.write,(.list .fate)] [.device,(.list .fate),.i] (a0,a1,a2)=zd6 N a0 a1 a2:=by kernel_rfl
noncomputable def zil:List (FuncId×Spec):=(18,⟨[.device,.write,(.list .fate)],[.device,(.list .fate),.i],z2q⟩)::za7
theorem zxh:zk Tryz.prog (zl zil):=za zt z1c zh zmy (by kernel_rfl) ⟨_,Tryz.func18,by rfl⟩ (tm:=zmi) (gh:=zm8) fun x y h=>by obtain ⟨N,h⟩:=zg h;exact ⟨N,400,(z00e N x.1 x.2.1 x.2.2).trans h⟩
noncomputable def zh8:Nat->Option Tmpl:=fun cx=>cond (Nat.beq cx 1) (some ⟨[.tmp 5 .i],[(0,.i)],28,[.dead,.blk .i 0 true],([.var (.list .i),.var .i,J,J,J,.fix (.bref 1 0),.var .i]++jN 21++[.var (.list .i)]),[],[]⟩) <| none
theorem zu6 (N:Nat) (a0:(List Int)) (a1:Int):z1a (z11.mk' (z0p zil) zh8 zm8) N 400 86 [(.list .i),.i] [(.list .i)] (a0,a1)=z8o N a0 a1:=by kernel_rfl
noncomputable def zdv:List (FuncId×Spec):=(86,⟨[(.list .i),.i],[(.list .i)],z8p⟩)::zil
theorem zr0:zk Tryz.prog (zl zdv):=za zt z1c zh zxh (by kernel_rfl) ⟨_,Tryz.func86,by rfl⟩ (tm:=zh8) (gh:=zm8) fun x y h=>by obtain ⟨N,h⟩:=zg h;exact ⟨N,400,(zu6 N x.1 x.2).trans h⟩
theorem zr1 (N:Nat) (a0:Table) (a1:Int):z1a (z11.mk' (z0p zdv) zm7 zm8) N 400 68 [.table,.i] [(.list .i)] (a0,a1)=z6w a0 a1:=by kernel_rfl
noncomputable def zbz:List (FuncId×Spec):=(68,⟨[.table,.i],[(.list .i)],z3x⟩)::zdv
theorem zpe:zk Tryz.prog (zl zbz):=za zt z1c zh zr0 (by kernel_rfl) ⟨_,Tryz.func68,by rfl⟩ (tm:=zm7) (gh:=zm8) fun x y h=>⟨0,400,(zr1 0 x.1 x.2).trans h⟩
noncomputable def zh9:Nat->Option Tmpl:=fun cx=>cond (Nat.beq cx 1) (some ⟨[.tmp 3 (.list .i)],[(0,(.list .i))],23,[.dead,.blk (.list .i) 0 true],([.var (.list .i),J,J,.fix (.bref 1 0),.var .i]++jN 18++[.var (.list (.list .i))]),[],[]⟩) <| none
theorem zu7 (N:Nat) (a0:(List Int)):z1a (z11.mk' (z0p zbz) zh9 zm8) N 400 88 [(.list .i)] [(.list (.list .i))] a0=z8q N a0:=by kernel_rfl
noncomputable def zdw:List (FuncId×Spec):=(88,⟨[(.list .i)],[(.list (.list .i))],z5k⟩)::zbz
theorem zr2:zk Tryz.prog (zl zdw):=za zt z1c zh zpe (by kernel_rfl) ⟨_,Tryz.func88,by rfl⟩ (tm:=zh9) (gh:=zm8) fun x y h=>by obtain ⟨N,h⟩:=zg h;exact ⟨N,400,(zu7 N x).trans h⟩
theorem z00f (N:Nat) (a0:Table) (a1:Int):z1a (z11.mk' (z0p zdw) zm7 zm8) N 400 91 [.table,.i] [.i] (a0,a1)=zdc a0 a1:=by kernel_rfl
noncomputable def zim:List (FuncId×Spec):=(91,⟨[.table,.i],[.i],zdd⟩)::zdw
theorem zxi:zk Tryz.prog (zl zim):=za zt z1c zh zr2 (by kernel_rfl) ⟨_,Tryz.func91,by rfl⟩ (tm:=zm7) (gh:=zm8) fun x y h=>⟨0,400,(z00f 0 x.1 x.2).trans h⟩
noncomputable def zha:Nat->Option Tmpl:=fun cx=>cond (Nat.beq cx 1) (some ⟨[.tmp 7 .i],[(1,.i)],38,[.st .table,.dead,.blk .i 0 true],([J,.var (.list .i),.var .i,.fix (.ptr 0 0 0 0),J,J,J,.fix (.bref 2 0),.var .i]++jN 29++[.agg .table,.var (.list .i)]),[],[]⟩) <| none
theorem zu8 (N:Nat) (a0:Table) (a1:(List Int)) (a2:Int):z1a (z11.mk' (z0p zim) zha zm8) N 400 89 [.table,(.list .i),.i] [(.list .i)] (a0,a1,a2)=zjj N a0 a1 a2:=by kernel_rfl
noncomputable def zdx:List (FuncId×Spec):=(89,⟨[.table,(.list .i),.i],[(.list .i)],z8r⟩)::zim
theorem zr3:zk Tryz.prog (zl zdx):=za zt z1c zh zxi (by kernel_rfl) ⟨_,Tryz.func89,by rfl⟩ (tm:=zha) (gh:=zm8) fun x y h=>by obtain ⟨N,h⟩:=zg h;exact ⟨N,400,(zu8 N x.1 x.2.1 x.2.2).trans h⟩
theorem zxj (N:Nat) (a0:Table) (a1:Int):z1a (z11.mk' (z0p zdx) zm7 zm8) N 400 90 [.table,.i] [(.list .i)] (a0,a1)=zay a0 a1:=by kernel_rfl
noncomputable def zfu:List (FuncId×Spec):=(90,⟨[.table,.i],[(.list .i)],z7d⟩)::zdx
theorem zu9:zk Tryz.prog (zl zfu):=za zt z1c zh zr3 (by kernel_rfl) ⟨_,Tryz.func90,by rfl⟩ (tm:=zm7) (gh:=zm8) fun x y h=>⟨0,400,(zxj 0 x.1 x.2).trans h⟩
noncomputable def zhb:Nat->Option Tmpl:=fun cx=>cond (Nat.beq cx 1) (some ⟨[.tmp 7 .write],[(2,.write)],99,[.st .chip,.st .table,.dead,.blk .write 0 true],([J,J,.var .i,.fix (.ptr 0 0 0 0),.fix (.ptr 1 0 0 0),J,J,.fix (.bref 3 0),.var .i]++jN 90++[.agg .chip,.agg .table,.var (.list .write)]),[],[.bk 14 3]⟩) <| cond (Nat.beq cx 118) (some ⟨[],[(3,.write)],99,[.st .chip,.st .table,.dead,.dead,.st .page,.blk .write 0 true],([J,J,.var .i,.fix (.ptr 0 0 0 0),.fix (.ptr 1 0 0 0),J,J,.fix (.bref 5 0),.var .i,.var .i,.fix (.ptr 4 0 0 0),J,.var (.list (.list .i)),.var .i]++jN 85++[.agg .chip,.agg .table,.agg .page,.var (.list .write)]),[],[]⟩) <| cond (Nat.beq cx 1902) (some ⟨[],[(5,.write)],99,[.st .chip,.st .table,.dead,.dead,.raw 3 1,.dead,.dead,.dead,.dead,.dead,.dead,.dead,.dead,.dead,.blk .write 0 true],([J,J,.var .i,.fix (.ptr 0 0 0 0),.fix (.ptr 1 0 0 0),J,J,.fix (.bref 14 0),.var .i,J,.fix (.ptr 4 0 0 0),J,J,J,.var (.list (.list .i)),.var .i]++jN 83++[.agg .chip,.agg .table,J,J,J,.var (.list .write)]),[],[]⟩) <| cond (Nat.beq cx 30445) (some ⟨[.tmp 16 .i],[(15,.i)],99,[.st .chip,.st .table,.dead,.dead,.raw 3 1,.dead,.dead,.dead,.dead,.dead,.dead,.dead,.dead,.dead,.blk .write 0 false,.dead,.blk .i 0 true],([J,J,.var .i,.fix (.ptr 0 0 0 0),.fix (.ptr 1 0 0 0),J,J,.fix (.bref 14 0),.var .i,J,.fix (.ptr 4 0 0 0),J,J,J,.var (.list (.list .i)),.var .i,.fix (.bref 16 0),.var .i]++jN 81++[.agg .chip,.agg .table,J,J,J,.var (.list .write),.var (.list .i)]),[],[]⟩) <| none
theorem zua (N:Nat) (a0:Chip) (a1:Table) (a2:Int):z1a (z11.mk' (z0p zfu) zhb zm8) N 400 71 [.chip,.table,.i] [(.list .write)] (a0,a1,a2)=zjk N a0 a1 a2:=by kernel_rfl
noncomputable def zdy:List (FuncId×Spec):=(71,⟨[.chip,.table,.i],[(.list .write)],zde⟩)::zfu
theorem zr4:zk Tryz.prog (zl zdy):=za zt z1c zh zu9 (by kernel_rfl) ⟨_,Tryz.func71,by rfl⟩ (tm:=zhb) (gh:=zm8) fun x y h=>by obtain ⟨N,h⟩:=zg h;exact ⟨N,400,(zua N x.1 x.2.1 x.2.2).trans h⟩
noncomputable def zjv:Nat->Option Tmpl:=fun cx=>cond (Nat.beq cx 1) (some ⟨[],[],42,[.st .device,.raw 12 1],([J,J,.var (.list .fate),.fix (.ptr 0 0 0 0),J,J,.fix (.ptr 1 0 0 0),J,J,.var (.list .write),.var .i,.var .i,.fix (.ptr 0 0 0 4),J,.fix (.ptr 0 0 0 8)]++jN 27++[.agg .device]++jN 12),[],[]⟩) <| none
theorem zxk (N:Nat) (a0:Device) (a1:Int) (a2:(List Fate)):z1a (z11.mk' (z0p zdy) zjv zm8) N 400 42 [.device,.i,(.list .fate)] [.device,(.list .fate),.i] (a0,a1,a2)=zb4 N a0 a1 a2:=by kernel_rfl
noncomputable def zfv:List (FuncId×Spec):=(42,⟨[.device,.i,(.list .fate)],[.device,(.list .fate),.i],zb5⟩)::zdy
theorem zub:zk Tryz.prog (zl zfv):=za zt z1c zh zr4 (by kernel_rfl) ⟨_,Tryz.func42,by rfl⟩ (tm:=zjv) (gh:=zm8) fun x y h=>by obtain ⟨N,h⟩:=zg h;exact ⟨N,400,(zxk N x.1 x.2.1 x.2.2).trans h⟩
theorem zxl (N:Nat) (a0:Table) (a1:Int):z1a (z11.mk' (z0p zfv) zm7 zm8) N 400 87 [.table,.i] [.bool] (a0,a1)=zaz a0 a1:=by kernel_rfl
noncomputable def zfw:List (FuncId×Spec):=(87,⟨[.table,.i],[.bool],zez⟩)::zfv
theorem zuc:zk Tryz.prog (zl zfw):=za zt z1c zh zub (by kernel_rfl) ⟨_,Tryz.func87,by rfl⟩ (tm:=zm7) (gh:=zm8) fun x y h=>⟨0,400,(zxl 0 x.1 x.2).trans h⟩
noncomputable def zhc:Nat->Option Tmpl:=fun cx=>cond (Nat.beq cx 1) (some ⟨[],[],28,[.st .table],([J,.var .i,.fix (.ptr 0 0 0 0),J,J,.var .i,.var .i]++jN 21++[.agg .table]),[],[]⟩) <| none
theorem zud (N:Nat) (a0:Table) (a1:Int):z1a (z11.mk' (z0p zfw) zhc zm8) N 400 70 [.table,.i] [.i] (a0,a1)=zjl N a0 a1:=by kernel_rfl
noncomputable def zdz:List (FuncId×Spec):=(70,⟨[.table,.i],[.i],z8s⟩)::zfw
theorem zr5:zk Tryz.prog (zl zdz):=za zt z1c zh zuc (by kernel_rfl) ⟨_,Tryz.func70,by rfl⟩ (tm:=zhc) (gh:=zm8) fun x y h=>by obtain ⟨N,h⟩:=zg h;exact ⟨N,400,(zud N x.1 x.2).trans h⟩
noncomputable def zjw:Nat->Option Tmpl:=fun cx=>cond (Nat.beq cx 1) (some ⟨[],[],27,[.st .device],([J,.fix (.ptr 0 0 0 0),J,.var .i]++jN 23++[.agg .device]),[],[]⟩) <| none
theorem zxm (N:Nat) (a0:Device):z1a (z11.mk' (z0p zdz) zjw zm8) N 400 51 [.device] [.i] a0=zm3 N a0:=by kernel_rfl
noncomputable def zfx:List (FuncId×Spec):=(51,⟨[.device],[.i],z7g⟩)::zdz
theorem zue:zk Tryz.prog (zl zfx):=za zt z1c zh zr5 (by kernel_rfl) ⟨_,Tryz.func51,by rfl⟩ (tm:=zjw) (gh:=zm8) fun x y h=>by obtain ⟨N,h⟩:=zg h;exact ⟨N,400,(zxm N x).trans h⟩
noncomputable def zfy:Nat->Option Tmpl:=fun cx=>cond (Nat.beq cx 1) (some ⟨[],[],34,[.st .device,.raw 12 1],([J,.var (.list .fate),.fix (.ptr 0 0 0 0),J,.fix (.ptr 1 0 0 0),J,J,.var .i]++jN 26++[.agg .device]++jN 12),[],[]⟩) <| none
theorem zr6 (N:Nat) (a0:Device) (a1:(List Fate)):z1a (z11.mk' (z0p zfx) zfy zm8) N 400 19 [.device,(.list .fate)] [.device,(.list .fate),.i] (a0,a1)=z28 N a0 a1:=by kernel_rfl
noncomputable def zc0:List (FuncId×Spec):=(19,⟨[.device,(.list .fate)],[.device,(.list .fate),.i],z0t⟩)::zfx
theorem zpf:zk Tryz.prog (zl zc0):=za zt z1c zh zue (by kernel_rfl) ⟨_,Tryz.func19,by rfl⟩ (tm:=zfy) (gh:=zm8) fun x y h=>by obtain ⟨N,h⟩:=zg h;exact ⟨N,400,(zr6 N x.1 x.2).trans h⟩
noncomputable def zjx:Nat->Option Tmpl:=fun cx=>cond (Nat.beq cx 1) (some ⟨[],[],25,[.st .chip],([J,.var .i,.var .i,.fix (.ptr 0 0 0 0),J,J,J,.var .i,.var .i]++jN 16++[.agg .chip]),[],[]⟩) <| none
theorem zxn (N:Nat) (a0:Chip) (a1:Int) (a2:Int):z1a (z11.mk' (z0p zc0) zjx zm8) N 400 39 [.chip,.i,.i] [.i] (a0,a1,a2)=zm4 N a0 a1 a2:=by kernel_rfl
noncomputable def zfz:List (FuncId×Spec):=(39,⟨[.chip,.i,.i],[.i],zf5⟩)::zc0
theorem zuf:zk Tryz.prog (zl zfz):=za zt z1c zh zpf (by kernel_rfl) ⟨_,Tryz.func39,by rfl⟩ (tm:=zjx) (gh:=zm8) fun x y h=>by obtain ⟨N,h⟩:=zg h;exact ⟨N,400,(zxn N x.1 x.2.1 x.2.2).trans h⟩
theorem zpg (N:Nat) (a0:Device):z1a (z11.mk' (z0p zfz) zm7 zm8) N 400 40 [.device] [.i] a0=z5c a0:=by kernel_rfl
noncomputable def za8:List (FuncId×Spec):=(40,⟨[.device],[.i],z9p⟩)::zfz
theorem zmz:zk Tryz.prog (zl za8):=za zt z1c zh zuf (by kernel_rfl) ⟨_,Tryz.func40,by rfl⟩ (tm:=zm7) (gh:=zm8) fun x y h=>⟨0,400,(zpg 0 x).trans h⟩
noncomputable def zg0:Nat->Option Tmpl:=fun cx=>cond (Nat.beq cx 1) (some ⟨[],[],71,[.st .chip,.st .table],([J,J,.var .i,.fix (.ptr 0 0 0 0),.fix (.ptr 1 0 0 0),J,J,.var .i,.var .i,.var .i]++jN 61++[.agg .chip,.agg .table]),[],[]⟩) <| none
theorem zr7 (N:Nat) (a0:Chip) (a1:Table) (a2:Int):z1a (z11.mk' (z0p za8) zg0 zm8) N 400 41 [.chip,.table,.i] [.i] (a0,a1,a2)=zgz N a0 a1 a2:=by kernel_rfl
noncomputable def zc1:List (FuncId×Spec):=(41,⟨[.chip,.table,.i],[.i],zbq⟩)::za8
theorem zph:zk Tryz.prog (zl zc1):=za zt z1c zh zmz (by kernel_rfl) ⟨_,Tryz.func41,by rfl⟩ (tm:=zg0) (gh:=zm8) fun x y h=>by obtain ⟨N,h⟩:=zg h;exact ⟨N,400,(zr7 N x.1 x.2.1 x.2.2).trans h⟩
noncomputable def zhd:Nat->Option Tmpl:=fun cx=>cond (Nat.beq cx 5) (some ⟨[.tmp 3 .block],[(5,.block)],29,[.raw 4 1,.raw 4 1,.raw 4 1,.st .chip,.raw 4 1,.dead,.nst true 0 true],([J,.fix (.ptr 3 0 0 0),.fix (.ptr 4 0 0 0),.fix (.bref 6 0),.var .i]++jN 36++[.agg .chip,J,J,J,J,.var (.list .block)]),[.nest 6 true],[.abs 6]⟩) <| cond (Nat.beq cx 26) (some ⟨[.tmp 3 .block],[(5,.block)],29,[.raw 4 1,.st .fate,.raw 4 1,.st .chip,.raw 4 1,.dead,.nst true 0 true],([J,.fix (.ptr 3 0 0 0),.fix (.ptr 4 0 0 0),.fix (.bref 6 0),.var .i]++jN 28++[.agg .fate,J,J,J,J,.agg .chip,J,J,J,J,.var (.list .block)]),[.nest 6 true],[.abs 6]⟩) <| cond (Nat.beq cx 1722) (some ⟨[],[],112,[.raw 4 1,.st .fate,.raw 4 1,.raw 4 1,.raw 4 1,.dead,.nst true 0 false,.raw 4 1],([J,J,J,.fix (.ptr 0 0 0 0),J,.fix (.ptr 1 0 0 0),.fix (.ptr 2 0 0 0),J,.fix (.ptr 7 0 0 0),.pt 6 0 0,.var .i,.fix (.ptr 0 0 0 2)]++jN 7++[.fix (.ptr 0 0 0 0),J,J,J,J,J,.fix (.ptr 0 0 0 0)]++jN 7++[.fix (.ptr 1 0 0 0),J,J,J,J,.fix (.ptr 1 0 0 0)]++jN 9++[.fix (.ptr 7 0 0 3),J,J,.fix (.ptr 7 0 0 3),.fix (.ptr 7 0 0 0),.fix (.bref 6 0),J,J,.fix (.ptr 1 0 0 0)]++jN 59++[.agg .fate,J,J,J,J,.fix (.bref 6 0),J,J,J,.fix (.bref 6 0),J,J,J,.var (.list .block),.fix (.bref 6 0),.var .bool,.var .bool,.var .i]),[],[.abs 6]⟩) <| none
noncomputable def zhe:Nat->Nat->Option (Nat×Nat):=fun cx id=>cond (Nat.beq cx 6891&&Nat.beq id 13) (some (6,9)) <| none
theorem zug (N:Nat) (a0:Chip) (a1:Int) (a2:Fate):z1a (z11.mk' (z0p zc1) zhd zhe) N 400 44 [.chip,.i,.fate] [.chip,.i] (a0,a1,a2)=z8l N a0 a1 a2:=by kernel_rfl
noncomputable def ze0:List (FuncId×Spec):=(44,⟨[.chip,.i,.fate],[.chip,.i],zd5⟩)::zc1
theorem zr8:zk Tryz.prog (zl ze0):=za zt z1c zh zph (by kernel_rfl) ⟨_,Tryz.func44,by rfl⟩ (tm:=zhd) (gh:=zhe) fun x y h=>by obtain ⟨N,h⟩:=zg h;exact ⟨N,400,(zug N x.1 x.2.1 x.2.2).trans h⟩
end Clk.YtbdmoijmcondcaaGreat
namespace Clk.YtbdmoijmcondcaaGreat
open Go Go.Proofs Go.Proofs.YtbdmoijmcondcaaGreat
noncomputable def zhf:Nat->Option Tmpl:=fun cx=>cond (Nat.beq cx 1) (some ⟨[],[],85,[.st .device,.raw 12 1],([J,.var (.list .fate),.fix (.ptr 0 0 0 0),J,.fix (.ptr 1 0 0 0)]++jN 80++[.agg .device]++jN 12),[],[]⟩) <| none
theorem zuh (N:Nat) (a0:Device) (a1:(List Fate)):z1a (z11.mk' (z0p ze0) zhf zm8) N 400 17 [.device,(.list .fate)] [.device,(.list .fate),.i] (a0,a1)=z8t N a0 a1:=by kernel_rfl
noncomputable def ze1:List (FuncId×Spec):=(17,⟨[.device,(.list .fate)],[.device,(.list .fate),.i],z3h⟩)::ze0
theorem zr9:zk Tryz.prog (zl ze1):=za zt z1c zh zr8 (by kernel_rfl) ⟨_,Tryz.func17,by rfl⟩ (tm:=zhf) (gh:=zm8) fun x y h=>by obtain ⟨N,h⟩:=zg h;exact ⟨N,400,(zuh N x.1 x.2).trans h⟩
theorem zra (N:Nat) (a0:Device) (a1:Int) (a2:Str):z1a (z11.mk' (z0p ze1) zm7 zm8) N 400 66 [.device,.i,.str] [.bool] (a0,a1,a2)=z6x a0 a1 a2:=by kernel_rfl
noncomputable def zc2:List (FuncId×Spec):=(66,⟨[.device,.i,.str],[.bool],zbr⟩)::ze1
theorem zpi:zk Tryz.prog (zl zc2):=za zt z1c zh zr9 (by kernel_rfl) ⟨_,Tryz.func66,by rfl⟩ (tm:=zm7) (gh:=zm8) fun x y h=>⟨0,400,(zra 0 x.1 x.2.1 x.2.2).trans h⟩
noncomputable def zjy:Nat->Option Tmpl:=fun cx=>cond (Nat.beq cx 1) (some ⟨[],[],65,[.st .chip,.st .table],([J,J,.var .str,.fix (.ptr 0 0 0 0),.fix (.ptr 1 0 0 0),J,J,.var .i,.var .i]++jN 56++[.agg .chip,.agg .table]),[],[]⟩) <| none
theorem zxo (N:Nat) (a0:Chip) (a1:Table) (a2:Str):z1a (z11.mk' (z0p zc2) zjy zm8) N 400 38 [.chip,.table,.str] [.i] (a0,a1,a2)=zm5 N a0 a1 a2:=by kernel_rfl
noncomputable def zg1:List (FuncId×Spec):=(38,⟨[.chip,.table,.str],[.i],z7h⟩)::zc2
theorem zui:zk Tryz.prog (zl zg1):=za zt z1c zh zpi (by kernel_rfl) ⟨_,Tryz.func38,by rfl⟩ (tm:=zjy) (gh:=zm8) fun x y h=>by obtain ⟨N,h⟩:=zg h;exact ⟨N,400,(zxo N x.1 x.2.1 x.2.2).trans h⟩
theorem zrb (N:Nat) (a0:Device) (a1:Int) (a2:Str):z1a (z11.mk' (z0p zg1) zm7 zm8) N 400 67 [.device,.i,.str] [.write] (a0,a1,a2)=z6y a0 a1 a2:=by kernel_rfl
noncomputable def zc3:List (FuncId×Spec):=(67,⟨[.device,.i,.str],[.write],z6z⟩)::zg1
theorem zpj:zk Tryz.prog (zl zc3):=za zt z1c zh zui (by kernel_rfl) ⟨_,Tryz.func67,by rfl⟩ (tm:=zm7) (gh:=zm8) fun x y h=>⟨0,400,(zrb 0 x.1 x.2.1 x.2.2).trans h⟩
theorem z00g (N:Nat) (a0:Device) (a1:Int) (a2:Str) (a3:(List Fate)):z1a (z11.mk' (z0p zc3) zm7 zm8) N 400 37 [.device,.i,.str,(.list .fate)] [.device,(.list .fate),.i] (a0,a1,a2,a3)=zdf a0 a1 a2 a3:=by kernel_rfl
noncomputable def zin:List (FuncId×Spec):=(37,⟨[.device,.i,.str,(.list .fate)],[.device,(.list .fate),.i],za3⟩)::zc3
theorem zxp:zk Tryz.prog (zl zin):=za zt z1c zh zpj (by kernel_rfl) ⟨_,Tryz.func37,by rfl⟩ (tm:=zm7) (gh:=zm8) fun x y h=>⟨0,400,(z00g 0 x.1 x.2.1 x.2.2.1 x.2.2.2).trans h⟩
noncomputable def zpk:Nat->Option Tmpl:=fun cx=>cond (Nat.beq cx 1701) (some ⟨[],[],86,[.st .device,.st .command,.raw 12 1,.raw 2 1],([J,J,.var (.list .fate),.fix (.ptr 0 0 0 0),.fix (.ptr 1 0 0 0),J,.fix (.ptr 2 0 0 0),J,.fix (.ptr 3 0 0 0),.var .i,.var (.list .str),.var .i,.fix (.ptr 0 0 0 4),.fix (.ptr 0 0 0 6),J,J,J,J,.fix (.ptr 0 0 0 8),.fix (.ptr 0 0 0 8)]++jN 10++[.fix (.ptr 1 0 0 0)]++jN 15++[.fix (.ptr 1 0 0 3),J,.fix (.ptr 1 0 0 0),J,J,.fix (.ptr 1 0 0 0),J,J,.fix (.ptr 1 0 0 2)]++jN 31++[.agg .device,.agg .command]++jN 14),[],[]⟩) <| cond (Nat.beq cx 1702) (some ⟨[],[],86,[.st .device,.st .command,.raw 12 1,.raw 2 1],([J,J,.var (.list .fate),.fix (.ptr 0 0 0 0),.fix (.ptr 1 0 0 0),J,.fix (.ptr 2 0 0 0),J,.fix (.ptr 3 0 0 0),.var .i,.var (.list .str),.var .i,.fix (.ptr 0 0 0 4),.fix (.ptr 0 0 0 6),J,J,J,J,.fix (.ptr 0 0 0 8),.fix (.ptr 0 0 0 8)]++jN 10++[.fix (.ptr 1 0 0 0)]++jN 15++[.fix (.ptr 1 0 0 3),J,.fix (.ptr 1 0 0 0),J,J,.fix (.ptr 1 0 0 0)]++jN 34++[.agg .device,.agg .command]++jN 14),[],[]⟩) <| cond (Nat.beq cx 1705) (some ⟨[],[],86,[.st .device,.st .command,.raw 12 1,.raw 2 1],([J,J,.var (.list .fate),.fix (.ptr 0 0 0 0),.fix (.ptr 1 0 0 0),J,.fix (.ptr 2 0 0 0),J,.fix (.ptr 3 0 0 0),.var .i,.var (.list .str),.var .i,.fix (.ptr 0 0 0 4),.fix (.ptr 0 0 0 6),J,J,J,J,.fix (.ptr 0 0 0 8),.fix (.ptr 0 0 0 8)]++jN 10++[.fix (.ptr 1 0 0 0)]++jN 15++[.fix (.ptr 1 0 0 3),J,.fix (.ptr 1 0 0 0),J,J,.fix (.ptr 1 0 0 0),J,J,.fix (.ptr 1 0 0 2)]++jN 31++[.agg .device,.agg .command]++jN 14),[],[]⟩) <| cond (Nat.beq cx 1706) (some ⟨[],[],86,[.st .device,.st .command,.raw 12 1,.raw 2 1],([J,J,.var (.list .fate),.fix (.ptr 0 0 0 0),.fix (.ptr 1 0 0 0),J,.fix (.ptr 2 0 0 0),J,.fix (.ptr 3 0 0 0),.var .i,.var (.list .str),.var .i,.fix (.ptr 0 0 0 4),.fix (.ptr 0 0 0 6),J,J,J,J,.fix (.ptr 0 0 0 8),.fix (.ptr 0 0 0 8)]++jN 10++[.fix (.ptr 1 0 0 0)]++jN 15++[.fix (.ptr 1 0 0 3),J,.fix (.ptr 1 0 0 0),J,J,.fix (.ptr 1 0 0 0)]++jN 34++[.agg .device,.agg .command]++jN 14),[],[]⟩) <| none
theorem z046 (N:Nat) (a0:Device) (a1:Command) (a2:(List Fate)):z1a (z11.mk' (z0p zin) zpk zm8) N 400 12 [.device,.command,(.list .fate)] [.device,(.list .fate),.answer] (a0,a1,a2)=zgn N a0 a1 a2:=by kernel_rfl
noncomputable def zlc:List (FuncId×Spec):=(12,⟨[.device,.command,(.list .fate)],[.device,(.list .fate),.answer],zl9⟩)::zin
theorem z00h:zk Tryz.prog (zl zlc):=za zt z1c zh zxp (by kernel_rfl) ⟨_,Tryz.func12,by rfl⟩ (tm:=zpk) (gh:=zm8) fun x y h=>by obtain ⟨N,h⟩:=zg h;exact ⟨N,400,(z046 N x.1 x.2.1 x.2.2).trans h⟩
noncomputable def zjz:Nat->Option Tmpl:=fun cx=>cond (Nat.beq cx 6) (some ⟨[],[],26,[],([.var (.list .i),.var (.list .i),J,J,J,.var .i]++jN 20),[],[]⟩) <| none
theorem zxq (N:Nat) (a0:(List Int)) (a1:(List Int)):z1a (z11.mk' (z0p zlc) zjz zm8) N 400 13 [(.list .i),(.list .i)] [.bool] (a0,a1)=zav N a0 a1:=by kernel_rfl
noncomputable def zg2:List (FuncId×Spec):=(13,⟨[(.list .i),(.list .i)],[.bool],zey⟩)::zlc
theorem zuj:zk Tryz.prog (zl zg2):=za zt z1c zh z00h (by kernel_rfl) ⟨_,Tryz.func13,by rfl⟩ (tm:=zjz) (gh:=zm8) fun x y h=>by obtain ⟨N,h⟩:=zg h;exact ⟨N,400,(zxq N x.1 x.2).trans h⟩
theorem zuk (N:Nat):z1a (z11.mk' (z0p zg2) zm7 zm8) N 400 5 [] [.bool] ()=z8v:=by kernel_rfl
noncomputable def ze2:List (FuncId×Spec):=(5,⟨[],[.bool],zdg⟩)::zg2
theorem zrc:zk Tryz.prog (zl ze2):=za zt z1c zh zuj (by kernel_rfl) ⟨_,Tryz.func5,by rfl⟩ (tm:=zm7) (gh:=zm8) fun x y h=>⟨0,400,(zuk 0 ).trans h⟩
theorem z00i (N:Nat) (a0:Int):z1a (z11.mk' (z0p ze2) zm7 zm8) N 400 15 [.i] [.str] a0=zoy a0:=by kernel_rfl
noncomputable def zio:List (FuncId×Spec):=(15,⟨[.i],[.str],zi4⟩)::ze2
theorem zxr:zk Tryz.prog (zl zio):=za zt z1c zh zrc (by kernel_rfl) ⟨_,Tryz.func15,by rfl⟩ (tm:=zm7) (gh:=zm8) fun x y h=>⟨0,400,(z00i 0 x).trans h⟩
theorem zxs (N:Nat) (a0:Device) (a1:Int) (a2:Str):z1a (z11.mk' (z0p zio) zm7 zm8) N 400 16 [.device,.i,.str] [.write,.bool] (a0,a1,a2)=z1o a0 a1 a2:=by kernel_rfl
noncomputable def zg3:List (FuncId×Spec):=(16,⟨[.device,.i,.str],[.write,.bool],z4r⟩)::zio
theorem zul:zk Tryz.prog (zl zg3):=za zt z1c zh zxr (by kernel_rfl) ⟨_,Tryz.func16,by rfl⟩ (tm:=zm7) (gh:=zm8) fun x y h=>⟨0,400,(zxs 0 x.1 x.2.1 x.2.2).trans h⟩
noncomputable def zk0:Nat->Option Tmpl:=fun cx=>cond (Nat.beq cx 1) (some ⟨[.tmp 3 .fate],[(2,.fate)],42,[.raw 12 1,.st .device,.dead,.blk .fate 0 true],([.var (.list (.int .u8)),J,J,.fix (.bref 3 0),.var .i]++jN 49++[.agg .device,.var (.list .fate)]),[],[]⟩) <| cond (Nat.beq cx 30) (some ⟨[],[],129,[.raw 12 1,.st .device,.dead,.blk .fate 0 false],([J,.var (.list (.list (.int .u8))),J,J,J,J,.fix (.ptr 0 0 0 0),.fix (.ptr 1 0 0 0),J,.fix (.bref 3 0),.var .i]++jN 15++[.fix (.bref 3 0)]++jN 114++[.agg .device,.var (.list .fate)]),[],[]⟩) <| cond (Nat.beq cx 494) (some ⟨[],[],129,[.raw 12 1,.st .device,.dead,.dead],([J,.var (.list (.list (.int .u8))),J,J,J,J,.fix (.ptr 0 0 0 0),.fix (.ptr 1 0 0 0),J,.var (.list .fate),J,.var .i]++jN 129++[.agg .device]),[],[]⟩) <| cond (Nat.beq cx 7917) (some ⟨[],[],129,[.raw 12 1,.st .device,.dead,.dead],([J,.var (.list (.list (.int .u8))),J,J,J,J,.fix (.ptr 0 0 0 0),.fix (.ptr 1 0 0 0),J,.var (.list .fate),J,.var .i,.var .i]++jN 128++[.agg .device]),[],[]⟩) <| none
theorem zxt (N:Nat) (a0:Int) (a1:(List (List Int))) (a2:(List Int)):z1a (z11.mk' (z0p zg3) zk0 zm8) N 400 6 [(.int .u8),(.list (.list (.int .u8))),(.list (.int .u8))] [.device] (a0,a1,a2)=zb8 N a0 a1 a2:=by kernel_rfl
noncomputable def zg4:List (FuncId×Spec):=(6,⟨[(.int .u8),(.list (.list (.int .u8))),(.list (.int .u8))],[.device],zf6⟩)::zg3
theorem zum:zk Tryz.prog (zl zg4):=za zt z1c zh zul (by kernel_rfl) ⟨_,Tryz.func6,by rfl⟩ (tm:=zk0) (gh:=zm8) fun x y h=>by obtain ⟨N,h⟩:=zg h;exact ⟨N,400,(zxt N x.1 x.2.1 x.2.2).trans h⟩
theorem zk1 (N:Nat) (a0:Int) (a1:(List (List Int))) (a2:(List Int)):z1a (z11.mk' (z0p zg4) zm7 zm8) N 400 4 [(.int .u8),(.list (.list (.int .u8))),(.list (.int .u8))] [.bool] (a0,a1,a2)=z2i a0 a1 a2:=by kernel_rfl
noncomputable def zk2:List (FuncId×Spec):=(4,⟨[(.int .u8),(.list (.list (.int .u8))),(.list (.int .u8))],[.bool],z5w⟩)::zg4
theorem ziq:zk Tryz.prog (zl zk2):=za zt z1c zh zum (by kernel_rfl) ⟨_,Tryz.func4,by rfl⟩ (tm:=zm7) (gh:=zm8) fun x y h=>⟨0,400,(zk1 0 x.1 x.2.1 x.2.2).trans h⟩
end Clk.YtbdmoijmcondcaaGreat
namespace Clk
open Go
theorem z6 {X R:Type} (F:(X->Option R)->X->Option R) (N:Nat) (x:X):ze F (N+1) x=F (ze F N) x:=rfl
theorem zw {α:Type} {xs l:List α} {k:Nat} {a:α} (h:xs.drop k=a::l):k<xs.length /\ (∀ d,xs.getD k d=a) /\ xs.drop (k+1)=l:=by
 have hk:k<xs.length:=by
  apply Nat.lt_of_not_le
  intro hn;rw [List.drop_eq_nil_of_le hn] at h;cases h
 rw [List.drop_eq_getElem_cons hk] at h;injection h with h1 h2
 exact ⟨hk,fun d=>by rw [zI,zH hk,h1];rfl,h2⟩
theorem z05 {α:Type} {xs:List α} {k:Nat} (h:xs.drop k=[]):xs.length<=k:=List.drop_eq_nil_iff.1 h
theorem zf {n:Int} (h1 : -9223372036854775808<=n) (h2:n<9223372036854775808):w64 n=n:=Go.IntWalk.i64_in n ⟨h1,by omega⟩
theorem z00j {n:Int} (h1:0<=n) (h2:n<256):IntKind.u8.wrap n=n:=Go.IntWalk.u8_in n ⟨h1,by omega⟩
theorem z7 {α β:Type} (a:α) (f:α->Option β):(some a).bind f=f a:=rfl
theorem zun {k:IntKind} {n m:Nat} (hn:n<2 ^ k.bits) (hm:m<2 ^ k.bits):bXor k n m=((n ^^^ m:Nat):Int):=by
 unfold bXor;simp only [BitVec.ofInt_natCast,BitVec.toNat_xor,BitVec.toNat_ofNat,Nat.mod_eq_of_lt hn,Nat.mod_eq_of_lt hm]
def stepN (c:Nat):Nat:=if c % 2=1 then (c / 2) ^^^ 3988292384 else c / 2
def stepsN:Nat->Nat->Nat
 | 0,c=>c
 | k+1,c=>stepsN k (stepN c)
def crcL:Str->Nat->Nat
 | [],c=>c
 | b::l,c=>crcL l (stepsN 8 (c ^^^ b.toNat))
def crcT (s:Str):Nat:=crcL s 4294967295 ^^^ 4294967295
theorem zs1 {a b:Nat} (ha:a<4294967296) (hb:b<4294967296):a ^^^ b<4294967296:=Nat.xor_lt_two_pow (n:=32) ha hb
theorem z020 {c:Nat} (h:c<4294967296):stepN c<4294967296:=by
 unfold stepN;split
 · exact zs1 (by omega) (by omega)
 · omega
theorem zpl:∀ (k:Nat) {c:Nat},c<4294967296->stepsN k c<4294967296
 | 0,c,h=>h
 | k+1,c,h=>zpl k (z020 h)
theorem z0c2 (b:UInt8):b.toNat<256:=b.toNat_lt
theorem z06t:∀ (s:Str) {c:Nat},c<4294967296->crcL s c<4294967296
 | [],c,h=>h
 | b::l,c,h=>z06t l (zpl 8 (zs1 h (by have:=z0c2 b;omega)))
theorem z0c3 (s:Str):crcT s<4294967296:=zs1 (z06t s (by omega)) (by omega)
theorem zxu {c:Nat} (h:c<4294967296):zan c=some ((stepN c:Nat):Int):=by
 unfold zan zeu stepN;have h1:Int.tmod (c:Int) 2=((c % 2:Nat):Int):=by rw [Int.tmod_eq_emod_of_nonneg (by omega)];rfl
 have h2:Int.tdiv (c:Int) 2=((c / 2:Nat):Int):=by rw [Int.tdiv_eq_ediv_of_nonneg (by omega)];rfl
 rw [h1,h2,zf (n:=((c / 2:Nat):Int)) (by omega) (by omega),show (3988292384:Int)=((3988292384:Nat):Int) from rfl,zun (k:=.i64) (Nat.lt_trans (show c / 2<4294967296 by omega) (by decide)) (by decide)];have h3:=zs1 (show c / 2<4294967296 by omega) (show 3988292384<4294967296 by omega);rw [zf (n:=((c / 2 ^^^ 3988292384:Nat):Int)) (by omega) (by omega)];by_cases h4:c % 2=1
 · rw [if_pos h4,zT (by omega)];rfl
 · rw [if_neg h4,zF (by omega)];rfl
theorem z021 {ih0:Str×Int×Int->Option Int} {s:Str} {i:Int} (hi:w64 (i+1)=i+1):∀ (k N c:Nat) (j:Int),j=8 - k->k<=8->c<4294967296->k<N->ze (z6h ih0) N (s,c,i,j)=ih0 (s,((stepsN k c:Nat):Int),i+1)
 | 0,N+1,c,j,h1,_,h2,_=>by
   rw [z6];unfold z6h zbf;simp only [hi];rw [zF (by omega)];rfl
 | k+1,N+1,c,j,h1,h3,h2,h4=>by
   rw [z6];unfold z6h zbf;simp only;rw [zT (show j<8 by omega),zC,zxu h2,z7,zf (n:=j+1) (by omega) (by omega)];exact z021 hi k N _ _ (by omega) (by omega) (z020 h2) (by omega)
 | _,0,_,_,_,_,_,h=>by omega
theorem z022 {s:Str} (hs:s.length<4294967296):∀ (l:Str) (N M k c:Nat) (i:Int),s.drop k=l->i=k->c<4294967296->8<M->l.length<N->ze (z6i M) N (s,c,i)=some (((crcL l c ^^^ 4294967295:Nat)):Int)
 | [],N+1,M,k,c,i,h1,h2,h3,h4,_=>by
   rw [z6];unfold z6i zbg;have:=z05 h1;simp only;rw [zF (by omega),zD,show (4294967295:Int)=((4294967295:Nat):Int) from rfl,zun (k:=.i64) (Nat.lt_trans h3 (by decide)) (by decide),zf]
   · rfl
   · omega
   · have:=zs1 h3 (show 4294967295<4294967296 by omega);omega
 | b::l,N+1,M,k,c,i,h1,h2,h3,h4,h5=>by
   rw [z6];unfold z6i zbg;obtain ⟨g1,g2,g3⟩:=zw h1;have hb:=z0c2 b;have hx:=zs1 h3 (show b.toNat<4294967296 by omega);subst h2;simp only [Int.toNat_natCast,g2];rw [zT (show (k:Int)<s.length by omega),zT (show (0:Int)<=k by omega)];simp only [zC];rw [zf (n:=(b.toNat:Int)) (by omega) (by omega),zun (k:=.i64) (Nat.lt_trans h3 (by decide)) (Nat.lt_trans (show b.toNat<4294967296 by omega) (by decide)),zf (n:=((c ^^^ b.toNat:Nat):Int)) (by omega) (by omega)];rw [z021 (zf (by omega) (by omega)) 8 M _ 0 (by omega) (by omega) hx h4];exact z022 hs l N M (k+1) _ _ g3 (by omega) (zpl 8 hx) h4 (by simp at h5;omega)
 | _,0,_,_,_,_,_,_,_,_,h=>by omega
theorem z00k {s:Str} (hs:s.length<4294967296):zhw s=some ((crcT s:Nat):Int):=by
 refine zy (s.length+9) fun N hN=>?_
 exact z022 hs s N N 0 4294967295 0 rfl rfl (by omega) (by omega) (by omega)
end Clk
namespace Clk
open Go
def bytes4 (n:Nat):Str:=[UInt8.ofNat (n % 256),UInt8.ofNat (n / 256 % 256),UInt8.ofNat (n / 65536 % 256),UInt8.ofNat (n / 16777216)]
theorem zn8 (n m:Nat):Int.tdiv (n:Int) (m:Int)=((n / m:Nat):Int):=by rw [Int.tdiv_eq_ediv_of_nonneg (by omega)];rfl
theorem zgo (n m:Nat):Int.tmod (n:Int) (m:Int)=((n % m:Nat):Int):=by rw [Int.tmod_eq_emod_of_nonneg (by omega)];rfl
theorem zuo {n:Nat} (h:n<4294967296):z8c n=some (bytes4 n):=by
 unfold z8c zd0;rw [zF (show ¬ (n:Int)<0 by omega),zF (show ¬ 4294967295<(n:Int) by omega)];simp only [zD];have e1:Int.tmod (n:Int) 256=((n % 256:Nat):Int):=zgo n 256;have e2:Int.tdiv (n:Int) 256=((n / 256:Nat):Int):=zn8 n 256;have e3:Int.tdiv (n:Int) 65536=((n / 65536:Nat):Int):=zn8 n 65536;have e4:Int.tdiv (n:Int) 16777216=((n / 16777216:Nat):Int):=zn8 n 16777216;have e5:Int.tmod ((n / 256:Nat):Int) 256=((n / 256 % 256:Nat):Int):=zgo (n / 256) 256;have e6:Int.tmod ((n / 65536:Nat):Int) 256=((n / 65536 % 256:Nat):Int):=zgo (n / 65536) 256;rw [e1,e2,e3,e4,zf (n:=((n / 256:Nat):Int)) (by omega) (by omega),zf (n:=((n / 65536:Nat):Int)) (by omega) (by omega),zf (n:=((n / 16777216:Nat):Int)) (by omega) (by omega),e5,e6];rw [z00j (n:=((n % 256:Nat):Int)) (by omega) (by omega),z00j (n:=((n / 256 % 256:Nat):Int)) (by omega) (by omega),z00j (n:=((n / 65536 % 256:Nat):Int)) (by omega) (by omega),z00j (n:=((n / 16777216:Nat):Int)) (by omega) (by omega)];rfl
def putN:Nat->Nat->Str
 | 0,n=>[UInt8.ofNat n]
 | f+1,n=>if 127<n then UInt8.ofNat (128+n % 128)::putN f (n / 128) else [UInt8.ofNat n]
def putV (n:Int):Str:=if n<0 \/ 1099511627776<n then [] else putN 5 n.toNat
theorem z023:∀ (f n:Nat),(putN f n).length<=f+1
 | 0,n=>Nat.le_refl _
 | f+1,n=>by
   unfold putN;split
   · have:=z023 f (n / 128);simp;omega
   · simp
theorem zn9 (n:Int):(putV n).length<=6:=by
 unfold putV;split
 · simp
 · exact z023 5 _
theorem zmj:∀ (f N n:Nat) (s:Str),n<128 ^ (f+1)->n<4611686018427387904->s.length+f<1099511627776->f<N->ze zbe N (n,s)=some (s++putN f n)
 | f,0,n,s,_,_,_,h=>by omega
 | 0,N+1,n,s,h1,h5,h2,_=>by
   rw [z6];rw [zci];unfold z6g;simp only [putN];rw [zF (by omega),zD,z00j (n:=(n:Int)) (by omega) (by omega),zT (by simp [bytesOf];omega),zC];rfl
 | f+1,N+1,n,s,h1,h5,h2,h3=>by
   rw [z6];rw [zci];unfold z6g;simp only [putN];have e1:Int.tmod (n:Int) 128=((n % 128:Nat):Int):=zgo n 128;have e2:Int.tdiv (n:Int) 128=((n / 128:Nat):Int):=zn8 n 128;by_cases h4:127<n
   · rw [zT (show (127:Int)<n by omega),zC,if_pos h4,e1,e2,zf (n:=128+((n % 128:Nat):Int)) (by omega) (by omega),z00j (n:=128+((n % 128:Nat):Int)) (by omega) (by omega),zT (by simp [bytesOf];omega),zC,zf (n:=((n / 128:Nat):Int)) (by omega) (by omega)];have e3:bytesOf [128+((n % 128:Nat):Int)]=[UInt8.ofNat (128+n % 128)]:=by simp only [bytesOf,List.map_cons,List.map_nil];congr 2
     rw [e3,zmj f N (n / 128) _ (by rw [Nat.pow_succ] at h1;omega) (by omega) (by simp;omega) (by omega)];simp
   · rw [zF (show ¬ (127:Int)<n by omega),zD,if_neg h4,z00j (n:=(n:Int)) (by omega) (by omega),zT (by simp [bytesOf];omega),zC];rfl
theorem zpm (n:Int):zcz n=some (putV n):=by
 refine zy 6 fun N hN=>?_
 unfold zhv putV;by_cases h1:n<0
 · rw [zT h1,zC,if_pos (.inl h1)]
 · by_cases h2:1099511627776<n
   · rw [zF h1,zD,zT h2,zC,if_pos (.inr h2)]
   · rw [zF h1,zD,zF h2,zD,if_neg (by omega)];obtain ⟨k,rfl⟩:∃ k:Nat,n=k:=⟨n.toNat,by omega⟩;have:=zmj 5 N k [] (by simp;omega) (by omega) (by simp) (by omega);simpa using this
def packL:List Int->Str->Str×Int
 | [],s=>(s,0)
 | n::l,s=>if putV n=[] then ([],1) else packL l (s++putV n)
def packT (l:List Int):Str×Int:=packL l (putV l.length)
theorem zk3 {xs:List Int} (hs:xs.length<4294967296):∀ (l:List Int) (N k:Nat) (i:Int) (s:Str),xs.drop k=l->i=k->s.length+6*l.length<1099511627776->l.length<N->ze z9c N (xs,s,i)=some (packL l s)
 | l,0,_,_,_,_,_,_,h=>by omega
 | [],N+1,k,i,s,h1,h2,h3,_=>by
   have:=z05 h1;rw [z6];rw [zal];unfold z51;simp only [packL];rw [zF (by omega)];rfl
 | n::l,N+1,k,i,s,h1,h2,h3,h4=>by
   obtain ⟨g1,g2,g3⟩:=zw h1;subst h2;rw [z6];rw [zal];unfold z51;simp only [Int.toNat_natCast,g2,packL,zpm,z7];have hp:=zn9 n;simp only [List.length_cons] at h3 h4;rw [zT (show (k:Int)<xs.length by omega),zT (show (0:Int)<=k by omega)];simp only [zC];by_cases h5:putV n=[]
   · rw [zT h5,if_pos h5];rfl
   · rw [zF h5,if_neg h5,zD,zT (by omega),zC];exact zk3 hs l N (k+1) _ _ g3 (by rw [zf (by omega) (by omega)];omega) (by simp;omega) (by omega)
theorem zg5 {l:List Int} (hs:l.length<4294967296):z75 l=some (packT l):=by
 refine zy (l.length+1) fun N hN=>?_
 unfold zes;rw [zpm,z7];have:=zn9 l.length;exact zk3 hs l N 0 0 _ rfl rfl (by omega) (by omega)
def takeN:Nat->Bool->Nat->Nat->Str->Int×Str×Bool
 | 0,_,_,_,_=>(0,[],false)
 | _+1,_,_,_,[]=>(0,[],false)
 | f+1,first,n,u,c::l=>if c.toNat<128 then (if 1099511627776<n+c.toNat*u \/ (first=false /\ c.toNat=0) then (0,[],false) else (((n+c.toNat*u:Nat):Int),l,true)) else takeN f false (n+c.toNat % 128*u) (u*128) l
def takeT (s:Str):Int×Str×Bool:=takeN 6 true 0 1 s
theorem zk4 {s:Str} (hs:s.length<4294967296):∀ (f N:Nat) (l:Str) (n u k:Nat) (i:Int),s.drop k=l->i=k->k+f=6->n<u->u=128 ^ k->f<N->ze z9e N (s,n,u,i)=some (takeN f (k==0) n u l)
 | f,0,_,_,_,_,_,_,_,_,_,_,h=>by omega
 | 0,N+1,l,n,u,k,i,h1,h2,h3,h4,h5,h6=>by
   rw [z6];rw [z54];unfold z2p;simp only [takeN];rw [zF (show ¬ i<6 by omega),zD];cases decide (i<(s.length:Int)) <;> rfl
 | f+1,N+1,[],n,u,k,i,h1,h2,h3,h4,h5,h6=>by
   have:=z05 h1;rw [z6];rw [z54];unfold z2p;simp only [takeN];rw [zF (show ¬ i<(s.length:Int) by omega),zD]
 | f+1,N+1,c::l,n,u,k,i,h1,h2,h3,h4,h5,h6=>by
   obtain ⟨g1,g2,g3⟩:=zw h1;subst h2;have hc:=z0c2 c;have hu:u<=34359738368:=by
    rw [h5];exact Nat.le_trans (Nat.pow_le_pow_right (by omega) (show k<=5 by omega)) (by decide)
   have hm:c.toNat*u<=256*34359738368:=Nat.mul_le_mul (by omega) hu;have hm2:c.toNat % 128*u<=127*u:=Nat.mul_le_mul (by omega) (Nat.le_refl _);rw [z6];rw [z54];unfold z2p;have e1:Int.tmod (c.toNat:Int) 128=((c.toNat % 128:Nat):Int):=zgo c.toNat 128;simp only [Int.toNat_natCast,g2,takeN];rw [zf (n:=(c.toNat:Int)) (by omega) (by omega),e1];have e2:((c.toNat % 128:Nat):Int)*(u:Int)=((c.toNat % 128*u:Nat):Int):=by push_cast;rfl
   rw [e2,zf (n:=((c.toNat % 128*u:Nat):Int)) (by omega) (by omega),zf (n:=(n:Int)+((c.toNat % 128*u:Nat):Int)) (by omega) (by omega),zf (n:=(k:Int)+1) (by omega) (by omega)];rw [zT (show (k:Int)<s.length by omega),zT (show (k:Int)<6 by omega),zT (show (0:Int)<=k by omega)];simp only [zC];by_cases h7:c.toNat<128
   · have e3:c.toNat % 128=c.toNat:=Nat.mod_eq_of_lt h7;rw [e3,zT (show (c.toNat:Int)<128 by omega),zC,if_pos h7];by_cases h8:1099511627776<n+c.toNat*u
     · rw [zT (by omega),zC,if_pos (.inl h8)]
     · rw [zF (show ¬ 1099511627776<(n:Int)+((c.toNat*u:Nat):Int) by omega),zD];have e4:Int.toNat ((k:Int)+1)=k+1:=by omega
       rw [zT (show (0:Int)<=(k:Int)+1 by omega),zT (show (k:Int)+1<=s.length by omega),e4,g3];simp only [zC];by_cases h9:k=0
       · subst h9;rw [zF (by omega),zD,if_neg (by simp;omega)];push_cast;rfl
       · rw [zT (show (0:Int)<k by omega),zC];by_cases h10:c.toNat=0
         · rw [zT (show (c.toNat:Int)=0 by omega),zC,if_pos (.inr ⟨by simpa using h9,h10⟩)]
         · rw [zF (show ¬ (c.toNat:Int)=0 by omega),zD,if_neg (by rintro (h | ⟨_,h⟩);exact h8 h;exact h10 h)];push_cast;rfl
   · rw [zF (show ¬ (c.toNat:Int)<128 by omega),zD,if_neg h7];have e5:(u:Int)*128=((u*128:Nat):Int):=by push_cast;rfl
     have e6:(n:Int)+((c.toNat % 128*u:Nat):Int)=((n+c.toNat % 128*u:Nat):Int):=by push_cast;rfl
     rw [e5,zf (n:=((u*128:Nat):Int)) (by omega) (by omega),e6];have:=zk4 hs f N l (n+c.toNat % 128*u) (u*128) (k+1) ((k:Int)+1) g3 (by omega) (by omega) (by omega) (by rw [h5,Nat.pow_succ]) (by omega);rw [this];rfl
theorem zmk {s:Str} (hs:s.length<4294967296):zao s=some (takeT s):=by
 refine zy 7 fun N hN=>?_
 exact zk4 hs 6 N s 0 1 0 0 rfl rfl (by omega) (by omega) rfl (by omega)
theorem zpn:∀ (f:Nat) (b:Bool) (n u:Nat) (s:Str),(takeN f b n u s).2.1.length<=s.length /\ 0<=(takeN f b n u s).1
 | 0,b,n,u,s=>by simp [takeN]
 | f+1,b,n,u,[]=>by simp [takeN]
 | f+1,b,n,u,c::l=>by
   unfold takeN;split
   · split
     · simp
     · simp;omega
   · have:=zpn f false (n+c.toNat % 128*u) (u*128) l;simp;omega
theorem zk5 (s:Str):(takeT s).2.1.length<=s.length:=(zpn 6 true 0 1 s).1
theorem z091 (s:Str):0<=(takeT s).1:=(zpn 6 true 0 1 s).2
def unpackL:Nat->Str->List Int->List Int×Str×Int
 | 0,s,acc=>(acc,s,0)
 | k+1,s,acc=>if (takeT s).2.2=false then ([],[],20) else unpackL k (takeT s).2.1 (acc++[(takeT s).1])
def zx (s:Str):List Int×Str×Int:=if (takeT s).2.2=false \/ ((takeT s).2.1.length:Int)<(takeT s).1 then ([],[],20) else unpackL (takeT s).1.toNat (takeT s).2.1 []
theorem zg6 {n:Int} (hn:n<4294967296):∀ (m N k:Nat) (i:Int) (s:Str) (acc:List Int),(k:Int)+m=n->i=k->s.length<4294967296->acc.length=k->m<N->ze z67 N (n,s,i,acc)=some (unpackL m s acc)
 | m,0,_,_,_,_,_,_,_,_,h=>by omega
 | 0,N+1,k,i,s,acc,h1,h2,h3,h4,h5=>by
   rw [z6];rw [z83];unfold z36;simp only [unpackL];rw [zF (by omega)];rfl
 | m+1,N+1,k,i,s,acc,h1,h2,h3,h4,h5=>by
   rw [z6];rw [z83];unfold z36;simp only [unpackL,zmk h3,z7];rw [zT (show i<n by omega),zC];have hl:=zk5 s;cases hb:(takeT s).2.2 with
   | false=>rfl
   | true =>
     rw [if_neg (by simp),Bool.not_true,zD];rw [zT (by simp;omega),zC,zT (by simp;omega),zC];exact zg6 hn m N (k+1) _ _ _ (by omega) (by rw [zf (by omega) (by omega)];omega) (by omega) (by simp;omega) (by omega)
theorem zc4 {s:Str} (hs:s.length<4294967296):z3v s=some (zx s):=by
 refine zy (s.length+1) fun N hN=>?_
 unfold zbh zx;simp only [zmk hs,z7];have hl:=zk5 s;have hn:=z091 s;cases hb:(takeT s).2.2 with
 | false=>rfl
 | true =>
   rw [Bool.not_true,zD];by_cases h1:((takeT s).2.1.length:Int)<(takeT s).1
   · rw [zT h1,zC,if_pos (.inr h1)]
   · rw [zF h1,zD,if_neg (by simp;omega)];exact zg6 (by omega) _ N 0 0 _ _ (by omega) rfl (by omega) rfl (by omega)
theorem zk6 {a b:List Int} (hs:a.length<4294967296) (hab:a.length=b.length):∀ (l m:List Int) (N k:Nat) (i:Int),a.drop k=l->b.drop k=m->i=k->l.length<N->ze z9m N (a,b,i)=some (decide (l=m))
 | l,m,0,_,_,_,_,_,h=>by omega
 | [],m,N+1,k,i,h1,h2,h3,h4=>by
   have h5:=z05 h1;have h6:m=[]:=by rw [<- h2];exact List.drop_eq_nil_of_le (by omega)
   rw [z6];rw [zau];unfold z5a;simp only;rw [zF (by omega),zD,h6];rfl
 | x::l,m,N+1,k,i,h1,h2,h3,h4=>by
   obtain ⟨g1,g2,g3⟩:=zw h1;subst h3;cases m with
   | nil=>have:=z05 h2;omega
   | cons y m =>
     obtain ⟨e1,e2,e3⟩:=zw h2;rw [z6];rw [zau];unfold z5a;simp only [Int.toNat_natCast,g2,e2];rw [zT (show (k:Int)<a.length by omega),zT (show (0:Int)<=k by omega),zT (show (k:Int)<b.length by omega)];simp only [zC];by_cases hxy:x=y
     · rw [zT hxy,Bool.not_true,zD];have:=zk6 hs hab l m N (k+1) (w64 (k+1)) g3 e3 (by rw [zf (by omega) (by omega)];omega) (by simp at h4;omega);rw [this];simp [hxy]
     · rw [zF hxy,Bool.not_false,zC];simp [hxy]
theorem zxv {a b:List Int} (hs:a.length<4294967296):zey (a,b)=some (decide (a=b)):=by
 refine zy (a.length+1) fun N hN=>?_
 show zav N a b=_;unfold zav;by_cases h:a.length=b.length
 · rw [zT (by omega),Bool.not_true,zD];exact zk6 hs h a b N 0 0 rfl rfl rfl (by omega)
 · rw [zF (by omega),Bool.not_false,zC,zF (fun e=>h (by rw [e]))]
end Clk
namespace Clk
open Go
def inr (n:Int):Bool:=decide (0<=n)&&decide (n<64)
def chkL:Option Int->List Int->Bool
 | _,[]=>true
 | p,a::l=>inr a&&(match p with | none=>true | some q=>decide (q<a))&&chkL (some a) l
def keysT (l:List Int):Bool:=chkL none l&&decide (0<l.length)&&decide (l.length<=8)
theorem zk7 {xs:List Int} (hs:xs.length<4294967296):∀ (l:List Int) (N k:Nat) (i:Int) (p:Option Int),xs.drop k=l->i=k->(k=0->p=none)->(∀ j,k=j+1->p=some (xs.getD j 0))->l.length<N->ze z9a N (xs,i)=some (chkL p l&&decide (0<xs.length)&&decide (xs.length<=8))
 | l,0,_,_,_,_,_,_,_,h=>by omega
 | [],N+1,k,i,p,h1,h2,_,_,_=>by
   have:=z05 h1;rw [z6,zak];unfold z4z;simp only [chkL,Bool.true_and];rw [zF (by omega),zD];by_cases h:0<xs.length
   · rw [zT (show (0:Int)<(xs.length:Int) by omega),zC,zT h,Bool.true_and];congr 1;rw [Bool.eq_iff_iff];simp;omega
   · rw [zF (show ¬ (0:Int)<(xs.length:Int) by omega),zD,zF h];rfl
 | a::l,N+1,k,i,p,h1,h2,h3,h4,h5=>by
   obtain ⟨g1,g2,g3⟩:=zw h1;subst h2;have ih:=zk7 hs l N (k+1) (w64 (k+1)) (some a) g3 (by rw [zf (by omega) (by omega)];omega) (by omega) (fun j hj=>by rw [show j=k by omega,g2]) (by simp at h5;omega);rw [z6,zak];unfold z4z;simp only [Int.toNat_natCast,g2,chkL,inr,ih];rw [zT (show (k:Int)<xs.length by omega),zT (show (0:Int)<=k by omega)];simp only [zC];by_cases c1:a<0
   · rw [zT c1,zF (show ¬ 0<=a by omega)];simp
   · rw [zF c1,zT (show 0<=a by omega),zD];by_cases c2:64<=a
     · rw [zT c2,zF (show ¬ a<64 by omega)];simp
     · rw [zF c2,zT (show a<64 by omega),zD];cases k with
       | zero=>rw [h3 rfl,zF (by omega),zD];simp
       | succ j =>
         have e1:w64 (((j+1:Nat):Int) - 1)=(j:Int):=by rw [zf (by omega) (by omega)];omega
         rw [h4 j rfl,zT (show (0:Int)<((j+1:Nat):Int) by omega),e1,zT (show (0:Int)<=j by omega),zT (show (j:Int)<xs.length by omega)];simp only [zC,Int.toNat_natCast];by_cases c3:xs.getD j 0<a
         · rw [zF (show ¬ a<=xs.getD j 0 by omega),zT c3,zD];simp
         · rw [zT (show a<=xs.getD j 0 by omega),zF c3,zC];simp
theorem zxw {l:List Int} (hs:l.length<4294967296):zer l=some (keysT l):=by
 refine zy (l.length+1) fun N hN=>?_
 exact zk7 hs l N 0 0 none rfl rfl (fun _=>rfl) (by omega) (by omega)
end Clk
namespace Clk
open Go
def vr (n:Int):Bool:=decide (-1<=n)&&decide (n<512)
def rightT (r:Record):Bool :=
 decide (0<=r.seq)&&decide (r.seq<=1099511627776)&&keysT r.keys&&(if r.kind=1 then decide (r.values=[]) else r.values.all vr&&decide (r.kind=2)&&decide (r.values.length=r.keys.length))
def RecOk (r:Record):Prop:=r.keys.length<4294967296 /\ r.values.length<4294967296
theorem zhg {r:Record} (hr:RecOk r):∀ (l:List Int) (N k:Nat) (i:Int),r.values.drop k=l->i=k->l.length<N->ze z7o N (i,r)=some (l.all vr&&decide (r.kind=2)&&decide (r.values.length=r.keys.length))
 | l,0,_,_,_,_,h=>by omega
 | [],N+1,k,i,h1,h2,_=>by
   have:=z05 h1;rw [z6,z9b];unfold z41;simp only [List.all_nil,Bool.true_and];rw [zF (by omega),zD];by_cases c:r.kind=2
   · rw [zT c,zC,Bool.true_and];congr 1;rw [Bool.eq_iff_iff];simp only [decide_eq_true_eq];omega
   · rw [zF c,zD];rfl
 | a::l,N+1,k,i,h1,h2,h3=>by
   obtain ⟨g1,g2,g3⟩:=zw h1;have hv:=hr.2;subst h2;have ih:=zhg hr l N (k+1) (w64 (k+1)) g3 (by rw [zf (by omega) (by omega)];omega) (by simp at h3;omega);rw [z6,z9b];unfold z41;simp only [Int.toNat_natCast,g2,ih,List.all_cons,vr];rw [zT (show (k:Int)<r.values.length by omega),zT (show (0:Int)<=k by omega)];simp only [zC];by_cases c1:a < -1
   · rw [zT c1,zF (show ¬ -1<=a by omega)];simp
   · rw [zF c1,zT (show -1<=a by omega),zD];by_cases c2:512<=a
     · rw [zT c2,zF (show ¬ a<512 by omega)];simp
     · rw [zF c2,zT (show a<512 by omega),zD];simp
theorem zup {r:Record} (hr:RecOk r):zcy r=some (rightT r):=by
 refine zy (r.values.length+1) fun N hN=>?_
 unfold zcx rightT;by_cases h1:r.seq<0
 · rw [zT h1,zC,zF (show ¬ 0<=r.seq by omega)];rfl
 · by_cases h2:1099511627776<r.seq
   · rw [zF h1,zD,zT h2,zC,zF (show ¬ r.seq<=1099511627776 by omega)];simp
   · rw [zF h1,zD,zF h2,zD,zT (show 0<=r.seq by omega),zT (show r.seq<=1099511627776 by omega),zxw hr.1,z7];cases keysT r.keys with
     | false=>rfl
     | true =>
       simp only [Bool.not_true,zD,Bool.true_and];by_cases h3:r.kind=1
       · rw [zT h3,zC,if_pos h3];congr 1;rw [Bool.eq_iff_iff];simp
       · rw [zF h3,zD,if_neg h3];exact zhg hr r.values N 0 0 rfl rfl (by omega)
def movT (d:Int) (l:List Int):List Int:=l.map fun n=>w64 (n+d)
def bodyT (r:Record):Str:=(packT [r.kind,r.seq]).1++(packT r.keys).1++(packT (movT 1 r.values)).1
def encT (r:Record) (data:Str):Str×Int:=if rightT r=false \/ 16<data.length then ([],1) else (bodyT r++bytes4 (crcT (bodyT r++data)),0)
theorem zxx:∀ (l:List Int) (s:Str),(packL l s).1.length<=s.length+6*l.length
 | [],s=>by simp [packL]
 | n::l,s=>by
   unfold packL;split
   · simp
   · have h1:=zxx l (s++putV n);have h2:=zn9 n;simp at h1 ⊢;omega
theorem zcn (l:List Int):(packT l).1.length<=6*l.length+6:=by
 have h1:=zxx l (putV l.length);have h2:=zn9 l.length;unfold packT;omega
theorem z06u {l:List Int} (h:keysT l=true):0<l.length /\ l.length<=8:=by
 unfold keysT at h;simp only [Bool.and_eq_true,decide_eq_true_eq] at h;exact ⟨h.1.2,h.2⟩
theorem zs2 {r:Record} (h:rightT r=true):0<r.keys.length /\ r.keys.length<=8 /\ r.values.length<=8 /\ 0<=r.seq /\ r.seq<=1099511627776 /\ (r.kind=1 \/ r.kind=2) /\ (r.values.all vr=true) /\ keysT r.keys=true:=by
 unfold rightT at h;simp only [Bool.and_eq_true,decide_eq_true_eq] at h;obtain ⟨⟨⟨h1,h2⟩,h3⟩,h4⟩:=h;obtain ⟨k1,k2⟩:=z06u h3;split at h4
 · rename_i hk;have:r.values=[]:=by simpa using h4
   rw [this];exact ⟨k1,k2,by simp,h1,h2,.inl hk,rfl,h3⟩
 · simp only [Bool.and_eq_true,decide_eq_true_eq] at h4;exact ⟨k1,k2,by omega,h1,h2,.inr h4.1.2,h4.1.1,h3⟩
theorem zk8 {r:Record} (h8:r.values.length<=8) (hk:r.keys.length<=8):∀ (l:List Int) (N k:Nat) (i:Int) (acc:List Int),r.values.drop k=l->i=k->acc.length=k->k<=8->l.length<N->ze z9d N (i,r,[r.kind,r.seq],acc)=some ((packT [r.kind,r.seq]).1++(packT r.keys).1++(packT (acc++movT 1 l)).1)
 | l,0,_,_,_,_,_,_,_,h=>by omega
 | [],N+1,k,i,acc,h1,h2,h3,h6,_=>by
   have:=z05 h1;rw [z6,zam];unfold z52;simp only [movT,List.map_nil,List.append_nil];rw [zF (by omega),zD,zg5 (by simp),z7,zg5 (by omega),z7,zg5 (by omega),z7];have q1:=zcn [r.kind,r.seq];have q2:=zcn r.keys;have q3:=zcn acc;simp only [List.length_cons,List.length_nil] at q1;rw [zT (by omega),zC,zT (by rw [List.length_append];omega),zC]
 | a::l,N+1,k,i,acc,h1,h2,h3,h6,h5=>by
   obtain ⟨g1,g2,g3⟩:=zw h1;subst h2;have ih:=zk8 h8 hk l N (k+1) (w64 (k+1)) (acc++[w64 (a+1)]) g3 (by rw [zf (by omega) (by omega)];omega) (by simp;omega) (by omega) (by simp at h5;omega);rw [z6,zam];unfold z52;simp only [Int.toNat_natCast,g2,ih];rw [zT (show (k:Int)<r.values.length by omega),zT (show (0:Int)<=k by omega)];simp only [zC];rw [zT (by simp;omega),zC,zT (by simp;omega),zC];simp [movT]
theorem zxy {r:Record} (h:rightT r=true):zet r=some (bodyT r):=by
 obtain ⟨_,h1,h2,_⟩:=zs2 h;refine zy 9 fun N hN=>?_
 have:=zk8 h2 h1 r.values N 0 0 [] rfl rfl rfl (by omega) (by omega);rw [List.nil_append] at this;exact this
theorem zxz {r:Record} (h:rightT r=true):(bodyT r).length<=200:=by
 obtain ⟨_,h1,h2,_⟩:=zs2 h;have q1:=zcn [r.kind,r.seq];have q2:=zcn r.keys;have q3:=zcn (movT 1 r.values);have q4:(movT 1 r.values).length=r.values.length:=by simp [movT]
 simp only [List.length_cons,List.length_nil] at q1;unfold bodyT;simp only [List.length_append];omega
theorem zhh {r:Record} {data:Str} (hr:RecOk r) (hd:data.length<4294967296):z6k (r,data)=some (encT r data):=by
 show z6j r data=_;unfold z6j encT;rw [zup hr,z7];cases h:rightT r with
 | false=>rfl
 | true =>
   rw [Bool.not_true,zD];by_cases h2:16<data.length
   · rw [zT (show (16:Int)<data.length by omega),zC,if_pos (.inr h2)]
   · have hb:=zxz h;rw [zF (show ¬ (16:Int)<data.length by omega),zD,if_neg (by simp;omega),zxy h,z7,zT (by omega),zC,z00k (by simp;omega),z7,zuo (z0c3 _),z7,zT (by simp [bytes4];omega),zC]
def zRec:Record:=⟨0,0,[],[]⟩
def mvT (l:List Int):List Int:=l.map fun n=>w64 (n - 1)
def decT (tag data:Str):Record×Int :=
 if (zx tag).2.2≠0 \/ (zx (zx tag).2.1).2.2≠0 \/ (zx (zx (zx tag).2.1).2.1).2.2≠0 \/ (zx tag).1.length≠2 then (zRec,30)
 else
  if (encT ⟨(zx tag).1.getD 0 0,(zx tag).1.getD 1 0,(zx (zx tag).2.1).1,mvT (zx (zx (zx tag).2.1).2.1).1⟩ data).2≠0 \/
   (encT ⟨(zx tag).1.getD 0 0,(zx tag).1.getD 1 0,(zx (zx tag).2.1).1,mvT (zx (zx (zx tag).2.1).2.1).1⟩ data).1≠tag then (zRec,30)
  else (⟨(zx tag).1.getD 0 0,(zx tag).1.getD 1 0,(zx (zx tag).2.1).1,mvT (zx (zx (zx tag).2.1).2.1).1⟩,0)
theorem zpo:∀ (k:Nat) (s:Str) (acc:List Int),(unpackL k s acc).2.1.length<=s.length /\ (unpackL k s acc).1.length<=acc.length+k
 | 0,s,acc=>by simp [unpackL]
 | k+1,s,acc=>by
   unfold unpackL;split
   · simp
   · have h1:=zpo k (takeT s).2.1 (acc++[(takeT s).1]);have h2:=zk5 s;simp at h1 ⊢;omega
theorem ze3 (s:Str):(zx s).2.1.length<=s.length /\ (zx s).1.length<=s.length:=by
 unfold zx;split
 · simp
 · rename_i h;have h1:=zpo (takeT s).1.toNat (takeT s).2.1 [];have h2:=zk5 s;have h3:¬ ((takeT s).2.1.length:Int)<(takeT s).1:=fun e=>h (.inr e)
   simp at h1;omega
theorem zg7 {tag data:Str} {a b:Int} {ks vs:List Int} (hd:data.length<4294967296) (hk:ks.length<4294967296) (hv:vs.length<4294967296):∀ (l:List Int) (N k:Nat) (i:Int) (acc:List Int),vs.drop k=l->i=k->acc.length=k->k<=vs.length->l.length<N ->
 ze z68 N (tag,data,vs,i,a,b,ks,acc)=some (if (encT ⟨a,b,ks,acc++mvT l⟩ data).2≠0 \/ (encT ⟨a,b,ks,acc++mvT l⟩ data).1≠tag then (zRec,30) else (⟨a,b,ks,acc++mvT l⟩,0))
 | l,0,_,_,_,_,_,_,_,h=>by omega
 | [],N+1,k,i,acc,h1,h2,h3,h6,_=>by
   have:=z05 h1;rw [z6,z84];unfold z37;simp only [mvT,List.map_nil,List.append_nil];rw [zF (by omega),zD,zhh ⟨hk,by simp;omega⟩ hd,z7];generalize encT ⟨a,b,ks,acc⟩ data=x;by_cases c1:x.2=0
   · rw [zT c1,Bool.not_true,zD];by_cases c2:x.1=tag
     · rw [zT c2,Bool.not_true,zD,if_neg (by simp [c1,c2])]
     · rw [zF c2,Bool.not_false,zC,if_pos (.inr c2)];rfl
   · rw [zF c1,Bool.not_false,zC,if_pos (.inl c1)];rfl
 | x::l,N+1,k,i,acc,h1,h2,h3,h6,h5=>by
   obtain ⟨g1,g2,g3⟩:=zw h1;subst h2;have ih:=zg7 (tag:=tag) (a:=a) (b:=b) hd hk hv l N (k+1) (w64 (k+1)) (acc++[w64 (x - 1)]) g3 (by rw [zf (by omega) (by omega)];omega) (by simp;omega) (by omega) (by simp at h5;omega);rw [z6,z84];unfold z37;simp only [Int.toNat_natCast,g2,ih];rw [zT (show (k:Int)<vs.length by omega),zT (show (0:Int)<=k by omega)];simp only [zC];rw [zT (by simp;omega),zC,zT (by simp;omega),zC];simp [mvT]
theorem zrd {tag data:Str} (ht:tag.length<4294967296) (hd:data.length<4294967296):zbi (tag,data)=some (decT tag data):=by
 have q1:=ze3 tag;have q2:=ze3 (zx tag).2.1;have q3:=ze3 (zx (zx tag).2.1).2.1;refine zy (tag.length+1) fun N hN=>?_
 show z6l N tag data=_;unfold z6l decT;rw [zc4 ht,z7,zc4 (by omega),z7,zc4 (by omega),z7];generalize zx tag=u1 at *;generalize zx u1.2.1=u2 at *;generalize zx u2.2.1=u3 at *;by_cases c1:u1.2.2=0
 · rw [zT c1,Bool.not_true,zD];by_cases c2:u2.2.2=0
   · rw [zT c2,Bool.not_true,zD];by_cases c3:u3.2.2=0
     · rw [zT c3,Bool.not_true,zD];by_cases c4:u1.1.length=2
       · rw [zT (show (u1.1.length:Int)=2 by omega),Bool.not_true,zD,if_neg (by simp [c1,c2,c3,c4]),zT (by omega),zC,zT (by omega),zC];have:=zg7 (tag:=tag) (a:=u1.1.getD 0 0) (b:=u1.1.getD 1 0) (ks:=u2.1) (vs:=u3.1) hd (by omega) (by omega) u3.1 N 0 0 [] rfl rfl rfl (by omega) (by omega);simpa using this
       · rw [zF (show ¬ (u1.1.length:Int)=2 by omega),Bool.not_false,zC,if_pos (.inr (.inr (.inr c4)))];rfl
     · rw [zF c3,Bool.not_false,zC,if_pos (.inr (.inr (.inl c3)))];rfl
   · rw [zF c2,Bool.not_false,zC,if_pos (.inr (.inl c2))];rfl
 · rw [zF c1,Bool.not_false,zC,if_pos (.inl c1)];rfl
def PageOk (p:Page):Prop:=p.tag.length<4294967296 /\ p.data.length<4294967296
def lookT (p:Page):Int×Record:=if p.written=false then (0,zRec) else if (decT p.tag p.data).2≠0 then (2,zRec) else (1,(decT p.tag p.data).1)
def makeT (w:Write):Page×Int:=if (encT w.record w.data).2≠0 then (⟨false,[],[]⟩,(encT w.record w.data).2) else (⟨true,w.data,(encT w.record w.data).1⟩,0)
theorem zy0 {p:Page} (h:PageOk p):zev p=some (lookT p):=by
 show zap p=_;unfold zap lookT;cases p.written with
 | false=>rfl
 | true =>
   rw [Bool.not_true,zD,zrd h.1 h.2,z7,if_neg (by simp)];by_cases c:(decT p.tag p.data).2=0
   · rw [zT c,Bool.not_true,zD,if_neg (by simp [c])]
   · rw [zF c,Bool.not_false,zC,if_pos c];rfl
def WriteOk (w:Write):Prop:=RecOk w.record /\ w.data.length<4294967296
theorem zy1 {w:Write} (h:WriteOk w):zew w=some (makeT w):=by
 show zaq w=_;unfold zaq makeT;rw [zhh h.1 h.2,z7];by_cases c:(encT w.record w.data).2=0
 · rw [zT c,Bool.not_true,zD,if_neg (by simp [c])]
 · rw [zF c,Bool.not_false,zC,if_pos c]
end Clk
