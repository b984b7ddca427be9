/- A part of the proof of DiskRoom: an evaluator of the program's code that the kernel runs, its soundness, what the functions compute. -/
import Derived.Test.YtpncgjcflkhemabPartE
import Derived.Test.YtpncgjcflkhemabProg
import Derived.Shelf.SlSortCmp.InsertionK
import Derived.CallsIn
import Derived.Shelf.SlSortCmp.NoneTotal
import Derived.Ground.SlsfProg
import Derived.WalkKit
import Derived.StillTailTactics
import Derived.WalkSmall
import Derived.Tactics
import Derived.Tactics2
import Derived.Defers
import Derived.Recover
import Derived.BigRegion
import Derived.Deep.RegionHeld3
import Derived.KernelRfl
set_option linter.unusedVariables false
set_option linter.unusedSimpArgs false
set_option maxRecDepth 1000000
namespace Go.Proofs.Ytpncgjcflkhemab
open Clk Go.Proofs
noncomputable def tiL : List (Option TI) := [
 none,
 some ⟨1, 8, .func, .nilFunc⟩,
 some ⟨1, 8, (.int .i64), (.int .i64 0)⟩,
 some ⟨1, 8, (.int .i64), (.int .i64 0)⟩,
 some ⟨1, 1, .bool, (.bool false)⟩,
 some ⟨1, 1, (.int .u8), (.int .u8 0)⟩,
 some ⟨1, 1, (.int .u8), (.int .u8 0)⟩,
 some ⟨4, 24, (.struct [(0, 2), (1, 3), (2, 4), (3, 6)]), (.agg [(.int .i64 0), (.int .i64 0), (.bool false), (.int .u8 0)])⟩,
 some ⟨4, 24, (.struct [(0, 2), (1, 3), (2, 4), (3, 6)]), (.agg [(.int .i64 0), (.int .i64 0), (.bool false), (.int .u8 0)])⟩,
 some ⟨1, 16, .string, (.str ⟨#[]⟩)⟩,
 some ⟨1, 16, .string, (.str ⟨#[]⟩)⟩,
 some ⟨1, 16, .string, (.str ⟨#[]⟩)⟩,
 some ⟨1, 8, (.int .u64), (.int .u64 0)⟩,
 some ⟨2, 24, (.struct [(0, 9), (1, 12)]), (.agg [(.str ⟨#[]⟩), (.int .u64 0)])⟩,
 some ⟨2, 24, (.struct [(0, 9), (1, 12)]), (.agg [(.str ⟨#[]⟩), (.int .u64 0)])⟩,
 some ⟨1, 8, (.pointer 152), .nilPtr⟩,
 some ⟨1, 8, (.pointer 155), .nilPtr⟩,
 some ⟨1, 8, (.pointer 164), .nilPtr⟩,
 some ⟨1, 8, (.struct [(0, 17)]), (.agg [.nilPtr])⟩,
 some ⟨1, 8, (.struct [(0, 17)]), (.agg [.nilPtr])⟩,
 some ⟨1, 16, .iface, .nilIface⟩,
 some ⟨1, 4, (.int .i32), (.int .i32 0)⟩,
 some ⟨1, 24, (.slice 5), (.crows [])⟩,
 some ⟨1, 8, .func, .nilFunc⟩,
 some ⟨4, 32, (.struct [(0, 3), (1, 3), (2, 3), (3, 3)]), (.agg [(.int .i64 0), (.int .i64 0), (.int .i64 0), (.int .i64 0)])⟩,
 some ⟨4, 32, (.struct [(0, 3), (1, 3), (2, 3), (3, 3)]), (.agg [(.int .i64 0), (.int .i64 0), (.int .i64 0), (.int .i64 0)])⟩,
 some ⟨1, 24, (.slice 3), (.crows [])⟩,
 some ⟨1, 24, (.slice 50), (.crows [])⟩,
 some ⟨4, 40, (.struct [(0, 27), (1, 4), (2, 4), (3, 3)]), (.agg [(.crows []), (.bool false), (.bool false), (.int .i64 0)])⟩,
 some ⟨4, 40, (.struct [(0, 27), (1, 4), (2, 4), (3, 3)]), (.agg [(.crows []), (.bool false), (.bool false), (.int .i64 0)])⟩,
 some ⟨2, 48, (.struct [(0, 26), (1, 26)]), (.agg [(.crows []), (.crows [])])⟩,
 some ⟨2, 48, (.struct [(0, 26), (1, 26)]), (.agg [(.crows []), (.crows [])])⟩,
 some ⟨12, 136, (.struct [(0, 25), (4, 29), (8, 31), (10, 3), (11, 3)]), (.agg [(.int .i64 0), (.int .i64 0), (.int .i64 0), (.int .i64 0), (.crows []), (.bool false), (.bool false), (.int .i64 0), (.crows []), (.crows []), (.int .i64 0), (.int .i64 0)])⟩,
 some ⟨12, 136, (.struct [(0, 25), (4, 29), (8, 31), (10, 3), (11, 3)]), (.agg [(.int .i64 0), (.int .i64 0), (.int .i64 0), (.int .i64 0), (.crows []), (.bool false), (.bool false), (.int .i64 0), (.crows []), (.crows []), (.int .i64 0), (.int .i64 0)])⟩,
 some ⟨1, 8, (.int .i64), (.int .i64 0)⟩,
 none,
 some ⟨1, 8, .func, .nilFunc⟩,
 some ⟨1, 8, .func, .nilFunc⟩,
 some ⟨1, 8, .func, .nilFunc⟩,
 some ⟨1, 8, .func, .nilFunc⟩,
 some ⟨1, 8, .func, .nilFunc⟩,
 some ⟨1, 8, .func, .nilFunc⟩,
 some ⟨1, 8, .func, .nilFunc⟩,
 some ⟨1, 24, (.slice 9), (.crows [])⟩,
 some ⟨1, 8, .func, .nilFunc⟩,
 none,
 some ⟨1, 8, .func, .nilFunc⟩,
 some ⟨1, 8, .func, .nilFunc⟩,
 some ⟨1, 24, (.slice 52), (.crows [])⟩,
 some ⟨4, 48, (.struct [(0, 48), (1, 3), (2, 3), (3, 4)]), (.agg [(.crows []), (.int .i64 0), (.int .i64 0), (.bool false)])⟩,
 some ⟨4, 48, (.struct [(0, 48), (1, 3), (2, 3), (3, 4)]), (.agg [(.crows []), (.int .i64 0), (.int .i64 0), (.bool false)])⟩,
 some ⟨3, 40, (.struct [(0, 4), (1, 9), (2, 9)]), (.agg [(.bool false), (.str ⟨#[]⟩), (.str ⟨#[]⟩)])⟩,
 some ⟨3, 40, (.struct [(0, 4), (1, 9), (2, 9)]), (.agg [(.bool false), (.str ⟨#[]⟩), (.str ⟨#[]⟩)])⟩,
 some ⟨1, 8, .func, .nilFunc⟩,
 some ⟨1, 8, .func, .nilFunc⟩,
 some ⟨1, 24, (.slice 25), (.crows [])⟩,
 some ⟨1, 8, .func, .nilFunc⟩,
 some ⟨1, 8, .func, .nilFunc⟩,
 some ⟨1, 8, .func, .nilFunc⟩,
 none,
 some ⟨1, 8, .func, .nilFunc⟩,
 some ⟨1, 8, .func, .nilFunc⟩,
 some ⟨1, 8, .func, .nilFunc⟩,
 some ⟨1, 8, .func, .nilFunc⟩,
 some ⟨1, 8, .func, .nilFunc⟩,
 some ⟨1, 24, (.slice 4), (.crows [])⟩,
 some ⟨1, 8, .func, .nilFunc⟩,
 some ⟨1, 24, (.slice 72), (.crows [])⟩,
 some ⟨1, 8, .func, .nilFunc⟩,
 some ⟨4, 64, (.struct [(0, 3), (1, 3), (2, 26), (3, 26)]), (.agg [(.int .i64 0), (.int .i64 0), (.crows []), (.crows [])])⟩,
 some ⟨4, 64, (.struct [(0, 3), (1, 3), (2, 26), (3, 26)]), (.agg [(.int .i64 0), (.int .i64 0), (.crows []), (.crows [])])⟩,
 some ⟨5, 72, (.struct [(0, 3), (1, 70)]), (.agg [(.int .i64 0), (.int .i64 0), (.int .i64 0), (.crows []), (.crows [])])⟩,
 some ⟨5, 72, (.struct [(0, 3), (1, 70)]), (.agg [(.int .i64 0), (.int .i64 0), (.int .i64 0), (.crows []), (.crows [])])⟩,
 some ⟨1, 8, .func, .nilFunc⟩,
 some ⟨1, 8, .func, .nilFunc⟩,
 some ⟨1, 8, .func, .nilFunc⟩,
 some ⟨1, 8, .func, .nilFunc⟩,
 some ⟨1, 8, .func, .nilFunc⟩,
 none,
 some ⟨1, 8, .func, .nilFunc⟩,
 some ⟨1, 8, .func, .nilFunc⟩,
 some ⟨1, 8, .func, .nilFunc⟩,
 some ⟨1, 8, .func, .nilFunc⟩,
 some ⟨1, 8, .func, .nilFunc⟩,
 some ⟨1, 8, .func, .nilFunc⟩,
 none,
 some ⟨1, 8, .func, .nilFunc⟩,
 some ⟨1, 8, .func, .nilFunc⟩,
 some ⟨1, 8, .func, .nilFunc⟩,
 some ⟨1, 8, .func, .nilFunc⟩,
 some ⟨1, 8, .func, .nilFunc⟩,
 some ⟨1, 8, .func, .nilFunc⟩,
 some ⟨1, 8, .func, .nilFunc⟩,
 none,
 some ⟨1, 8, .func, .nilFunc⟩,
 some ⟨1, 8, .func, .nilFunc⟩,
 none,
 some ⟨1, 8, .func, .nilFunc⟩,
 some ⟨1, 8, .func, .nilFunc⟩,
 some ⟨1, 8, .func, .nilFunc⟩,
 some ⟨1, 8, (.int .u64), (.int .u64 0)⟩,
 none,
 some ⟨1, 8, .func, .nilFunc⟩,
 some ⟨1, 8, .func, .nilFunc⟩,
 none,
 some ⟨1, 8, .func, .nilFunc⟩,
 some ⟨1, 8, .func, .nilFunc⟩,
 some ⟨1, 8, (.int .i64), (.int .i64 0)⟩,
 none,
 some ⟨1, 8, .func, .nilFunc⟩,
 some ⟨1, 8, .func, .nilFunc⟩,
 some ⟨1, 8, .func, .nilFunc⟩,
 some ⟨1, 8, .func, .nilFunc⟩,
 some ⟨1, 8, .func, .nilFunc⟩,
 some ⟨1, 4, (.int .u32), (.int .u32 0)⟩,
 some ⟨1, 8, .func, .nilFunc⟩,
 some ⟨1, 8, (.int .u64), (.int .u64 0)⟩,
 none,
 some ⟨1, 8, .func, .nilFunc⟩,
 none,
 some ⟨1, 8, .func, .nilFunc⟩,
 some ⟨1, 8, .func, .nilFunc⟩,
 some ⟨1, 8, (.pointer 70), .nilPtr⟩,
 some ⟨1, 8, (.pointer 34), .nilPtr⟩,
 some ⟨1, 8, (.pointer 126), .nilPtr⟩,
 some ⟨1, 16, (.struct [(0, 9)]), (.agg [(.str ⟨#[]⟩)])⟩,
 some ⟨1, 16, (.struct [(0, 9)]), (.agg [(.str ⟨#[]⟩)])⟩,
 some ⟨1, 8, .func, .nilFunc⟩,
 some ⟨1, 8, .func, .nilFunc⟩,
 some ⟨3, 72, (.array 3 26), (.agg [(.crows []), (.crows []), (.crows [])])⟩,
 some ⟨1, 8, .func, .nilFunc⟩,
 some ⟨1, 8, .func, .nilFunc⟩,
 some ⟨1, 8, .func, .nilFunc⟩,
 some ⟨1, 8, (.int .u64), (.int .u64 0)⟩,
 some ⟨1, 8, .func, .nilFunc⟩,
 some ⟨1, 8, .func, .nilFunc⟩,
 some ⟨1, 8, .func, .nilFunc⟩,
 some ⟨1, 8, (.pointer 3), .nilPtr⟩,
 some ⟨1, 8, .func, .nilFunc⟩,
 none,
 some ⟨1, 8, .func, .nilFunc⟩,
 some ⟨1, 8, .func, .nilFunc⟩,
 some ⟨4, 4, (.array 4 5), (.agg [(.int .u8 0), (.int .u8 0), (.int .u8 0), (.int .u8 0)])⟩,
 some ⟨1, 8, (.pointer 133), .nilPtr⟩,
 none,
 some ⟨1, 8, .func, .nilFunc⟩,
 none,
 some ⟨1, 8, .func, .nilFunc⟩,
 some ⟨1, 8, .func, .nilFunc⟩,
 some ⟨1, 8, .func, .nilFunc⟩,
 some ⟨1, 8, .func, .nilFunc⟩,
 some ⟨4, 40, (.struct [(0, 17), (1, 17), (2, 17), (3, 9)]), (.agg [.nilPtr, .nilPtr, .nilPtr, (.str ⟨#[]⟩)])⟩,
 some ⟨4, 40, (.struct [(0, 17), (1, 17), (2, 17), (3, 9)]), (.agg [.nilPtr, .nilPtr, .nilPtr, (.str ⟨#[]⟩)])⟩,
 none,
 none,
 none,
 some ⟨1, 8, .func, .nilFunc⟩,
 some ⟨1, 1, (.int .u8), (.int .u8 0)⟩,
 some ⟨1, 1, (.int .u8), (.int .u8 0)⟩,
 some ⟨1, 8, .func, .nilFunc⟩,
 some ⟨1, 8, (.pointer 5), .nilPtr⟩,
 some ⟨1, 4, (.int .i32), (.int .i32 0)⟩,
 some ⟨1, 4, (.int .i32), (.int .i32 0)⟩,
 some ⟨11, 48, (.struct [(0, 12), (1, 12), (2, 114), (3, 157), (4, 5), (5, 5), (6, 158), (7, 159), (8, 160), (9, 161), (10, 162)]), (.agg [(.int .u64 0), (.int .u64 0), (.int .u32 0), (.int .u8 0), (.int .u8 0), (.int .u8 0), (.int .u8 0), .nilFunc, .nilPtr, (.int .i32 0), (.int .i32 0)])⟩,
 some ⟨11, 48, (.struct [(0, 12), (1, 12), (2, 114), (3, 157), (4, 5), (5, 5), (6, 158), (7, 159), (8, 160), (9, 161), (10, 162)]), (.agg [(.int .u64 0), (.int .u64 0), (.int .u32 0), (.int .u8 0), (.int .u8 0), (.int .u8 0), (.int .u8 0), .nilFunc, .nilPtr, (.int .i32 0), (.int .i32 0)])⟩,
 none]
noncomputable def zL : List (Option (List SV)) := [
 none,
 some [.nilFunc],
 some [.int .i64 0],
 some [.int .i64 0],
 some [.bool false],
 some [.int .u8 0],
 some [.int .u8 0],
 some [.int .i64 0, .int .i64 0, .bool false, .int .u8 0],
 some [.int .i64 0, .int .i64 0, .bool false, .int .u8 0],
 some [.str []],
 some [.str []],
 some [.str []],
 some [.int .u64 0],
 some [.str [], .int .u64 0],
 some [.str [], .int .u64 0],
 some [.nilPtr],
 some [.nilPtr],
 some [.nilPtr],
 some [.nilPtr],
 some [.nilPtr],
 some [.nilIface],
 some [.int .i32 0],
 some [.lst true (.int .u8) []],
 some [.nilFunc],
 some [.int .i64 0, .int .i64 0, .int .i64 0, .int .i64 0],
 some [.int .i64 0, .int .i64 0, .int .i64 0, .int .i64 0],
 some [.lst true .i []],
 some [.lst true .block []],
 some [.lst true .block [], .bool false, .bool false, .int .i64 0],
 some [.lst true .block [], .bool false, .bool false, .int .i64 0],
 some [.lst true .i [], .lst true .i []],
 some [.lst true .i [], .lst true .i []],
 some [.int .i64 0, .int .i64 0, .int .i64 0, .int .i64 0, .lst true .block [], .bool false, .bool false, .int .i64 0, .lst true .i [], .lst true .i [], .int .i64 0, .int .i64 0],
 some [.int .i64 0, .int .i64 0, .int .i64 0, .int .i64 0, .lst true .block [], .bool false, .bool false, .int .i64 0, .lst true .i [], .lst true .i [], .int .i64 0, .int .i64 0],
 some [.int .i64 0],
 none,
 some [.nilFunc],
 some [.nilFunc],
 some [.nilFunc],
 some [.nilFunc],
 some [.nilFunc],
 some [.nilFunc],
 some [.nilFunc],
 some [.lst true .str []],
 some [.nilFunc],
 none,
 some [.nilFunc],
 some [.nilFunc],
 some [.lst true .page []],
 some [.lst true .page [], .int .i64 0, .int .i64 0, .bool false],
 some [.lst true .page [], .int .i64 0, .int .i64 0, .bool false],
 some [.bool false, .str [], .str []],
 some [.bool false, .str [], .str []],
 some [.nilFunc],
 some [.nilFunc],
 some [.lst true .geometry []],
 some [.nilFunc],
 some [.nilFunc],
 some [.nilFunc],
 none,
 some [.nilFunc],
 some [.nilFunc],
 some [.nilFunc],
 some [.nilFunc],
 some [.nilFunc],
 some [.lst true .bool []],
 some [.nilFunc],
 some [.lst true .found []],
 some [.nilFunc],
 some [.int .i64 0, .int .i64 0, .lst true .i [], .lst true .i []],
 some [.int .i64 0, .int .i64 0, .lst true .i [], .lst true .i []],
 some [.int .i64 0, .int .i64 0, .int .i64 0, .lst true .i [], .lst true .i []],
 some [.int .i64 0, .int .i64 0, .int .i64 0, .lst true .i [], .lst true .i []],
 some [.nilFunc],
 some [.nilFunc],
 some [.nilFunc],
 some [.nilFunc],
 some [.nilFunc],
 none,
 some [.nilFunc],
 some [.nilFunc],
 some [.nilFunc],
 some [.nilFunc],
 some [.nilFunc],
 some [.nilFunc],
 none,
 some [.nilFunc],
 some [.nilFunc],
 some [.nilFunc],
 some [.nilFunc],
 some [.nilFunc],
 some [.nilFunc],
 some [.nilFunc],
 none,
 some [.nilFunc],
 some [.nilFunc],
 none,
 some [.nilFunc],
 some [.nilFunc],
 some [.nilFunc],
 some [.int .u64 0],
 none,
 some [.nilFunc],
 some [.nilFunc],
 none,
 some [.nilFunc],
 some [.nilFunc],
 some [.int .i64 0],
 none,
 some [.nilFunc],
 some [.nilFunc],
 some [.nilFunc],
 some [.nilFunc],
 some [.nilFunc],
 some [.int .u32 0],
 some [.nilFunc],
 some [.int .u64 0],
 none,
 some [.nilFunc],
 none,
 some [.nilFunc],
 some [.nilFunc],
 some [.nilPtr],
 some [.nilPtr],
 some [.nilPtr],
 some [.str []],
 some [.str []],
 some [.nilFunc],
 some [.nilFunc],
 some [.lst true .i [], .lst true .i [], .lst true .i []],
 some [.nilFunc],
 some [.nilFunc],
 some [.nilFunc],
 some [.int .u64 0],
 some [.nilFunc],
 some [.nilFunc],
 some [.nilFunc],
 some [.nilPtr],
 some [.nilFunc],
 none,
 some [.nilFunc],
 some [.nilFunc],
 some [.int .u8 0, .int .u8 0, .int .u8 0, .int .u8 0],
 some [.nilPtr],
 none,
 some [.nilFunc],
 none,
 some [.nilFunc],
 some [.nilFunc],
 some [.nilFunc],
 some [.nilFunc],
 some [.nilPtr, .nilPtr, .nilPtr, .str []],
 some [.nilPtr, .nilPtr, .nilPtr, .str []],
 none,
 none,
 none,
 some [.nilFunc],
 some [.int .u8 0],
 some [.int .u8 0],
 some [.nilFunc],
 some [.nilPtr],
 some [.int .i32 0],
 some [.int .i32 0],
 some [.int .u64 0, .int .u64 0, .int .u32 0, .int .u8 0, .int .u8 0, .int .u8 0, .int .u8 0, .nilFunc, .nilPtr, .int .i32 0, .int .i32 0],
 some [.int .u64 0, .int .u64 0, .int .u32 0, .int .u8 0, .int .u8 0, .int .u8 0, .int .u8 0, .nilFunc, .nilPtr, .int .i32 0, .int .i32 0],
 none]
noncomputable def ecL : List (Option TC) := [
 none,
 none,
 some .i,
 some .i,
 some .bool,
 some (.int .u8),
 some (.int .u8),
 none,
 none,
 some .str,
 some .str,
 some .str,
 some (.int .u64),
 none,
 none,
 none,
 none,
 none,
 none,
 none,
 none,
 some (.int .i32),
 some (.list (.int .u8)),
 none,
 none,
 some .geometry,
 some (.list .i),
 some (.list .block),
 none,
 some .chip,
 none,
 some .table,
 none,
 some .device,
 some .i,
 none,
 none,
 none,
 none,
 none,
 none,
 none,
 none,
 some (.list .str),
 none,
 none,
 none,
 none,
 some (.list .page),
 none,
 some .block,
 none,
 some .page,
 none,
 none,
 some (.list .geometry),
 none,
 none,
 none,
 none,
 none,
 none,
 none,
 none,
 none,
 some (.list .bool),
 none,
 some (.list .found),
 none,
 none,
 some .record,
 none,
 some .found,
 none,
 none,
 none,
 none,
 none,
 none,
 none,
 none,
 none,
 none,
 none,
 none,
 none,
 none,
 none,
 none,
 none,
 none,
 none,
 none,
 none,
 none,
 none,
 none,
 none,
 none,
 none,
 some (.int .u64),
 none,
 none,
 none,
 none,
 none,
 none,
 some .i,
 none,
 none,
 none,
 none,
 none,
 none,
 some (.int .u32),
 none,
 some (.int .u64),
 none,
 none,
 none,
 none,
 none,
 none,
 none,
 none,
 none,
 none,
 none,
 none,
 none,
 none,
 none,
 none,
 some (.int .u64),
 none,
 none,
 none,
 none,
 none,
 none,
 none,
 none,
 none,
 none,
 none,
 none,
 none,
 none,
 none,
 none,
 none,
 none,
 none,
 none,
 none,
 none,
 none,
 some (.int .u8),
 some (.int .u8),
 none,
 none,
 some (.int .i32),
 some (.int .i32),
 none,
 none,
 none]
noncomputable def eqL : List Bool := [false, false, false, false, false, false, false, true, true, false, false, false, false, false, false, false, false, false, false, false, false, false, false, false, true, true, false, false, true, true, true, true, true, true, false, false, false, false, false, false, false, false, false, false, false, false, false, false, false, true, true, true, true, false, false, false, false, false, false, false, false, false, false, false, false, false, false, false, false, true, true, true, true, false, false, false, false, false, false, false, false, false, false, false, false, false, false, false, false, false, false, false, false, false, false, false, false, false, false, false, false, false, false, false, false, false, false, false, false, false, false, false, false, false, false, false, false, false, false, false, false, false, false, false, false, true, true, false, false, false, false, false, false, false, false, false, false, false, false, false, false, false, false, false, false, false, false, false, false, false, false, false, false, false, false, false, false, false, false, false, false, false, false, false, false, false]
noncomputable def fnL : List (Option Go.Func) := [none, none, none, some Try.f3, some Try.f4, some Try.f5, some Try.f6, some Try.f7, some Try.f8, some Try.f9, some Try.f10, some Try.f11, some Try.f12, some Try.f13, some Try.f14, some Try.f15, some Try.f16, some Try.f17, some Try.f18, some Try.f19, some Try.f20, some Try.f21, some Try.f22, some Try.f23, some Try.f24, some Try.f25, some Try.f26, some Try.f27, some Try.f28, some Try.f29, some Try.f30, some Try.f31, some Try.f32, some Try.f33, some Try.f34, some Try.f35, some Try.f36, some Try.f37, some Try.f38, some Try.f39, some Try.f40, some Try.f41, some Try.f42, some Try.f43, some Try.f44, some Try.f45, some Try.f46, some Try.f47, some Try.f48, some Try.f49, some Try.f50, some Try.f51, some Try.f52, some Try.f53, some Try.f54, some Try.f55, some Try.f56, some Try.f57, some Try.f58, some Try.f59, some Try.f60, some Try.f61, some Try.f62, some Try.f63, some Try.f64, some Try.f65, some Try.f66, some Try.f67, some Try.f68, some Try.f69, some Try.f70, some Try.f71, some Try.f72, some Try.f73, some Try.f74, some Try.f75, some Try.f76, some Try.f77, some Try.f78, some Try.f79, some Try.f80, some Try.f81, some Try.f82, some Try.f83, some Try.f84, some Try.f85, some Try.f86, some Try.f87, none, none, none, none, none, none, none, none, none, none, none, none, none, none, none, none]
noncomputable def inlL : List Bool := [false, false, false, false, false, false, false, false, false, false, false, false, false, false, false, false, true, true, false, false, true, true, false, true, true, false, false, true, true, false, false, true, false, true, false, true, false, true, true, false, false, false, false, false, true, false, false, true, false, false, false, false, false, true, true, true, true, true, true, true, true, false, false, false, false, false, false, false, false, false, false, false, true, false, false, true, true, false, true, false, false, true, false, true, false, true, false, false, false, false, false, false, false, false, false, false, false, false, false, false, false, false, false, false]
noncomputable def clL : List (Option (TC × Nat)) := [none, none, none, none, none, none, none, none, none, none, none, none, none, none, none, none, none, none, none, none, none, none, none, none, none, none, none, none, none, none, none, none, none, none, none, none, none, some (.found, 1000038), none, none, none, none, some (.i, 8), none, none, none, none, none, none, none, none, none, none, none, none, none, none, none, none, none, none, none, none, none, none, none, none, none, none, none, none, none, none, none, none, none, none, none, none, none, none, none, none, none, none, none, none, none, none, none, none, none, none, none, none, none, none, none, none, none, none, none, none, none]
noncomputable def z3x : Seat := ⟨tiL, zL, ecL, eqL, fnL, inlL, clL⟩
theorem zz5 : z3x.Ok Try.prog where
 ti := by kernel_rfl
 zero := by kernel_rfl
 zs := by kernel_rfl
 ec := by kernel_rfl
 eci := by kernel_rfl
 flds := by kernel_rfl
 eq := by kernel_rfl
 fn := by kernel_rfl
theorem z0i : SeatOk Try.prog z3x.inlF z3x.prim z3x.mk' := zz5.seatOk
end Go.Proofs.Ytpncgjcflkhemab
namespace Go.Proofs.Ytpncgjcflkhemab
open Go Go.Proofs Clk
theorem ti0 : ti Try.prog 0 = some ⟨1, 0, .other, (.tup [])⟩ := by kernel_rfl
theorem ti1 : ti Try.prog 1 = some ⟨1, 8, .func, .nilFunc⟩ := by kernel_rfl
theorem ti2 : ti Try.prog 2 = some ⟨1, 8, (.int .i64), (.int .i64 0)⟩ := by kernel_rfl
theorem ti3 : ti Try.prog 3 = some ⟨1, 8, (.int .i64), (.int .i64 0)⟩ := by kernel_rfl
theorem ti4 : ti Try.prog 4 = some ⟨1, 1, .bool, (.bool false)⟩ := by kernel_rfl
theorem ti5 : ti Try.prog 5 = some ⟨1, 1, (.int .u8), (.int .u8 0)⟩ := by kernel_rfl
theorem ti6 : ti Try.prog 6 = some ⟨1, 1, (.int .u8), (.int .u8 0)⟩ := by kernel_rfl
theorem ti7 : ti Try.prog 7 = some ⟨4, 24, (.struct [(0, 2), (1, 3), (2, 4), (3, 6)]), (.agg [(.int .i64 0), (.int .i64 0), (.bool false), (.int .u8 0)])⟩ := by kernel_rfl
theorem ti8 : ti Try.prog 8 = some ⟨4, 24, (.struct [(0, 2), (1, 3), (2, 4), (3, 6)]), (.agg [(.int .i64 0), (.int .i64 0), (.bool false), (.int .u8 0)])⟩ := by kernel_rfl
theorem ti9 : ti Try.prog 9 = some ⟨1, 16, .string, (.str ⟨#[]⟩)⟩ := by kernel_rfl
theorem ti10 : ti Try.prog 10 = some ⟨1, 16, .string, (.str ⟨#[]⟩)⟩ := by kernel_rfl
theorem ti11 : ti Try.prog 11 = some ⟨1, 16, .string, (.str ⟨#[]⟩)⟩ := by kernel_rfl
theorem ti12 : ti Try.prog 12 = some ⟨1, 8, (.int .u64), (.int .u64 0)⟩ := by kernel_rfl
theorem ti13 : ti Try.prog 13 = some ⟨2, 24, (.struct [(0, 9), (1, 12)]), (.agg [(.str ⟨#[]⟩), (.int .u64 0)])⟩ := by kernel_rfl
theorem ti14 : ti Try.prog 14 = some ⟨2, 24, (.struct [(0, 9), (1, 12)]), (.agg [(.str ⟨#[]⟩), (.int .u64 0)])⟩ := by kernel_rfl
theorem ti15 : ti Try.prog 15 = some ⟨1, 8, (.pointer 152), .nilPtr⟩ := by kernel_rfl
theorem ti16 : ti Try.prog 16 = some ⟨1, 8, (.pointer 155), .nilPtr⟩ := by kernel_rfl
theorem ti17 : ti Try.prog 17 = some ⟨1, 8, (.pointer 164), .nilPtr⟩ := by kernel_rfl
theorem ti18 : ti Try.prog 18 = some ⟨1, 8, (.struct [(0, 17)]), (.agg [.nilPtr])⟩ := by kernel_rfl
theorem ti19 : ti Try.prog 19 = some ⟨1, 8, (.struct [(0, 17)]), (.agg [.nilPtr])⟩ := by kernel_rfl
theorem ti20 : ti Try.prog 20 = some ⟨1, 16, .iface, .nilIface⟩ := by kernel_rfl
theorem ti21 : ti Try.prog 21 = some ⟨1, 4, (.int .i32), (.int .i32 0)⟩ := by kernel_rfl
theorem ti22 : ti Try.prog 22 = some ⟨1, 24, (.slice 5), (.crows [])⟩ := by kernel_rfl
theorem ti23 : ti Try.prog 23 = some ⟨1, 8, .func, .nilFunc⟩ := by kernel_rfl
theorem ti24 : ti Try.prog 24 = some ⟨4, 32, (.struct [(0, 3), (1, 3), (2, 3), (3, 3)]), (.agg [(.int .i64 0), (.int .i64 0), (.int .i64 0), (.int .i64 0)])⟩ := by kernel_rfl
theorem ti25 : ti Try.prog 25 = some ⟨4, 32, (.struct [(0, 3), (1, 3), (2, 3), (3, 3)]), (.agg [(.int .i64 0), (.int .i64 0), (.int .i64 0), (.int .i64 0)])⟩ := by kernel_rfl
theorem ti26 : ti Try.prog 26 = some ⟨1, 24, (.slice 3), (.crows [])⟩ := by kernel_rfl
theorem ti27 : ti Try.prog 27 = some ⟨1, 24, (.slice 50), (.crows [])⟩ := by kernel_rfl
theorem ti28 : ti Try.prog 28 = some ⟨4, 40, (.struct [(0, 27), (1, 4), (2, 4), (3, 3)]), (.agg [(.crows []), (.bool false), (.bool false), (.int .i64 0)])⟩ := by kernel_rfl
theorem ti29 : ti Try.prog 29 = some ⟨4, 40, (.struct [(0, 27), (1, 4), (2, 4), (3, 3)]), (.agg [(.crows []), (.bool false), (.bool false), (.int .i64 0)])⟩ := by kernel_rfl
theorem ti30 : ti Try.prog 30 = some ⟨2, 48, (.struct [(0, 26), (1, 26)]), (.agg [(.crows []), (.crows [])])⟩ := by kernel_rfl
theorem ti31 : ti Try.prog 31 = some ⟨2, 48, (.struct [(0, 26), (1, 26)]), (.agg [(.crows []), (.crows [])])⟩ := by kernel_rfl
theorem ti32 : ti Try.prog 32 = some ⟨12, 136, (.struct [(0, 25), (4, 29), (8, 31), (10, 3), (11, 3)]), (.agg [(.int .i64 0), (.int .i64 0), (.int .i64 0), (.int .i64 0), (.crows []), (.bool false), (.bool false), (.int .i64 0), (.crows []), (.crows []), (.int .i64 0), (.int .i64 0)])⟩ := by kernel_rfl
theorem ti33 : ti Try.prog 33 = some ⟨12, 136, (.struct [(0, 25), (4, 29), (8, 31), (10, 3), (11, 3)]), (.agg [(.int .i64 0), (.int .i64 0), (.int .i64 0), (.int .i64 0), (.crows []), (.bool false), (.bool false), (.int .i64 0), (.crows []), (.crows []), (.int .i64 0), (.int .i64 0)])⟩ := by kernel_rfl
theorem ti34 : ti Try.prog 34 = some ⟨1, 8, (.int .i64), (.int .i64 0)⟩ := by kernel_rfl
theorem ti35 : ti Try.prog 35 = some ⟨1, 0, .other, .undef⟩ := by kernel_rfl
theorem ti36 : ti Try.prog 36 = some ⟨1, 8, .func, .nilFunc⟩ := by kernel_rfl
theorem ti37 : ti Try.prog 37 = some ⟨1, 8, .func, .nilFunc⟩ := by kernel_rfl
theorem ti38 : ti Try.prog 38 = some ⟨1, 8, .func, .nilFunc⟩ := by kernel_rfl
theorem ti39 : ti Try.prog 39 = some ⟨1, 8, .func, .nilFunc⟩ := by kernel_rfl
theorem ti40 : ti Try.prog 40 = some ⟨1, 8, .func, .nilFunc⟩ := by kernel_rfl
theorem ti41 : ti Try.prog 41 = some ⟨1, 8, .func, .nilFunc⟩ := by kernel_rfl
theorem ti42 : ti Try.prog 42 = some ⟨1, 8, .func, .nilFunc⟩ := by kernel_rfl
theorem ti43 : ti Try.prog 43 = some ⟨1, 24, (.slice 9), (.crows [])⟩ := by kernel_rfl
theorem ti44 : ti Try.prog 44 = some ⟨1, 8, .func, .nilFunc⟩ := by kernel_rfl
theorem ti45 : ti Try.prog 45 = some ⟨1, 0, .other, .undef⟩ := by kernel_rfl
theorem ti46 : ti Try.prog 46 = some ⟨1, 8, .func, .nilFunc⟩ := by kernel_rfl
theorem ti47 : ti Try.prog 47 = some ⟨1, 8, .func, .nilFunc⟩ := by kernel_rfl
theorem ti48 : ti Try.prog 48 = some ⟨1, 24, (.slice 52), (.crows [])⟩ := by kernel_rfl
theorem ti49 : ti Try.prog 49 = some ⟨4, 48, (.struct [(0, 48), (1, 3), (2, 3), (3, 4)]), (.agg [(.crows []), (.int .i64 0), (.int .i64 0), (.bool false)])⟩ := by kernel_rfl
theorem ti50 : ti Try.prog 50 = some ⟨4, 48, (.struct [(0, 48), (1, 3), (2, 3), (3, 4)]), (.agg [(.crows []), (.int .i64 0), (.int .i64 0), (.bool false)])⟩ := by kernel_rfl
theorem ti51 : ti Try.prog 51 = some ⟨3, 40, (.struct [(0, 4), (1, 9), (2, 9)]), (.agg [(.bool false), (.str ⟨#[]⟩), (.str ⟨#[]⟩)])⟩ := by kernel_rfl
theorem ti52 : ti Try.prog 52 = some ⟨3, 40, (.struct [(0, 4), (1, 9), (2, 9)]), (.agg [(.bool false), (.str ⟨#[]⟩), (.str ⟨#[]⟩)])⟩ := by kernel_rfl
theorem ti53 : ti Try.prog 53 = some ⟨1, 8, .func, .nilFunc⟩ := by kernel_rfl
theorem ti54 : ti Try.prog 54 = some ⟨1, 8, .func, .nilFunc⟩ := by kernel_rfl
theorem ti55 : ti Try.prog 55 = some ⟨1, 24, (.slice 25), (.crows [])⟩ := by kernel_rfl
theorem ti56 : ti Try.prog 56 = some ⟨1, 8, .func, .nilFunc⟩ := by kernel_rfl
theorem ti57 : ti Try.prog 57 = some ⟨1, 8, .func, .nilFunc⟩ := by kernel_rfl
theorem ti58 : ti Try.prog 58 = some ⟨1, 8, .func, .nilFunc⟩ := by kernel_rfl
theorem ti59 : ti Try.prog 59 = some ⟨1, 0, .other, .undef⟩ := by kernel_rfl
theorem ti60 : ti Try.prog 60 = some ⟨1, 8, .func, .nilFunc⟩ := by kernel_rfl
theorem ti61 : ti Try.prog 61 = some ⟨1, 8, .func, .nilFunc⟩ := by kernel_rfl
theorem ti62 : ti Try.prog 62 = some ⟨1, 8, .func, .nilFunc⟩ := by kernel_rfl
theorem ti63 : ti Try.prog 63 = some ⟨1, 8, .func, .nilFunc⟩ := by kernel_rfl
theorem ti64 : ti Try.prog 64 = some ⟨1, 8, .func, .nilFunc⟩ := by kernel_rfl
theorem ti65 : ti Try.prog 65 = some ⟨1, 24, (.slice 4), (.crows [])⟩ := by kernel_rfl
theorem ti66 : ti Try.prog 66 = some ⟨1, 8, .func, .nilFunc⟩ := by kernel_rfl
theorem ti67 : ti Try.prog 67 = some ⟨1, 24, (.slice 72), (.crows [])⟩ := by kernel_rfl
theorem ti68 : ti Try.prog 68 = some ⟨1, 8, .func, .nilFunc⟩ := by kernel_rfl
theorem ti69 : ti Try.prog 69 = some ⟨4, 64, (.struct [(0, 3), (1, 3), (2, 26), (3, 26)]), (.agg [(.int .i64 0), (.int .i64 0), (.crows []), (.crows [])])⟩ := by kernel_rfl
theorem ti70 : ti Try.prog 70 = some ⟨4, 64, (.struct [(0, 3), (1, 3), (2, 26), (3, 26)]), (.agg [(.int .i64 0), (.int .i64 0), (.crows []), (.crows [])])⟩ := by kernel_rfl
theorem ti71 : ti Try.prog 71 = some ⟨5, 72, (.struct [(0, 3), (1, 70)]), (.agg [(.int .i64 0), (.int .i64 0), (.int .i64 0), (.crows []), (.crows [])])⟩ := by kernel_rfl
theorem ti72 : ti Try.prog 72 = some ⟨5, 72, (.struct [(0, 3), (1, 70)]), (.agg [(.int .i64 0), (.int .i64 0), (.int .i64 0), (.crows []), (.crows [])])⟩ := by kernel_rfl
theorem ti73 : ti Try.prog 73 = some ⟨1, 8, .func, .nilFunc⟩ := by kernel_rfl
theorem ti74 : ti Try.prog 74 = some ⟨1, 8, .func, .nilFunc⟩ := by kernel_rfl
theorem ti75 : ti Try.prog 75 = some ⟨1, 8, .func, .nilFunc⟩ := by kernel_rfl
theorem ti76 : ti Try.prog 76 = some ⟨1, 8, .func, .nilFunc⟩ := by kernel_rfl
theorem ti77 : ti Try.prog 77 = some ⟨1, 8, .func, .nilFunc⟩ := by kernel_rfl
theorem ti78 : ti Try.prog 78 = some ⟨1, 0, .other, .undef⟩ := by kernel_rfl
theorem ti79 : ti Try.prog 79 = some ⟨1, 8, .func, .nilFunc⟩ := by kernel_rfl
theorem ti80 : ti Try.prog 80 = some ⟨1, 8, .func, .nilFunc⟩ := by kernel_rfl
theorem ti81 : ti Try.prog 81 = some ⟨1, 8, .func, .nilFunc⟩ := by kernel_rfl
theorem ti82 : ti Try.prog 82 = some ⟨1, 8, .func, .nilFunc⟩ := by kernel_rfl
theorem ti83 : ti Try.prog 83 = some ⟨1, 8, .func, .nilFunc⟩ := by kernel_rfl
theorem ti84 : ti Try.prog 84 = some ⟨1, 8, .func, .nilFunc⟩ := by kernel_rfl
theorem ti85 : ti Try.prog 85 = some ⟨1, 0, .other, .undef⟩ := by kernel_rfl
theorem ti86 : ti Try.prog 86 = some ⟨1, 8, .func, .nilFunc⟩ := by kernel_rfl
theorem ti87 : ti Try.prog 87 = some ⟨1, 8, .func, .nilFunc⟩ := by kernel_rfl
theorem ti88 : ti Try.prog 88 = some ⟨1, 8, .func, .nilFunc⟩ := by kernel_rfl
theorem ti89 : ti Try.prog 89 = some ⟨1, 8, .func, .nilFunc⟩ := by kernel_rfl
theorem ti90 : ti Try.prog 90 = some ⟨1, 8, .func, .nilFunc⟩ := by kernel_rfl
theorem ti91 : ti Try.prog 91 = some ⟨1, 8, .func, .nilFunc⟩ := by kernel_rfl
theorem ti92 : ti Try.prog 92 = some ⟨1, 8, .func, .nilFunc⟩ := by kernel_rfl
theorem ti93 : ti Try.prog 93 = some ⟨1, 0, .other, .undef⟩ := by kernel_rfl
theorem ti94 : ti Try.prog 94 = some ⟨1, 8, .func, .nilFunc⟩ := by kernel_rfl
theorem ti95 : ti Try.prog 95 = some ⟨1, 8, .func, .nilFunc⟩ := by kernel_rfl
theorem ti96 : ti Try.prog 96 = some ⟨1, 0, .other, .undef⟩ := by kernel_rfl
theorem ti97 : ti Try.prog 97 = some ⟨1, 8, .func, .nilFunc⟩ := by kernel_rfl
theorem ti98 : ti Try.prog 98 = some ⟨1, 8, .func, .nilFunc⟩ := by kernel_rfl
theorem ti99 : ti Try.prog 99 = some ⟨1, 8, .func, .nilFunc⟩ := by kernel_rfl
theorem ti100 : ti Try.prog 100 = some ⟨1, 8, (.int .u64), (.int .u64 0)⟩ := by kernel_rfl
theorem ti101 : ti Try.prog 101 = some ⟨1, 0, .other, .undef⟩ := by kernel_rfl
theorem ti102 : ti Try.prog 102 = some ⟨1, 8, .func, .nilFunc⟩ := by kernel_rfl
theorem ti103 : ti Try.prog 103 = some ⟨1, 8, .func, .nilFunc⟩ := by kernel_rfl
theorem ti104 : ti Try.prog 104 = some ⟨1, 0, .other, .undef⟩ := by kernel_rfl
theorem ti105 : ti Try.prog 105 = some ⟨1, 8, .func, .nilFunc⟩ := by kernel_rfl
theorem ti106 : ti Try.prog 106 = some ⟨1, 8, .func, .nilFunc⟩ := by kernel_rfl
theorem ti107 : ti Try.prog 107 = some ⟨1, 8, (.int .i64), (.int .i64 0)⟩ := by kernel_rfl
theorem ti108 : ti Try.prog 108 = some ⟨1, 0, .other, .undef⟩ := by kernel_rfl
theorem ti109 : ti Try.prog 109 = some ⟨1, 8, .func, .nilFunc⟩ := by kernel_rfl
theorem ti110 : ti Try.prog 110 = some ⟨1, 8, .func, .nilFunc⟩ := by kernel_rfl
theorem ti111 : ti Try.prog 111 = some ⟨1, 8, .func, .nilFunc⟩ := by kernel_rfl
theorem ti112 : ti Try.prog 112 = some ⟨1, 8, .func, .nilFunc⟩ := by kernel_rfl
theorem ti113 : ti Try.prog 113 = some ⟨1, 8, .func, .nilFunc⟩ := by kernel_rfl
theorem ti114 : ti Try.prog 114 = some ⟨1, 4, (.int .u32), (.int .u32 0)⟩ := by kernel_rfl
theorem ti115 : ti Try.prog 115 = some ⟨1, 8, .func, .nilFunc⟩ := by kernel_rfl
theorem ti116 : ti Try.prog 116 = some ⟨1, 8, (.int .u64), (.int .u64 0)⟩ := by kernel_rfl
theorem ti117 : ti Try.prog 117 = some ⟨1, 0, .other, .undef⟩ := by kernel_rfl
theorem ti118 : ti Try.prog 118 = some ⟨1, 8, .func, .nilFunc⟩ := by kernel_rfl
theorem ti119 : ti Try.prog 119 = some ⟨1, 0, .other, .undef⟩ := by kernel_rfl
theorem ti120 : ti Try.prog 120 = some ⟨1, 8, .func, .nilFunc⟩ := by kernel_rfl
theorem ti121 : ti Try.prog 121 = some ⟨1, 8, .func, .nilFunc⟩ := by kernel_rfl
theorem ti122 : ti Try.prog 122 = some ⟨1, 8, (.pointer 70), .nilPtr⟩ := by kernel_rfl
theorem ti123 : ti Try.prog 123 = some ⟨1, 8, (.pointer 34), .nilPtr⟩ := by kernel_rfl
theorem ti124 : ti Try.prog 124 = some ⟨1, 8, (.pointer 126), .nilPtr⟩ := by kernel_rfl
theorem ti125 : ti Try.prog 125 = some ⟨1, 16, (.struct [(0, 9)]), (.agg [(.str ⟨#[]⟩)])⟩ := by kernel_rfl
theorem ti126 : ti Try.prog 126 = some ⟨1, 16, (.struct [(0, 9)]), (.agg [(.str ⟨#[]⟩)])⟩ := by kernel_rfl
theorem ti127 : ti Try.prog 127 = some ⟨1, 8, .func, .nilFunc⟩ := by kernel_rfl
theorem ti128 : ti Try.prog 128 = some ⟨1, 8, .func, .nilFunc⟩ := by kernel_rfl
theorem ti129 : ti Try.prog 129 = some ⟨3, 72, (.array 3 26), (.agg [(.crows []), (.crows []), (.crows [])])⟩ := by kernel_rfl
theorem ti130 : ti Try.prog 130 = some ⟨1, 8, .func, .nilFunc⟩ := by kernel_rfl
theorem ti131 : ti Try.prog 131 = some ⟨1, 8, .func, .nilFunc⟩ := by kernel_rfl
theorem ti132 : ti Try.prog 132 = some ⟨1, 8, .func, .nilFunc⟩ := by kernel_rfl
theorem ti133 : ti Try.prog 133 = some ⟨1, 8, (.int .u64), (.int .u64 0)⟩ := by kernel_rfl
theorem ti134 : ti Try.prog 134 = some ⟨1, 8, .func, .nilFunc⟩ := by kernel_rfl
theorem ti135 : ti Try.prog 135 = some ⟨1, 8, .func, .nilFunc⟩ := by kernel_rfl
theorem ti136 : ti Try.prog 136 = some ⟨1, 8, .func, .nilFunc⟩ := by kernel_rfl
theorem ti137 : ti Try.prog 137 = some ⟨1, 8, (.pointer 3), .nilPtr⟩ := by kernel_rfl
theorem ti138 : ti Try.prog 138 = some ⟨1, 8, .func, .nilFunc⟩ := by kernel_rfl
theorem ti139 : ti Try.prog 139 = some ⟨1, 0, .other, .undef⟩ := by kernel_rfl
theorem ti140 : ti Try.prog 140 = some ⟨1, 8, .func, .nilFunc⟩ := by kernel_rfl
theorem ti141 : ti Try.prog 141 = some ⟨1, 8, .func, .nilFunc⟩ := by kernel_rfl
theorem ti142 : ti Try.prog 142 = some ⟨4, 4, (.array 4 5), (.agg [(.int .u8 0), (.int .u8 0), (.int .u8 0), (.int .u8 0)])⟩ := by kernel_rfl
theorem ti143 : ti Try.prog 143 = some ⟨1, 8, (.pointer 133), .nilPtr⟩ := by kernel_rfl
theorem ti144 : ti Try.prog 144 = some ⟨1, 0, .other, .undef⟩ := by kernel_rfl
theorem ti145 : ti Try.prog 145 = some ⟨1, 8, .func, .nilFunc⟩ := by kernel_rfl
theorem ti146 : ti Try.prog 146 = some ⟨1, 0, .other, .undef⟩ := by kernel_rfl
theorem ti147 : ti Try.prog 147 = some ⟨1, 8, .func, .nilFunc⟩ := by kernel_rfl
theorem ti148 : ti Try.prog 148 = some ⟨1, 8, .func, .nilFunc⟩ := by kernel_rfl
theorem ti149 : ti Try.prog 149 = some ⟨1, 8, .func, .nilFunc⟩ := by kernel_rfl
theorem ti150 : ti Try.prog 150 = some ⟨1, 8, .func, .nilFunc⟩ := by kernel_rfl
theorem ti151 : ti Try.prog 151 = some ⟨4, 40, (.struct [(0, 17), (1, 17), (2, 17), (3, 9)]), (.agg [.nilPtr, .nilPtr, .nilPtr, (.str ⟨#[]⟩)])⟩ := by kernel_rfl
theorem ti152 : ti Try.prog 152 = some ⟨4, 40, (.struct [(0, 17), (1, 17), (2, 17), (3, 9)]), (.agg [.nilPtr, .nilPtr, .nilPtr, (.str ⟨#[]⟩)])⟩ := by kernel_rfl
theorem ti153 : ti Try.prog 153 = some ⟨0, 0, (.array 0 16), (.agg [])⟩ := by kernel_rfl
theorem ti154 : ti Try.prog 154 = some ⟨0, 0, (.struct [(0, 153)]), (.agg [])⟩ := by kernel_rfl
theorem ti155 : ti Try.prog 155 = some ⟨0, 0, (.struct [(0, 153)]), (.agg [])⟩ := by kernel_rfl
theorem ti156 : ti Try.prog 156 = some ⟨1, 8, .func, .nilFunc⟩ := by kernel_rfl
theorem ti157 : ti Try.prog 157 = some ⟨1, 1, (.int .u8), (.int .u8 0)⟩ := by kernel_rfl
theorem ti158 : ti Try.prog 158 = some ⟨1, 1, (.int .u8), (.int .u8 0)⟩ := by kernel_rfl
theorem ti159 : ti Try.prog 159 = some ⟨1, 8, .func, .nilFunc⟩ := by kernel_rfl
theorem ti160 : ti Try.prog 160 = some ⟨1, 8, (.pointer 5), .nilPtr⟩ := by kernel_rfl
theorem ti161 : ti Try.prog 161 = some ⟨1, 4, (.int .i32), (.int .i32 0)⟩ := by kernel_rfl
theorem ti162 : ti Try.prog 162 = some ⟨1, 4, (.int .i32), (.int .i32 0)⟩ := by kernel_rfl
theorem ti163 : ti Try.prog 163 = some ⟨11, 48, (.struct [(0, 12), (1, 12), (2, 114), (3, 157), (4, 5), (5, 5), (6, 158), (7, 159), (8, 160), (9, 161), (10, 162)]), (.agg [(.int .u64 0), (.int .u64 0), (.int .u32 0), (.int .u8 0), (.int .u8 0), (.int .u8 0), (.int .u8 0), .nilFunc, .nilPtr, (.int .i32 0), (.int .i32 0)])⟩ := by kernel_rfl
theorem ti164 : ti Try.prog 164 = some ⟨11, 48, (.struct [(0, 12), (1, 12), (2, 114), (3, 157), (4, 5), (5, 5), (6, 158), (7, 159), (8, 160), (9, 161), (10, 162)]), (.agg [(.int .u64 0), (.int .u64 0), (.int .u32 0), (.int .u8 0), (.int .u8 0), (.int .u8 0), (.int .u8 0), .nilFunc, .nilPtr, (.int .i32 0), (.int .i32 0)])⟩ := by kernel_rfl
theorem ti165 : ti Try.prog 165 = some ⟨1, 8, .other, .nilPtr⟩ := by kernel_rfl
attribute [go_sem] ti0 ti1 ti2 ti3 ti4 ti5 ti6 ti7 ti8 ti9 ti10 ti11 ti12 ti13 ti14 ti15 ti16 ti17 ti18 ti19 ti20 ti21 ti22 ti23 ti24 ti25 ti26 ti27 ti28 ti29 ti30 ti31 ti32 ti33 ti34 ti35 ti36 ti37 ti38 ti39 ti40 ti41 ti42 ti43 ti44 ti45 ti46 ti47 ti48 ti49 ti50 ti51 ti52 ti53 ti54 ti55 ti56 ti57 ti58 ti59 ti60 ti61 ti62 ti63 ti64 ti65 ti66 ti67 ti68 ti69 ti70 ti71 ti72 ti73 ti74 ti75 ti76 ti77 ti78 ti79 ti80 ti81 ti82 ti83 ti84 ti85 ti86 ti87 ti88 ti89 ti90 ti91 ti92 ti93 ti94 ti95 ti96 ti97 ti98 ti99 ti100 ti101 ti102 ti103 ti104 ti105 ti106 ti107 ti108 ti109 ti110 ti111 ti112 ti113 ti114 ti115 ti116 ti117 ti118 ti119 ti120 ti121 ti122 ti123 ti124 ti125 ti126 ti127 ti128 ti129 ti130 ti131 ti132 ti133 ti134 ti135 ti136 ti137 ti138 ti139 ti140 ti141 ti142 ti143 ti144 ti145 ti146 ti147 ti148 ti149 ti150 ti151 ti152 ti153 ti154 ti155 ti156 ti157 ti158 ti159 ti160 ti161 ti162 ti163 ti164 ti165
end Go.Proofs.Ytpncgjcflkhemab
namespace Clk
open Go Go.Proofs Go.Shelf Go.Sort Go.RowKit Go.Lib
def cmpI (x y : Int) : Int := if x < y then -1 else if y < x then 1 else 0
def orI (x y : Int) : Int := if x = 0 then y else x
def cfK {α : Type} (key : α -> Int × Int) (x y : α) : Int := orI (cmpI (key x).1 (key y).1) (cmpI (key x).2 (key y).2)
theorem zup {α : Type} (key : α -> Int × Int) (x y : α) : ltOf (cfK key) x y = true ↔ ((key x).1 < (key y).1 \/ ((key x).1 = (key y).1 /\ (key x).2 < (key y).2)) := by
 unfold ltOf cfK orI cmpI; rw [decide_eq_true_iff]; repeat' split
 all_goals (constructor <;> intro h <;> omega)
theorem zjw {α : Type} (key : α -> Int × Int) (x y : α) : ltOf (cfK key) x y = false ↔ ¬ ((key x).1 < (key y).1 \/ ((key x).1 = (key y).1 /\ (key x).2 < (key y).2)) := by
 rw [<- zup]; simp
theorem zuq {α : Type} (key : α -> Int × Int) : SWO (ltOf (cfK key)) where
 irrefl x := by rw [zjw]; omega
 trans x y z h1 h2 := by rw [zup] at *; omega
 ntrans x y z h1 h2 := by rw [zjw] at *; omega
theorem zxj {α : Type} (key : α -> Int × Int) (hd : ∀ x y, key x = key y -> x = y) (x y : α) (h1 : ltOf (cfK key) x y = false) (h2 : ltOf (cfK key) y x = false) : x = y := by
 rw [zjw] at *; exact hd x y (Prod.ext (by omega) (by omega))
theorem zwr {α : Type} (key : α -> Int × Int) (x y : α) : ltOf (cfK key) x y = aheadK (some (key x)) (some (key y)) := by
 rw [Bool.eq_iff_iff, zup]; simp [aheadK]
def insL {α : Type} (lt : α -> α -> Bool) : List α -> α -> List α
 | [], r => [r]
 | x :: l, r => if lt r x then r :: x :: l else x :: insL lt l r
theorem zge {α : Type} (lt : α -> α -> Bool) : ∀ (l : List α) (r : α), (insL lt l r).Perm (r :: l)
 | [], r => List.Perm.refl _
 | x :: l, r => by
   rw [insL]; split
   · exact List.Perm.refl _
   · exact ((zge lt l r).cons x).trans (List.Perm.swap r x l)
theorem zgf {α : Type} {lt : α -> α -> Bool} (hS : SWO lt) : ∀ (l : List α) (r : α), l.Pairwise (fun x y => lt y x = false) -> (insL lt l r).Pairwise (fun x y => lt y x = false)
 | [], r, _ => by simp [insL]
 | x :: l, r, h => by
   rw [List.pairwise_cons] at h; rw [insL]; split
   · rename_i hlt; refine List.pairwise_cons.2 ⟨fun y hy => ?_, List.pairwise_cons.2 h⟩; rcases List.mem_cons.1 hy with rfl | hy
     · cases hc : lt y r with
       | false => rfl
       | true => have := hS.trans _ _ _ hc hlt; rw [hS.irrefl] at this; cases this
     · cases hc : lt y r with
       | false => rfl
       | true => have := hS.trans _ _ _ hc hlt; rw [h.1 y hy] at this; cases this
   · rename_i hlt; refine List.pairwise_cons.2 ⟨fun y hy => ?_, zgf hS l r h.2⟩; rcases List.mem_cons.1 ((zge lt l r).mem_iff.1 hy) with rfl | hy
     · simpa using hlt
     · exact h.1 y hy
theorem zcx {α : Type} {lt : α -> α -> Bool} (hS : SWO lt) : ∀ (l acc : List α), acc.Pairwise (fun x y => lt y x = false) -> (l.foldl (insL lt) acc).Pairwise (fun x y => lt y x = false) /\ (l.foldl (insL lt) acc).Perm (l ++ acc)
 | [], acc, h => ⟨h, List.Perm.refl _⟩
 | x :: l, acc, h => by
   obtain ⟨h1, h2⟩ := zcx hS l (insL lt acc x) (zgf hS acc x h); refine ⟨h1, h2.trans ?_⟩; exact ((zge lt acc x).append_left l).trans List.perm_middle
theorem zz6 {α : Type} [Inhabited α] {lt : α -> α -> Bool} (hS : SWO lt) (hT : ∀ x y, lt x y = false -> lt y x = false -> x = y) (d : Array α) : d.toList.mergeSort (fun x y => !lt y x) = d.toList.foldl (insL lt) [] := by
 obtain ⟨h1, h2⟩ := zcx hS d.toList [] .nil; rw [List.append_nil] at h2; refine List.Perm.eq_of_pairwise (le := fun x y => (!lt y x) = true) ?_ ?_ ?_ ((List.mergeSort_perm _ _).trans h2.symm)
 · intro a b _ _ h3 h4; exact hT a b (by simpa using h4) (by simpa using h3)
 · refine List.pairwise_mergeSort ?_ ?_ _
   · intro a b c h3 h4; simp only [Bool.not_eq_true'] at *; exact hS.ntrans _ _ _ h4 h3
   · intro a b; cases hc : lt b a with
     | false => simp
     | true =>
       cases hc2 : lt a b with
       | false => simp
       | true => have := hS.trans _ _ _ hc hc2; rw [hS.irrefl] at this; cases this
 · exact h1.imp fun h => by simp [h]
end Clk
namespace Clk
open Go Go.Proofs Go.Shelf Go.Sort Go.RowKit Go.Lib
theorem zz7 {w : World} {N : Nat -> Prop} {β : z0a} {f : FuncId} {u : Value} (h : Rel w N β (.fn f [] []) u) : u = .func (.func f) #[] #[] := by
 cases h with
 | imm h => cases h with | fn h _ h' _ => simp at h h'; subst h; subst h'; rfl
 | fn h _ h' _ => simp at h h'; subst h; subst h'; rfl
theorem zrg {row : List AV} (h : (rowKey row).isSome = true) : ∃ p k s a b, row = [.int .i64 p, .int .i64 k, .int .i64 s, a, b] /\ rowKey row = some (s, p) := by
 unfold rowKey at h; split at h
 · exact ⟨_, _, _, _, _, rfl, rfl⟩
 · cases h
theorem zm6 : ∀ {l : List (List AV)}, distA l = true -> (∀ (i : Nat) row, l[i]? = some row -> (rowKey row).isSome = true /\ row.all AV.leaf = true) /\ ∀ (i j : Nat) r s, l[i]? = some r -> l[j]? = some s -> rowKey r = rowKey s -> i = j
 | [], _ => ⟨fun i row h => by simp at h, fun i j r s h => by simp at h⟩
 | x :: l, h => by
   simp only [distA, Bool.and_eq_true] at h; obtain ⟨h1, h2⟩ := zm6 h.2; have hne : ∀ y ∈ l, rowKey x ≠ rowKey y := fun y hy e => by
    have := List.all_eq_true.1 h.1.2 y hy; simp [e] at this
   refine ⟨fun i row hi => ?_, fun i j r s hi hj e => ?_⟩
   · cases i with
     | zero => simp at hi; subst hi; exact h.1.1
     | succ i => exact h1 i row (by simpa using hi)
   · cases i with
     | zero =>
       cases j with
       | zero => rfl
       | succ j =>
         simp at hi hj; subst hi; exact absurd e (hne s (List.mem_of_getElem? hj))
     | succ i =>
       cases j with
       | zero =>
         simp at hi hj; subst hj; exact absurd e.symm (hne r (List.mem_of_getElem? hi))
       | succ j =>
         rw [h2 i j r s (by simpa using hi) (by simpa using hj) e]
theorem zhe (w : World) (blk : Nat) (f : Array Value -> Array Value) : (mapBlock w blk f).heap.size = w.heap.size := by simp [mapBlock]
theorem zo2 {w : World} {blk : Nat} {f : Array Value -> Array Value} {c : Array Value} {e : TypeId} {fr : Nat × Nat} (h : w.heap[blk]? = some (.cells c e fr)) : (mapBlock w blk f).heap[blk]? = some (.cells (f c) e fr) := by
 show (w.heap.modify blk (onCells f))[blk]? = _; rw [Array.getElem?_modify, if_pos rfl, h]; rfl
theorem zo3 {w : World} {blk r : Nat} {f : Array Value -> Array Value} (h : r ≠ blk) : (mapBlock w blk f).heap[r]? = w.heap[r]? := by
 show (w.heap.modify blk (onCells f))[r]? = _; rw [Array.getElem?_modify, if_neg fun e => h e.symm]
structure SortAt (P : Program) (f g : Nat) : Prop where
 none : ∀ (p : Option Addr) (cap : Nat) (fv : Value) (w : World), Calls P f #[.slice p 0 cap, fv] w fun e w' => e = .returned (.tuple #[]) /\ w' = w
 sort : ∀ (m : Nat) (enc : Fin (m + 1) -> List Value), (∀ x, (enc x).length = 5) -> (∀ x, ∀ v ∈ enc x, v.oneCell' = true) -> ∀ (cf : Fin (m + 1) -> Fin (m + 1) -> Int), SWO (ltOf cf) -> ∀ (blk off cap : Nat) (d : Array (Fin (m + 1))) (w : World),
  CmpLays P g #[] enc 5 cf blk off d.size w -> HoldsK enc 5 w blk off d -> blk < w.heap.size -> d.size < 4611686018427387904 -> (∀ x y, (ltOf cf) x y = false -> (ltOf cf) y x = false -> x = y) ->
  Calls P f #[.slice (some ⟨blk, off, .none⟩) d.size cap, .func (.func g) #[] #[]] w fun e w' => e = .returned (.tuple #[]) /\ ∃ n os, w' = sortWorldK enc 5 w blk off n (d.toList.mergeSort fun x y => !(ltOf cf) y x).toArray os
 cmp : ∀ (p k s : Int) (u v : Value) (p' k' s' : Int) (u' v' : Value), u.oneCell' = true -> v.oneCell' = true -> u'.oneCell' = true -> v'.oneCell' = true -> ∀ W : World,
  Calls P g #[.agg #[.int .i64 p, .int .i64 k, .int .i64 s, u, v], .agg #[.int .i64 p', .int .i64 k', .int .i64 s', u', v']] W fun e w' => e = .returned (.int .i64 (orI (cmpI s s') (cmpI p p'))) /\ ∃ q os', w' = grow (W.drewN q) os'
theorem zur {P : Program} {f g : Nat} (S : SortAt P f g) : ∀ args H v ch, sortA g H.length args H = some (v, ch) -> ∀ (w : World) (X : Nat -> Prop) (β : z0a) (vs : Array Value), HRel w X β H -> ARel w (NN X β H) β args vs -> CallsIn (WF none) 0 P f vs w (Ends w X β H v (zd H ch)) := by
 intro args H v ch h w X β vs hr ha; have stay : ∀ (p : Option Addr) (cap : Nat) (fv : Value), CallsIn (WF none) 0 P f #[.slice p 0 cap, fv] w (Ends w X β H (.tup []) H) := fun p cap fv =>
  callsIn_wide.2 ((S.none p cap fv w).mono fun e w' ⟨h1, h2⟩ => by
   subst h2; exact ⟨.tuple #[], β, h1, Post.refl hr, .imm (.tup rfl fun i a v h => by simp at h)⟩)
 unfold sortA at h; split at h
 · rename_i x f'; split at h
   · rename_i hf; subst hf; obtain ⟨hs, hc⟩ := ha; obtain ⟨u0, u1, rfl⟩ : ∃ u0 u1, vs = #[u0, u1] := by
      obtain ⟨l⟩ := vs; match l, hs with
      | [a, b], _ => exact ⟨a, b, rfl⟩
     have r0 := hc 0 x u0 rfl rfl; have r1 := zz7 (hc 1 _ u1 rfl rfl); subst r1; split at h
     · cases h; cases r0 with | imm r0 => cases r0 with
        | crows hk ha' hu hr' => exact stay _ _ _
     · rename_i b vv n; split at h
       · rename_i k v' rows hH; split at h
         · rename_i hcond; obtain ⟨rfl, rfl, rfl, hdist, hlen⟩ := hcond; cases h; cases r0 with
           | imm r0 => cases r0
           | @ref _ _ _ _ c bi a hb hv hc' hcur =>
             have hbl : b < H.length := by
              rcases Nat.lt_or_ge b H.length with h | h
              · exact h
              · rw [zI, List.getElem?_eq_none h] at hH; cases hH
             have hob := hr.obj b bi hb; rw [hH] at hob; obtain ⟨hbk, hbv, _, _, cs, T, hcs, hfit, hrow, hcell⟩ := hob; cases hn : rows.length with
             | zero =>
               have hnil : rows = [] := List.eq_nil_of_length_eq_zero hn; subst hnil; have : zd H (some (b, .blk 5 vv true (List.foldl insA [] []))) = H := by
                show (if b < H.length then H.set b _ else _) = H; rw [if_pos hbl]; exact zox hH
               rw [this]; exact stay _ _ _
             | succ m =>
               obtain ⟨ha0, _⟩ := hcur hbv.symm; have ha1 := ha0 (by omega); rw [Nat.zero_mul] at ha1; subst ha1; obtain ⟨d1, d2⟩ := zm6 hdist; let row := fun i : Fin (m + 1) => rows.getD i.val []
               have hrowi : ∀ i : Fin (m + 1), rows[i.val]? = some (row i) := fun i => by
                have : i.val < rows.length := by rw [hn]; exact i.isLt
                simp only [row, zI, zH this]; rfl
               let enc := fun i : Fin (m + 1) => (List.range 5).map fun j => cs[i.val * 5 + j]!
               let key := fun i : Fin (m + 1) => (rowKey (row i)).getD (0, 0)
               have hin : ∀ (i : Fin (m + 1)) j, j < 5 -> cs[i.val * 5 + j]? = some cs[i.val * 5 + j]! := fun i j hj => by
                have hlt : i.val * 5 + j < cs.size := by have := i.isLt; rw [hn] at hfit; omega
                rw [Array.getElem?_eq_getElem hlt, getElem!_pos cs _ hlt]
               have hkey : ∀ i : Fin (m + 1), rowKey (row i) = some (key i) := fun i => by
                have := (d1 i.val (row i) (hrowi i)).1; obtain ⟨x, hx⟩ := Option.isSome_iff_exists.1 this; simp only [key, hx]; rfl
               have hinv : ∀ i : Fin (m + 1), ∃ k a b, row i = [.int .i64 (key i).2, .int .i64 k, .int .i64 (key i).1, a, b] := fun i => by
                obtain ⟨p, k, s, a, b, e1, e2⟩ := zrg (d1 i.val (row i) (hrowi i)).1; rw [hkey i] at e2; injection e2 with e2
                exact ⟨k, a, b, by rw [e1, e2]⟩
               have hrel : ∀ (i : Fin (m + 1)) j x, (row i)[j]? = some x -> Rel w (NN X β H) β x cs[i.val * 5 + j]! := fun i j x hx => by
                have hj : j < 5 := by have := (zG.1 hx).1; rw [hrow _ _ (hrowi i)] at this; exact this
                exact hcell i.val (row i) j x _ (hrowi i) hx (hin i j hj)
               have hone : ∀ (i : Fin (m + 1)) j, j < 5 -> (cs[i.val * 5 + j]!).oneCell' = true := fun i j hj => by
                have hl := hrow _ _ (hrowi i); have hx := zH (show j < (row i).length by rw [hl]; exact hj); exact (z4w (hrel i j _ hx) (List.all_eq_true.1 (d1 i.val (row i) (hrowi i)).2 _ (List.getElem_mem _))).1
               have henc : ∀ i : Fin (m + 1), ∃ k, enc i = [.int .i64 (key i).2, .int .i64 k, .int .i64 (key i).1, cs[i.val * 5 + 3]!, cs[i.val * 5 + 4]!] := fun i => by
                obtain ⟨k, a, b, e⟩ := hinv i; refine ⟨k, ?_⟩; have e0 := z08 (hrel i 0 _ (by rw [e]; rfl)); have e1 := z08 (hrel i 1 _ (by rw [e]; rfl)); have e2 := z08 (hrel i 2 _ (by rw [e]; rfl)); show [cs[i.val * 5 + 0]!, cs[i.val * 5 + 1]!, cs[i.val * 5 + 2]!, cs[i.val * 5 + 3]!, cs[i.val * 5 + 4]!] = _; rw [e0, e1, e2]
               have hdk : ∀ x y : Fin (m + 1), key x = key y -> x = y := fun x y e => Fin.ext (d2 x.val y.val _ _ (hrowi x) (hrowi y) (by rw [hkey, hkey, e]))
               let d : Array (Fin (m + 1)) := Array.ofFn fun i => i
               have hds : d.size = m + 1 := by simp [d]
               have hblk : bi.r < w.heap.size := (Array.getElem?_eq_some_iff.1 hcs).1; have hH5 : HoldsK enc 5 w bi.r 0 d := by
                intro j hj; have hj' : j < (m + 1) * 5 := by simpa [hds] using hj
                have hjd : j / 5 < m + 1 := by omega
                have hlt : j < cs.size := by rw [hn] at hfit; omega
                have hjm : j % 5 < 5 := Nat.mod_lt _ (by omega); have e5 : (flatK enc 5 d)[j]! = cs[j]! := by
                 rw [get_flatK enc 5 d j (by rw [hds]; exact hj')]; have : d[j / 5]! = (⟨j / 5, hjd⟩ : Fin (m + 1)) := by
                  rw [getElem!_pos d _ (by rw [hds]; exact hjd)]; simp [d]
                 rw [this]; show ((List.range 5).map fun q => cs[j / 5 * 5 + q]!)[j % 5]! = _; rw [getElem!_pos _ _ (by simpa using hjm)]; simp only [List.getElem_map, List.getElem_range]; rw [show j / 5 * 5 + j % 5 = j by omega]
                rw [e5, Nat.zero_add]; refine ⟨?_, ?_⟩
                · unfold World.cell?; rw [hcs]; show cs[j]? = _; rw [Array.getElem?_eq_getElem hlt, getElem!_pos cs _ hlt]; rfl
                · unfold World.frozen?; rw [hcs]; simp
               have hcmp : CmpLays P f' #[] enc 5 (cfK key) bi.r 0 d.size w := fun mm os dk hsz x y => by
                obtain ⟨k, ex⟩ := henc x; obtain ⟨k', ey⟩ := henc y; have := S.cmp (key x).2 k (key x).1 _ _ (key y).2 k' (key y).1 _ _ (hone x 3 (by omega)) (hone x 4 (by omega)) (hone y 3 (by omega)) (hone y 4 (by omega)) (sortWorldK enc 5 w bi.r 0 mm dk os); rw [ex, ey]; exact this
               have call := S.sort m enc (fun x => by simp [enc]) (fun x v hv => by
                obtain ⟨j, hj, rfl⟩ := List.mem_map.1 hv; exact hone x j (List.mem_range.1 hj)) (cfK key) (zuq key) bi.r 0 c d w hcmp hH5 hblk (by rw [hds]; omega) (zxj key hdk)
               rw [hds] at call; refine callsIn_wide.2 (call.mono fun e w' ⟨he, q, os, hw⟩ => ?_); rw [zz6 (zuq key) (zxj key hdk)] at hw; generalize hl : d.toList.foldl (insL (ltOf (cfK key))) [] = l at hw; have hlp : l.Perm d.toList := by
                have := (zcx (zuq key) d.toList [] .nil).2; rw [List.append_nil, hl] at this; exact this
               have hll : l.length = m + 1 := by rw [hlp.length_eq]; simp [d]
               have hrows : rows.foldl insA [] = l.map row := by
                have h1 : rows = d.toList.map row := by
                 apply List.ext_getElem?
                 intro i; simp only [d, Array.toList_ofFn, List.getElem?_map, List.getElem?_ofFn]; by_cases hi : i < m + 1
                 · rw [dif_pos hi]; exact hrowi ⟨i, hi⟩
                 · rw [dif_neg hi, List.getElem?_eq_none (by omega)]; rfl
                have h2 : ∀ (a b : List (Fin (m + 1))), (a.map row).foldl insA (b.map row) = (a.foldl (insL (ltOf (cfK key))) b).map row := by
                 intro a; induction a with
                 | nil => intro b; rfl
                 | cons x a ih =>
                   intro b; rw [List.map_cons, List.foldl_cons, List.foldl_cons, <- ih]; congr 1
                   exact (zpc (f := row) (ins := insL (ltOf (cfK key))) (ah := ltOf (cfK key)) (fun _ => rfl) (fun _ _ _ => rfl) (fun a b => by rw [zwr, hkey, hkey]) b x).symm
                rw [<- hl]; have := h2 d.toList []; rw [<- h1] at this; exact this
               have hat : (Sort.ahead w q).heap[bi.r]? = some (.cells cs T (0, 0)) := hcs; let cs' := putCells id 0 (flatK enc 5 l.toArray) cs
               have hget : ∀ (i j : Nat) (x : Fin (m + 1)), l[i]? = some x -> j < 5 -> cs'[i * 5 + j]? = some cs[x.val * 5 + j]! := fun i j x hx hj => by
                have hi : i < m + 1 := by have := (zG.1 hx).1; omega
                have hlt : i * 5 + j < cs.size := by rw [hn] at hfit; omega
                have hlt2 : i * 5 + j < (m + 1) * 5 := by omega
                simp only [cs', putCells, Array.getElem?_mapIdx, Array.getElem?_eq_getElem hlt, Option.map_some, size_flatK, List.size_toArray, hll]; rw [if_pos ⟨Nat.zero_le _, by omega⟩, Nat.sub_zero, get_flatK enc 5 l.toArray _ (by simpa [hll] using hlt2), show (i * 5 + j) / 5 = i by omega, show (i * 5 + j) % 5 = j by omega]; have : l.toArray[i]! = x := by
                 have hil : i < l.toArray.size := by simpa [hll] using hi
                 rw [getElem!_pos l.toArray i hil]; have h9 := (zG.1 hx).2; simpa using h9
                rw [this]; show some (((List.range 5).map fun q => cs[x.val * 5 + q]!)[j]!) = _; rw [getElem!_pos ((List.range 5).map fun q => cs[x.val * 5 + q]!) j (by simpa using hj)]; simp
               have wr := hr.write (w' := putRowK enc 5 (Sort.ahead w q) bi.r 0 l.toArray) (rows' := rows.foldl insA []) (cs' := cs') hb hH rfl rfl rfl (zhe _ _ _) hcs (zo2 hat) (fun r hne => zo3 hne) (by simp [cs', putCells]) (by rw [hrows]; simp [hll]; rw [hn] at hfit; omega)
                (fun i rw' hi => by
                  rw [hrows, List.getElem?_map, Option.map_eq_some_iff] at hi; obtain ⟨x, hx, rfl⟩ := hi; exact hrow _ _ (hrowi x))
                (fun i rw' j y u hi hj hu => by
                  rw [hrows, List.getElem?_map, Option.map_eq_some_iff] at hi; obtain ⟨x, hx, rfl⟩ := hi; have hj5 : j < 5 := by have := (zG.1 hj).1; rw [hrow _ _ (hrowi x)] at this; exact this
                  rw [hget i j x hx hj5] at hu; cases hu; exact hrel x j y hj)
               obtain ⟨wr1, wr2⟩ := wr; obtain ⟨g1, g2⟩ := wr1.ext (w' := w') (by rw [hw]; show _ <= (_ ++ os).size; rw [Array.size_append]; exact Nat.le_add_right _ _) (fun r hlt => by
                rw [hw]; show ((putRowK enc 5 (Sort.ahead w q) bi.r 0 l.toArray).heap ++ os)[r]? = _; rw [Array.getElem?_append_left hlt]) (by rw [hw]; rfl) (by rw [hw]; rfl) (by rw [hw]; rfl)
               have hap : zd H (some (b, .blk 5 vv true (rows.foldl insA []))) = H.set b (.blk 5 vv true (rows.foldl insA [])) := by
                show (if b < H.length then H.set b _ else _) = _; rw [if_pos hbl]
               rw [hap]; exact ⟨.tuple #[], β, he, ⟨g1, wr2.trans g2, fun _ _ h => h, by simp⟩, .imm (.tup rfl fun i a v h => by simp at h)⟩
         · cases h
       · cases h
     · cases h
   · cases h
 · cases h
end Clk
namespace Go.Proofs
open Go.Shelf
def Try.sortL_ren : Go.Shelf.Ren := ⟨fun | 6 => 37 | 15 => 48 | 14 => 47 | 28 => 61 | 29 => 62 | 20 => 53 | 21 => 54 | 22 => 55 | 23 => 56 | 24 => 57 | 25 => 58 | 26 => 59 | 27 => 60 | 46 => 72 | 47 => 73 | 48 => 74 | 49 => 75 | 50 => 76 | 57 => 81 | n => n, fun | 22 => 67 | 24 => 72 | 25 => 90 | 3 => 3 | 39 => 100 | 0 => 0 | 53 => 114 | 55 => 116 | 4 => 4 | 46 => 108 | 45 => 107 | 50 => 93 | 5 => 5 | 9 => 9 | 66 => 133 | 70 => 137 | 76 => 143 | 77 => 144 | n => n, fun | n => n⟩
theorem Try.sortL : Go.Proofs.SlLaysF0.n6 Try.prog Try.sortL_ren := {
 mixed := by kernel_rfl
 f6 := ⟨Try.f37.name, by decide, Try.func37.trans (congrArg some (by kernel_rfl))⟩
 f14 := ⟨Try.f47.name, by decide, Try.func47.trans (congrArg some (by kernel_rfl))⟩
 f15 := Try.func48.trans (congrArg some (by kernel_rfl))
 f20 := ⟨Try.f53.name, by decide, Try.func53.trans (congrArg some (by kernel_rfl))⟩
 f21 := ⟨Try.f54.name, by decide, Try.func54.trans (congrArg some (by kernel_rfl))⟩
 f22 := ⟨Try.f55.name, by decide, Try.func55.trans (congrArg some (by kernel_rfl))⟩
 f23 := ⟨Try.f56.name, by decide, Try.func56.trans (congrArg some (by kernel_rfl))⟩
 f24 := ⟨Try.f57.name, by decide, Try.func57.trans (congrArg some (by kernel_rfl))⟩
 f25 := ⟨Try.f58.name, by decide, Try.func58.trans (congrArg some (by kernel_rfl))⟩
 f26 := ⟨Try.f59.name, by decide, Try.func59.trans (congrArg some (by kernel_rfl))⟩
 f27 := ⟨Try.f60.name, by decide, Try.func60.trans (congrArg some (by kernel_rfl))⟩
 f28 := Try.func61.trans (congrArg some (by kernel_rfl))
 f29 := Try.func62.trans (congrArg some (by kernel_rfl))
 f46 := ⟨Try.f72.name, by decide, Try.func72.trans (congrArg some (by kernel_rfl))⟩
 f47 := Try.func73.trans (congrArg some (by kernel_rfl))
 f48 := Try.func74.trans (congrArg some (by kernel_rfl))
 f49 := ⟨Try.f75.name, by decide, Try.func75.trans (congrArg some (by kernel_rfl))⟩
 f50 := ⟨Try.f76.name, by decide, Try.func76.trans (congrArg some (by kernel_rfl))⟩
 f57 := ⟨Try.f81.name, by decide, Try.func81.trans (congrArg some (by kernel_rfl))⟩
 t0 := Try.underlying0
 a0 := Try.isAgg0
 z0 := Try.sizeOf0
 v0 := Try.zeroValue0
 t3 := Try.underlying3
 a3 := Try.isAgg3
 z3 := Try.sizeOf3
 v3 := Try.zeroValue3
 t4 := Try.underlying4
 a4 := Try.isAgg4
 z4 := Try.sizeOf4
 v4 := Try.zeroValue4
 t5 := Try.underlying5
 a5 := Try.isAgg5
 z5 := Try.sizeOf5
 v5 := Try.zeroValue5
 t9 := Try.underlying9
 a9 := Try.isAgg9
 z9 := Try.sizeOf9
 v9 := Try.zeroValue9
 t22 := Try.underlying67
 a22 := Try.isAgg67
 z22 := Try.sizeOf67
 v22 := Try.zeroValue67
 t25 := Try.underlying90
 a25 := Try.isAgg90
 z25 := Try.sizeOf90
 v25 := Try.zeroValue90
 t39 := Try.underlying100
 a39 := Try.isAgg100
 z39 := Try.sizeOf100
 v39 := Try.zeroValue100
 t45 := Try.underlying107
 a45 := Try.isAgg107
 z45 := Try.sizeOf107
 v45 := Try.zeroValue107
 t46 := Try.underlying108
 a46 := Try.isAgg108
 z46 := Try.sizeOf108
 v46 := Try.zeroValue108
 t50 := Try.underlying93
 a50 := Try.isAgg93
 z50 := Try.sizeOf93
 v50 := Try.zeroValue93
 t53 := Try.underlying114
 a53 := Try.isAgg114
 z53 := Try.sizeOf114
 v53 := Try.zeroValue114
 t55 := Try.underlying116
 a55 := Try.isAgg116
 z55 := Try.sizeOf116
 v55 := Try.zeroValue116
 t66 := Try.underlying133
 a66 := Try.isAgg133
 z66 := Try.sizeOf133
 v66 := Try.zeroValue133
 t70 := Try.underlying137
 a70 := Try.isAgg137
 z70 := Try.sizeOf137
 v70 := Try.zeroValue137
 t76 := Try.underlying143
 a76 := Try.isAgg143
 z76 := Try.sizeOf143
 v76 := Try.zeroValue143
 t77 := Try.underlying144
 a77 := Try.isAgg144
 z77 := Try.sizeOf144
 v77 := Try.zeroValue144 }
end Go.Proofs
namespace Go.Proofs.Ytpncgjcflkhemab
open Clk Go Go.Proofs Go.Shelf Go.RowKit Go.Lib Go.Sort
theorem nan49 (x : Int) (W : World) : Calls Try.prog 49 #[.int .i64 x] W fun e w' => e = .returned (.bool false) /\ w' = W := by
 go_enter Try.func49, Try.ntmps49
 go_wp2
 go_ret
 simp
set_option maxHeartbeats 1000000 in
theorem cmp40 (x y : Int) (W : World) : Calls Try.prog 40 #[.int .i64 x, .int .i64 y] W fun e w' => e = .returned (.int .i64 (cmpI x y)) /\ w' = W := by
 have hn := nan49; unfold cmpI; go_enter Try.func40, Try.ntmps40
 go_wp2_with (go_at_call 49; refine (hn _ _).mono ?_; rintro e w' ⟨rfl, rfl⟩)
 all_goals go_ret
 all_goals refine ⟨?_, rfl⟩
 all_goals first
  | rfl
  | rw [if_pos (by assumption)]
  | rw [if_neg (by omega), if_pos (by assumption)]
  | rw [if_neg (by omega), if_neg (by omega)]
set_option maxHeartbeats 2000000 in
theorem or39 (b o c : Nat) (x y : Int) (W : World) (h0 : W.cell? ⟨b, o, none⟩ = some (.int .i64 x)) (h1 : W.cell? ⟨b, o + 1, none⟩ = some (.int .i64 y)) :
 Calls Try.prog 39 #[.slice (some ⟨b, o, none⟩) 2 c] W fun e w' => e = .returned (.int .i64 (orI x y)) /\ w' = W := by
 by_cases hx : x = 0
 · subst hx; have e : orI 0 y = y := rfl; rw [e]; go_enter Try.func39, Try.ntmps39
   go_wp2
   refine wp_loop_rounds 3 ?_; rw [rounds_succ]; go_wp2
   all_goals rw [rounds_succ]
   go_wp2
   all_goals try (go_ret; exact ⟨rfl, rfl⟩)
   rename_i hy; have hy : y = 0 := by simpa using hy
   subst hy; rw [rounds_succ]; go_wp2
   go_ret
   exact ⟨rfl, rfl⟩
 · have e : orI x y = x := if_neg hx; rw [e]; have hx2 : (x != 0) = true := by simpa using hx
   go_enter Try.func39, Try.ntmps39
   go_wp2
   refine wp_loop_rounds 3 ?_; rw [rounds_succ]; go_wp2
   all_goals try (go_ret; exact ⟨rfl, rfl⟩)
theorem zim {W W3 : World} {o1 o2 : Obj} {c1 : Array Value} {t1 : TypeId} {fz : Nat × Nat} (h : W3.heap = (W.heap.push o1).push o2) (e : o1 = .cells c1 t1 fz) (i : Nat) : W3.cell? ⟨W.heap.size, i, none⟩ = c1[i]? := by
 subst e; have : W3.heap[W.heap.size]? = some (.cells c1 t1 fz) := by rw [h, Array.getElem?_push, if_neg (by simp), Array.getElem?_push, if_pos rfl]
 unfold World.cell?; rw [this]; rfl
theorem zin {W W3 : World} {o1 o2 : Obj} {c1 : Array Value} {t1 : TypeId} {fz : Nat × Nat} (h : W3.heap = (W.heap.push o1).push o2) (e : o2 = .cells c1 t1 fz) (i : Nat) : W3.cell? ⟨W.heap.size + 1, i, none⟩ = c1[i]? := by
 subst e; have : W3.heap[W.heap.size + 1]? = some (.cells c1 t1 fz) := by rw [h, Array.getElem?_push, if_pos (by simp)]
 unfold World.cell?; rw [this]; rfl
theorem or39n (x y : Int) (W : World) : Calls Try.prog 39 #[.slice (some ⟨W.heap.size, 0, none⟩) 2 2] (W.alloc (.cells #[.int .i64 x, .int .i64 y] 3)) fun e w' => e = .returned (.int .i64 (orI x y)) /\ w' = W.alloc (.cells #[.int .i64 x, .int .i64 y] 3) := by
 have h : (W.alloc (.cells #[.int .i64 x, .int .i64 y] 3)).heap[W.heap.size]? = some (.cells #[.int .i64 x, .int .i64 y] 3) := by
  show (W.heap.push _)[W.heap.size]? = _; rw [Array.getElem?_push, if_pos rfl]
 exact or39 W.heap.size 0 2 x y _ (by unfold World.cell?; rw [h]; rfl) (by unfold World.cell?; rw [h]; rfl)
set_option maxHeartbeats 4000000 in
theorem cmp38 (p k s : Int) (u v : Value) (p' k' s' : Int) (u' v' : Value) (hu : u.oneCell' = true) (hv : v.oneCell' = true) (hu' : u'.oneCell' = true) (hv' : v'.oneCell' = true) (W : World) :
 Calls Try.prog 38 #[.agg #[.int .i64 p, .int .i64 k, .int .i64 s, u, v], .agg #[.int .i64 p', .int .i64 k', .int .i64 s', u', v']] W fun e w' => e = .returned (.int .i64 (orI (cmpI s s') (cmpI p p'))) /\ ∃ q os', w' = grow (W.drewN q) os' := by
 have hc := cmp40; have ho := or39n; go_enter Try.func38, Try.ntmps38
 go_wp2
 refine wp_region_still_tail 12 (by kernel_rfl) (by kernel_rfl) ?_; simp only [List.take_succ_cons, List.take_zero, List.drop_succ_cons, List.drop_zero]; generalize hW3 : ({ (W.alloc _).alloc _ with drawn := _ } : World) = W3; have hh : W3.heap = (W.heap.push (.cells #[.int .i64 p, .int .i64 k, .int .i64 s, u, v] 72)).push (.cells #[.int .i64 p', .int .i64 k', .int .i64 s', u', v'] 72) := by rw [<- hW3]; rfl
 have hq : W3 = grow (W.drewN 1) #[.cells #[.int .i64 p, .int .i64 k, .int .i64 s, u, v] 72, .cells #[.int .i64 p', .int .i64 k', .int .i64 s', u', v'] 72] := by rw [<- hW3]; rfl
 have f1 : W3.cell? ⟨W.heap.size, 2, none⟩ = some (.int .i64 s) := zim hh rfl 2; have f2 : W3.cell? ⟨W.heap.size, 0, none⟩ = some (.int .i64 p) := zim hh rfl 0; have f3 : W3.cell? ⟨W.heap.size + 1, 2, none⟩ = some (.int .i64 s') := zin hh rfl 2; have f4 : W3.cell? ⟨W.heap.size + 1, 0, none⟩ = some (.int .i64 p') := zin hh rfl 0; have hg : ∃ os, W3 = grow (W.drewN 1) os := ⟨_, hq⟩; clear hW3 hh hq; repeat still_step
 still_call (hc _ _ _)
 repeat still_step
 still_call (hc _ _ _)
 refine wpStill_nil ?_; go_wp2_with (go_at_call 39; refine (ho _ _ _).mono ?_; rintro e w' ⟨rfl, rfl⟩)
 obtain ⟨os, rfl⟩ := hg; go_ret
 exact ⟨rfl, 1, os ++ #[.cells #[.int .i64 (cmpI s s'), .int .i64 (cmpI p p')] 3], by rw [alloc_eq_grow, grow_grow]⟩
theorem sortAt : SortAt Try.prog 37 38 where
 none p cap fv w := AnyF.slices_SortFunc_none (P := Try.prog) (ρ := Try.sortL_ren) Try.sortL p cap fv w
 sort m enc hk h1 cf hO blk off cap d w hcmp hH hblk hsz hT := AnyQ.slices_SortFunc_total Try.sortL 5 Try.isAgg72 Try.sizeOf72 enc hk h1 cf hO 38 #[] blk off cap d w (enters_of Try.func38 (by kernel_rfl) rfl) hcmp hH hblk hsz hT
 cmp := cmp38
end Go.Proofs.Ytpncgjcflkhemab
namespace Go.Proofs.Ytpncgjcflkhemab
open Go Go.Proofs Clk
theorem zio {H : List AO} {te : TI} {x : AV} {rs : List (List AV)} (h : z09 H x = some rs) : newRows H te x = some rs := by
 cases x <;> first | exact h | (simp [z09] at h)
theorem z67 : Clk.Good Try.prog := ⟨by kernel_rfl, fun f fn h hn => by
 have : Try.prog.funcs.all (fun fn => fn.name != "runtime.NumGoroutine") = true := by kernel_rfl
 rw [Array.all_eq_true] at this; obtain ⟨hi, h'⟩ := Array.getElem?_eq_some_iff.1 h; have := this f hi; rw [h', hn] at this; simp at this⟩
theorem clone42 : ∀ args H v ch, cloneA 1 8 H.length args H = some (v, ch) -> ∀ (w : World) (X : Nat -> Prop) (β : z0a) (vs : Array Value), HRel w X β H -> ARel w (NN X β H) β args vs -> CallsIn (WF none) 0 Try.prog 42 vs w (Clk.Ends w X β H v (zd H ch)) := by
 refine zta z67 Try.func42 (by rfl) (by rfl) (by rfl) (by rfl) (by rfl) (by rfl) (by rfl) (by rfl) (by rfl) Try.underlying26 (fun x H => ⟨20, ?_⟩) (fun x H => ⟨20, ?_⟩) (fun x H v ch h => ?_)
 · simp (config := {dsimp := false}) only [go_sem]
 · simp (config := {dsimp := false}) only [go_sem]
 · unfold cloneA at h; simp only at h; split at h
   · rename_i hrs; cases h; have hnr : ∀ te, newRows H te x = some [] := fun te => zio hrs
     refine ⟨20, ?_⟩; simp (config := {dsimp := false}) only [go_sem, hnr, reduceIte, Nat.reduceEqDiff, reduceCtorEq, Nat.zero_mul, Nat.not_lt_zero, gt_iff_lt, or_self, Nat.zero_le]; refine ⟨_, rfl, ?_⟩; rfl
   · rename_i rs hne hrs; split at h
     · rename_i hc; cases h; simp only [Bool.and_eq_true, decide_eq_true_eq] at hc; have hnr : ∀ te, newRows H te x = some rs := fun te => zio hrs
       have h1 : ¬ (zt < rs.length * 8) := Nat.not_lt.2 hc.1.2; have h2 : ¬ (zt < rs.length) := Nat.not_lt.2 hc.2; have h3 : rs.all (fun r => r.length == 1) = true := hc.1.1; have h4 : rs.length ≠ 0 := fun e => hne (List.eq_nil_of_length_eq_zero e)
       refine ⟨20, ?_⟩; simp (config := {dsimp := false}) only [go_sem, hnr, reduceIte, Nat.reduceEqDiff, reduceCtorEq, gt_iff_lt, h1, h2, h3, h4, or_self, Bool.and_self]; refine ⟨_, rfl, ?_⟩; rfl
     · cases h
   · cases h
def primW : FuncId -> Option (Nat -> List AV -> List AO -> Res) := fun f => if f = 42 then some (cloneA 1 8) else if f = 37 then some (sortA 38) else none
theorem zws : PrimOk Try.prog primW := by
 intro f h e; unfold primW at e; split at e
 · rename_i hf; subst hf; cases e; exact ⟨⟨_, Try.func42, by rfl⟩, clone42⟩
 · split at e
   · rename_i hf; subst hf; cases e; exact ⟨⟨_, Try.func37, by rfl⟩, zur sortAt⟩
   · cases e
end Go.Proofs.Ytpncgjcflkhemab
namespace Go.Proofs.Ytpncgjcflkhemab
open Clk Go.Proofs
theorem zz8 : z3x.prim = primW := by
 funext f
 by_cases h : f < 104
 · have key : (List.range 104).map z3x.prim = (List.range 104).map primW := by kernel_rfl
   have := congrArg (fun l => l[f]?) key; simp only [List.getElem?_map, List.getElem?_range h, Option.map_some] at this; exact Option.some.inj this
 · have h' : 104 <= f := Nat.le_of_not_lt h; have hl : z3x.cl.length = 104 := by kernel_rfl
   have h1 : z3x.cl.length <= f := Nat.le_trans (Nat.le_of_eq hl) h'; have n1 : f ≠ 42 := fun e => absurd (e ▸ h') (by decide)
   have n2 : f ≠ 37 := fun e => absurd (e ▸ h') (by decide)
   unfold Seat.prim primW; rw [zI, List.getElem?_eq_none h1, if_neg n1, if_neg n2]; rfl
theorem zr : PrimOk Try.prog z3x.prim := by rw [zz8]; exact zws
end Go.Proofs.Ytpncgjcflkhemab
namespace Go.Proofs.Ytpncgjcflkhemab
open Clk Go Go.Proofs
theorem zjx {W : World} {b : Nat} {s : ByteArray} {t : TypeId} (h : W.heap[b]? = some (.cells #[.string s] t (0, 0))) : W.cell? ⟨b, 0, none⟩ = some (.string s) /\ W.frozen? ⟨b, 0, none⟩ = false := by
 constructor
 · unfold World.cell?; rw [h]; rfl
 · unfold World.frozen?; rw [h]; simp
set_option maxHeartbeats 1000000 in
theorem zjy {U : Str -> Option (List Int × Str × Int)} (hU : z7q Try.prog 77 U) {s r : Str} {l : List Int} (h : U s = some (l, r, 0)) (b : Nat) (t : TypeId) (w : World) (N : Nat -> Prop) (hN : ∀ x, N x -> x < w.heap.size) (hb : w.heap[b]? = some (.cells #[.string ⟨s.toArray⟩] t (0, 0))) (hNb : N b) :
 Calls Try.prog 66 #[.pointer (some ⟨b, 0, none⟩)] w fun en w' => ∃ v, en = .returned v /\ Gr (fun x => x = b) w w' /\ RelI w' N (eInts l) v /\ w'.heap[b]? = some (.cells #[.string ⟨r.toArray⟩] t (0, 0)) := by
 obtain ⟨c1, c2⟩ := zjx hb; have hc := hU s l r 0 h w N hN; have hbl : b < w.heap.size := (Array.getElem?_eq_some_iff.1 hb).1; go_enter Try.func66, Try.ntmps66
 go_wp2_with (go_at_call 77; refine hc.mono ?_; rintro e w' ⟨v, rfl, hg, hv⟩; obtain ⟨c3, c4⟩ := zjx ((hg.same b hbl id).trans hb))
 go_ret
 have hs := (hg.wider (L' := fun x => x = b) fun _ h => h.elim).trans (Gr.setCell (L := fun x => x = b) w' b 0 (.string ⟨r.toArray⟩) rfl); refine ⟨v, rfl, hs, (Gr.setCell (L := fun x => x = b) w' b 0 (.string ⟨r.toArray⟩) rfl).rel' (fun x e => by subst e; exact hNb) hv, ?_⟩; rw [z2j, if_pos rfl, (hg.same b hbl id).trans hb]; rfl
set_option maxHeartbeats 1000000 in
theorem zpy {U : Str -> Option (List Int × Str × Int)} (hU : z7q Try.prog 77 U) {s r : Str} {l : List Int} {e : Int} (h : U s = some (l, r, e)) (he : e ≠ 0) (b : Nat) (t : TypeId) (w : World) (hb : w.heap[b]? = some (.cells #[.string ⟨s.toArray⟩] t (0, 0))) :
 Calls Try.prog 66 #[.pointer (some ⟨b, 0, none⟩)] w fun en w' => en = .panicked [{ v := .iface 34 (.int .i64 30), recovered := false }] /\ Gr (fun _ => False) w w' := by
 obtain ⟨c1, c2⟩ := zjx hb; have hc := hU s l r e h w (fun _ => False) (fun _ h => h.elim); have hd : (e != 0) = true := by simpa using he
 go_enter Try.func66, Try.ntmps66
 go_wp2_with (go_at_call 77; refine hc.mono ?_; rintro e w' ⟨v, rfl, hg, hv⟩)
 exact ⟨rfl, rfl, hg⟩
set_option maxHeartbeats 2000000 in
theorem zdv (p q : Nat) (pc : Array Value) (qc : Value) (older : List PanicEntry) (w : World) (hp : w.heap[p]? = some (.cells pc 70 (0, 0))) (hps : pc.size = 4) (hq : w.heap[q]? = some (.cells #[qc] 34 (0, 0))) (hpq : p ≠ q) :
 CallsD Try.prog 65 #[.pointer (some ⟨p, 0, none⟩), .pointer (some ⟨q, 0, none⟩)] (.panicking ({ v := .iface 34 (.int .i64 30), recovered := false } :: older)) w fun e u' w' =>
  e = .returned (.tuple #[]) /\ u' = .panicking ({ v := .iface 34 (.int .i64 30), recovered := true } :: older) /\ Gr (fun x => x = p \/ x = q) w w' /\
  w'.heap[p]? = some (.cells #[.int .i64 0, .int .i64 0, .slice none 0 0, .slice none 0 0] 70 (0, 0)) /\ w'.heap[q]? = some (.cells #[.int .i64 30] 34 (0, 0)) := by
 refine callsD_of_wpS Try.func65 rfl fun c₀ cs hu => ?_
 apply wpS_seq
 apply wpS_region
 simp [wpOpsS, go_sem, recoverD, hu, Try.ntmps65, Exit.thenS]; apply wpS_seq
 apply wpS_region
 simp [wpOpsS, go_sem, Exit.thenS]; refine wpS_cond (t := true) (by simp [Act.eval, Array.replicate]) ?_; simp only [if_true]; refine wpS_of_wp ?_; change Code.wp Try.prog _ _ { tmps := #[.pointer (some ⟨p, 0, none⟩), .pointer (some ⟨q, 0, none⟩), undef, undef, .iface 34 (.int .i64 30), .iface 34 (.int .i64 30), .iface 34 (.int .i64 30), .bool true, undef, undef, undef, undef, undef, undef, undef], defers := [] } w
 have hf : ∀ i, w.frozen? ⟨p, i, none⟩ = false := fun i => by unfold World.frozen?; rw [hp]; simp
 have hcl : ∀ i, i < 4 -> ∃ v, w.cell? ⟨p, i, none⟩ = some v := fun i hi => by
  unfold World.cell?; rw [hp]; exact ⟨pc[i]'(by omega), by show pc[i]? = _; rw [Array.getElem?_eq_getElem]⟩
 obtain ⟨p0, c0⟩ := hcl 0 (by omega); obtain ⟨p1, c1⟩ := hcl 1 (by omega); obtain ⟨p2, c2⟩ := hcl 2 (by omega); obtain ⟨p3, c3⟩ := hcl 3 (by omega); have f0 := hf 0; have f1 := hf 1; have f2 := hf 2; have f3 := hf 3; have d0 : w.cell? ⟨q, 0, none⟩ = some qc := by unfold World.cell?; rw [hq]; rfl
 have g0 : w.frozen? ⟨q, 0, none⟩ = false := by unfold World.frozen?; rw [hq]; simp
 have hT : ∀ W : World, (Instr.typeAssert (.iface 34 (.int .i64 30)) 20 34 false).run Try.prog W = .ok (.int .i64 30) W := fun W => by kernel_rfl
 go_region
 cases c₀; simp only [bodyPostS, results, Try.results65]; obtain ⟨s1, s2⟩ := store4 w hp hps (.int .i64 0) (.int .i64 0) (.slice none 0 0) (.slice none 0 0); obtain ⟨s3, s4⟩ := store1 _ ((s1.same q (Array.getElem?_eq_some_iff.1 hq).1 fun e => hpq e.symm).trans hq) (.int .i64 30); refine ⟨trivial, _, rfl, .tuple #[], by simp [go_sem], rfl, rfl, (((s1.wider (L' := fun x => x = p \/ x = q) fun _ h => .inl h).trans (s3.wider fun _ h => .inr h))).drew, ?_, s4⟩; exact (s3.same p (Nat.lt_of_lt_of_le (Array.getElem?_eq_some_iff.1 hp).1 s1.size) hpq).trans s2
set_option maxHeartbeats 2000000 in
theorem zgg (p q : Value) (w : World) :
 CallsD Try.prog 65 #[p, q] .returning w fun e u' w' => e = .returned (.tuple #[]) /\ u' = .returning /\ w' = w := by
 refine callsD_of_wpS Try.func65 rfl fun c₀ cs hu => ?_
 apply wpS_seq
 apply wpS_region
 simp [wpOpsS, go_sem, recoverD, hu, Try.ntmps65, Exit.thenS]; apply wpS_seq
 apply wpS_region
 simp [wpOpsS, go_sem, Exit.thenS]; refine wpS_cond (t := false) (by simp [Act.eval, Array.replicate]) ?_; simp only [Bool.false_eq_true, if_false]; refine wpS_of_wp (wp_skip ?_); cases c₀; simp_all [bodyPostS, results, Try.results65]
set_option maxHeartbeats 4000000 in
theorem zus {U : Str -> Option (List Int × Str × Int)} (hU : z7q Try.prog 77 U) {s r : Str} {l : List Int} {e : Int} (h : U s = some (l, r, e)) (he : e ≠ 0) (w : World) :
 Calls Try.prog 51 #[.string ⟨s.toArray⟩] w fun en w' => en = .returned (.tuple #[.agg #[.int .i64 0, .int .i64 0, .slice none 0 0, .slice none 0 0], .int .i64 30]) /\ Gr (fun _ => False) w w' := by
 obtain ⟨z1, z2, z3, z4, z5⟩ := alloc3 w (.cells #[.int .i64 0, .int .i64 0, .slice none 0 0, .slice none 0 0] 70) (.cells #[.int .i64 0] 34) (.cells #[.string ⟨s.toArray⟩] 126); go_enter_defers Try.func51, Try.ntmps51
 go_wp2_with (go_at_call 66; refine (zpy hU h he _ 126 _ z4).mono ?_; rintro e w' ⟨rfl, hg⟩)
 refine leaves_cons (f := 65) (args := #[.pointer (some ⟨w.heap.size, 0, none⟩), .pointer (some ⟨w.heap.size + 1, 0, none⟩)]) (by simp) (by simp [go_sem]) ?_; refine (zdv w.heap.size (w.heap.size + 1) _ _ [] _ ((hg.same _ (by omega) id).trans z2) rfl ((hg.same _ (by omega) id).trans z3) (by omega)).mono ?_; rintro e u' w'' ⟨rfl, rfl, k1, k2, k3⟩
 obtain ⟨q0, q1, q2, q3, _⟩ := cells4 k2; obtain ⟨q4, _⟩ := cells1 k3; simp [Leaves, settle, results, Try.results51, go_sem, q0, q1, q2, q3, q4]; exact (z1.trans hg).hide k1 (fun r h => by omega)
set_option maxHeartbeats 4000000 in
theorem zwt {U : Str -> Option (List Int × Str × Int)} (hU : z7q Try.prog 77 U) {s r : Str} {l : List Int} (h : U s = some (l, r, 0)) (hl : l.length ≠ 2) (w : World) :
 Calls Try.prog 51 #[.string ⟨s.toArray⟩] w fun en w' => en = .returned (.tuple #[.agg #[.int .i64 0, .int .i64 0, .slice none 0 0, .slice none 0 0], .int .i64 30]) /\ Gr (fun _ => False) w w' := by
 obtain ⟨z1, z2, z3, z4, z5⟩ := alloc3 w (.cells #[.int .i64 0, .int .i64 0, .slice none 0 0, .slice none 0 0] 70) (.cells #[.int .i64 0] 34) (.cells #[.string ⟨s.toArray⟩] 126); have hd : ((l.length : Int) != 2) = true := by simp; omega
 go_enter_defers Try.func51, Try.ntmps51
 go_wp2_with (go_at_call 66; refine (zjy hU h _ 126 _ (fun x => x = w.heap.size + 1 + 1) (fun x hx => by omega) z4 rfl).mono ?_; rintro e w' ⟨v, rfl, hg, hv, hb⟩; obtain ⟨a, c, rfl, hv⟩ := zen hv; have y2 := (hg.same w.heap.size (by omega) (by omega)).trans z2; have y3 := (hg.same (w.heap.size + 1) (by omega) (by omega)).trans z3; obtain ⟨q0, q1, q2, q3, q4, q5, q6, q7⟩ := cells4 y2; obtain ⟨q8, q9⟩ := cells1 y3)
 obtain ⟨s1, s2⟩ := store4 w' y2 rfl (.int .i64 0) (.int .i64 0) (.slice none 0 0) (.slice none 0 0); have y3' := (s1.same (w.heap.size + 1) (Nat.lt_of_lt_of_le (by omega) hg.size) (by omega)).trans y3; obtain ⟨s3, s4⟩ := store1 _ y3' (.int .i64 30); have s5 := (s3.same w.heap.size (Nat.lt_of_lt_of_le (by omega) (Nat.le_trans hg.size s1.size)) (by omega)).trans s2; refine leaves_cons (f := 65) (args := #[.pointer (some ⟨w.heap.size, 0, none⟩), .pointer (some ⟨w.heap.size + 1, 0, none⟩)]) (by simp) (by simp [go_sem]) ?_; refine (zgg _ _ _).mono ?_; rintro e u' w'' ⟨rfl, rfl, rfl⟩
 obtain ⟨q0, q1, q2, q3, _⟩ := cells4 s5; obtain ⟨q4, _⟩ := cells1 s4; simp [Leaves, settle, results, Try.results51, go_sem, q0, q1, q2, q3, q4]; exact ((z1.hide hg (fun r h => by omega)).hide s1 (fun r h => by omega)).hide s3 (fun r h => by omega)
set_option maxHeartbeats 4000000 in
theorem zm7 {U : Str -> Option (List Int × Str × Int)} (hU : z7q Try.prog 77 U) {M : List Int -> Option (List Int)} (hM : MovedAt Try.prog 67 M) {s r1 r2 r3 : Str} {l1 l2 l3 l4 : List Int} {e3 : Int} (h1 : U s = some (l1, r1, 0)) (hl : l1.length = 2) (h2 : U r1 = some (l2, r2, 0)) (h3 : U r2 = some (l3, r3, e3)) (h4 : e3 = 0 -> M l3 = some l4) (w : World) :
 Calls Try.prog 51 #[.string ⟨s.toArray⟩] w fun en w' => ∃ v, en = .returned (.tuple #[v, .int .i64 (if e3 = 0 then 0 else 30)]) /\ Gr (fun _ => False) w w' /\ RelI w' (fun x => x < w.heap.size) (.agg (eRecord (if e3 = 0 then ⟨l1[0], l1[1], l2, l4⟩ else ⟨0, 0, [], []⟩))) v := by
 obtain ⟨z1, z2, z3, z4, z5⟩ := alloc3 w (.cells #[.int .i64 0, .int .i64 0, .slice none 0 0, .slice none 0 0] 70) (.cells #[.int .i64 0] 34) (.cells #[.string ⟨s.toArray⟩] 126); have hd : ((2 : Int) != 2) = false := rfl; go_enter_defers Try.func51, Try.ntmps51
 go_wp2_with (go_at_call 66; refine (zjy hU h1 _ 126 _ (fun x => x < w.heap.size + 3) (fun x hx => by omega) z4 (by omega)).mono ?_; rintro e w' ⟨v, rfl, hg, hv, hb⟩; obtain ⟨a, c, rfl, hvc⟩ := zen hv; have y2 := (hg.same w.heap.size (by omega) (by omega)).trans z2; have y3 := (hg.same (w.heap.size + 1) (by omega) (by omega)).trans z3; obtain ⟨q0, q1, q2, q3, q4, q5, q6, q7⟩ := cells4 y2; obtain ⟨q8, q9⟩ := cells1 y3; obtain ⟨ad, rfl, g1, g2, g3, g4⟩ := hvc 0 (by omega); obtain ⟨ad', e', g1', g2', g3', g4'⟩ := hvc 1 (by omega); cases e'; rw [hl])
 obtain ⟨ab, ao, sp⟩ := ad; simp only at g1 g3 g4 g4' g2; subst g1; rw [Nat.add_zero] at g4; have n2 : ab ≠ w.heap.size + 1 + 1 := by omega
 have n3 : ab ≠ w.heap.size := by omega
 have hz := hg.size; go_region_held3 (fun W : World => W.cell? ⟨ab, ao, none⟩ = some (.int .i64 l1[0]) /\ W.cell? ⟨ab, ao + 1, none⟩ = some (.int .i64 l1[1])) (first | exact ⟨g4, g4'⟩ | exact ⟨kk1, kk2⟩ | (refine ⟨?_, ?_⟩ <;> simp only [zgb _ _ _ _ _ _ n3, kk1, kk2])) (first | (go_at_call 66; refine (zjy hU h2 _ 126 w'.drew (fun x => x < w.heap.size + 3) (fun x hx => Nat.lt_of_lt_of_le hx (by show w.heap.size + 3 <= w'.heap.size; omega)) hb (by omega)).mono ?_; rintro e w2 ⟨v2, rfl, hg2, hv2, hb2⟩; obtain ⟨a2, c2, hve, _⟩ := zen hv2; subst hve; have yy2 := (hg2.same w.heap.size (by show w.heap.size < w'.heap.size; omega) (by omega)).trans y2; obtain ⟨Q0, Q1, Q2, Q3, Q4, Q5, Q6, Q7⟩ := cells4 yy2; have kk0 := hg2.same ab g3 n2; have kk1 := (z2f kk0).trans g4; have kk2 := (z2f kk0).trans g4'))
 obtain ⟨s1, s2⟩ := store4 w2 yy2 rfl (.int .i64 l1[0]) (.int .i64 l1[1]) (.slice a2 l2.length c2) (.slice none 0 0); have tz : Gr (fun _ => False) w ((((w2.setCell ⟨w.heap.size, 0, none⟩ (.int .i64 l1[0])).setCell ⟨w.heap.size, 1, none⟩ (.int .i64 l1[1])).setCell ⟨w.heap.size, 2, none⟩ (.slice a2 l2.length c2)).setCell ⟨w.heap.size, 3, none⟩ (.slice none 0 0)) :=
  (((z1.hide hg (fun r h => by omega)).drew).hide hg2 (fun r h => by omega)).hide s1 (fun r h => by omega)
 have hz2 : w.heap.size + 3 <= w2.heap.size := Nat.le_trans (by show _ <= w'.heap.size; omega) hg2.size; have t4 := (s1.same (w.heap.size + 1 + 1) (by omega) (by omega)).trans hb2; have t3 := (s1.same (w.heap.size + 1) (by omega) (by omega)).trans ((hg2.same (w.heap.size + 1) (by show _ < w'.heap.size; omega) (by omega)).trans y3); have tv := s1.rel' (N := fun x => x < w.heap.size + 3) (fun x e => by omega) hv2; have hz3 := Nat.le_trans hz2 s1.size; generalize ((((w2.setCell ⟨w.heap.size, 0, none⟩ (.int .i64 l1[0])).setCell ⟨w.heap.size, 1, none⟩ (.int .i64 l1[1])).setCell ⟨w.heap.size, 2, none⟩ (.slice a2 l2.length c2)).setCell ⟨w.heap.size, 3, none⟩ (.slice none 0 0)) = w3 at s1 s2 tz t4 t3 tv hz3 ⊢; clear q0 q1 q2 q3 q4 q5 q6 q7 q8 q9 Q0 Q1 Q2 Q3 Q4 Q5 Q6 Q7 kk0 kk1 kk2 g4 g4'; by_cases he : e3 = 0
 · subst he; have hm : M l3 = some l4 := h4 rfl; go_wp2_with (go_at_call 66; refine (zjy hU h3 _ 126 w3 (fun x => x < w.heap.size + 3) (fun x hx => Nat.lt_of_lt_of_le hx hz3) t4 (by omega)).mono ?_; rintro e w4 ⟨v3, rfl, hg3, hv3, hb3⟩; have u2 := (hg3.same w.heap.size (by omega) (by omega)).trans s2; have u1 := (hg3.same (w.heap.size + 1) (by omega) (by omega)).trans t3; have hz4 := Nat.le_trans hz3 hg3.size)
   refine (hM l3 l4 hm w4 (fun x => x < w.heap.size + 3) v3 (fun x hx => Nat.lt_of_lt_of_le hx hz4) hv3).mono ?_; rintro e w5 ⟨v4, rfl, hg4, hv4⟩
   obtain ⟨a4, c4, hve4, _⟩ := zen hv4; subst hve4; have x2 := (hg4.same w.heap.size (by omega) id).trans u2; have x1 := (hg4.same (w.heap.size + 1) (by omega) id).trans u1; obtain ⟨Q0, Q1, Q2, Q3, Q4, Q5, Q6, Q7⟩ := cells4 x2; obtain ⟨Q8, Q9⟩ := cells1 x1; go_wp2
   obtain ⟨a1, a2'⟩ := store3 w5 x2 (.slice a4 l4.length c4); obtain ⟨b1, b2⟩ := store4 _ a2' rfl (.int .i64 l1[0]) (.int .i64 l1[1]) (.slice a2 l2.length c2) (.slice a4 l4.length c4); have hz5 := Nat.le_trans hz4 hg4.size; have b3 := (b1.same (w.heap.size + 1) (Nat.lt_of_lt_of_le (by omega) a1.size) (by omega)).trans ((a1.same (w.heap.size + 1) (by omega) (by omega)).trans x1); obtain ⟨d1, d2⟩ := store1 _ b3 (.int .i64 0); have d3 := (d1.same w.heap.size (Nat.lt_of_lt_of_le (by omega) (Nat.le_trans a1.size b1.size)) (by omega)).trans b2; have gAll : Gr (fun x => x < w.heap.size + 3) w3 _ := ((((hg3.wider fun _ h => by omega).trans (hg4.wider fun _ h => h.elim)).trans (a1.wider fun _ h => by omega)).trans (b1.wider fun _ h => by omega)).trans (d1.wider fun _ h => by omega); have gTail : Gr (fun x => x < w.heap.size + 3) w5 _ := ((a1.wider fun _ h => by omega).trans (b1.wider fun _ h => by omega)).trans (d1.wider fun _ h => by omega); refine leaves_cons (f := 65) (args := #[.pointer (some ⟨w.heap.size, 0, none⟩), .pointer (some ⟨w.heap.size + 1, 0, none⟩)]) (by simp) (by simp [go_sem]) ?_; refine (zgg _ _ _).mono ?_; rintro e u' w'' ⟨rfl, rfl, rfl⟩
   obtain ⟨q0, q1, q2, q3, _⟩ := cells4 d3; obtain ⟨q4, _⟩ := cells1 d2; have fin1 := ((((tz.hide hg3 (fun r h => by omega)).hide hg4 (fun r h => h.elim)).hide a1 (fun r h => by omega)).hide b1 (fun r h => by omega)).hide d1 (fun r h => by omega); have fin2 := zjv (a := l1[0]) (b := l1[1]) (gAll.rel (N' := fun x => x < w.heap.size) (fun _ h => h) (fun _ h => by omega) tv) (gTail.rel (N' := fun x => x < w.heap.size) (fun _ h => h) (fun _ h => by omega) hv4); simp [Leaves, settle, results, Try.results51, go_sem, q0, q1, q2, q3, q4]; exact ⟨fin1, fin2⟩
 · go_wp2_with (go_at_call 66; refine (zpy hU h3 he _ 126 w3 t4).mono ?_; rintro e w4 ⟨rfl, hg3⟩)
   refine leaves_cons (f := 65) (args := #[.pointer (some ⟨w.heap.size, 0, none⟩), .pointer (some ⟨w.heap.size + 1, 0, none⟩)]) (by simp) (by simp [go_sem]) ?_; refine (zdv w.heap.size (w.heap.size + 1) _ _ [] _ ((hg3.same _ (by omega) id).trans s2) rfl ((hg3.same _ (by omega) id).trans t3) (by omega)).mono ?_; rintro e u' w'' ⟨rfl, rfl, k1, k2, k3⟩
   obtain ⟨q0, q1, q2, q3, _⟩ := cells4 k2; obtain ⟨q4, _⟩ := cells1 k3; have fin1 := (tz.hide hg3 (fun r h => h.elim)).hide k1 (fun r h => by omega); have fin2 := zjv (w := w'') (N := fun x => x < w.heap.size) (a := 0) (b := 0) zcq zcq; simp [Leaves, settle, results, Try.results51, go_sem, q0, q1, q2, q3, q4, he]; exact ⟨fin1, fin2⟩
theorem zz9 {U : Str -> Option (List Int × Str × Int)} (hU : z7q Try.prog 77 U) {M : List Int -> Option (List Int)} (hM : MovedAt Try.prog 67 M) : ReadAt Try.prog 51 U M := by
 intro s r e h w; unfold readF at h; split at h
 · cases h
 · rename_i l1 r1 e1 h1; by_cases he1 : e1 = 0
   · subst he1; rw [zT rfl, zC] at h; by_cases hl : l1.length = 2
     · rw [zT hl, zC] at h; split at h
       · cases h
       · rename_i l2 r2 e2 h2; by_cases he2 : e2 = 0
         · subst he2; rw [zT rfl, zC] at h; split at h
           · cases h
           · rename_i l3 r3 e3 h3; by_cases he3 : e3 = 0
             · rw [zT he3, zC] at h; split at h
               · cases h
               · rename_i l4 h4; cases h; have := zm7 hU hM h1 hl h2 h3 (fun _ => h4) w; rw [if_pos he3, if_pos he3] at this; rw [show l1.getD 0 0 = l1[0] by simp [zI, zH (show 0 < l1.length by omega)], show l1.getD 1 0 = l1[1] by simp [zI, zH (show 1 < l1.length by omega)]]; exact this
             · rw [zF he3, zD] at h; cases h; have := zm7 hU hM (l4 := []) h1 hl h2 h3 (fun e => absurd e he3) w; rw [if_neg he3, if_neg he3] at this; exact this
         · rw [zF he2, zD] at h; cases h
     · rw [zF hl, zD] at h; cases h; exact (zwt hU h1 hl w).mono fun en w' ⟨k1, k2⟩ => ⟨_, k1, k2, zjv zcq zcq⟩
   · rw [zF he1, zD] at h; cases h; exact (zus hU h1 he1 w).mono fun en w' ⟨k1, k2⟩ => ⟨_, k1, k2, zjv zcq zcq⟩
end Go.Proofs.Ytpncgjcflkhemab
namespace Clk.Ytpncgjcflkhemab
open Go Go.Proofs Go.Proofs.Ytpncgjcflkhemab
noncomputable def LN : List (FuncId × Spec) := []
theorem ok_N : zo Try.prog (zx LN) := zu3
noncomputable def z9e : Nat -> Option Tmpl := fun cx => cond (Nat.beq cx 1) (some ⟨[], [], 19, [], ([.var (.list .bool), .var .bool, J, J, J, J, J, .var .i, .var .i] ++ jN 10), [], []⟩) <| none
noncomputable def z9f : Nat -> Nat -> Option (Nat × Nat) := fun _ _ => none
theorem zhf (N : Nat) (a0 : (List Bool)) (a1 : Bool) : z5m (z3x.mk' (z38 LN) z9e z9f) N 400 34 [(.list .bool), .bool] [.i] (a0, a1) = za8 N a0 a1 := by kernel_rfl
noncomputable def z6k : List (FuncId × Spec) := (34, ⟨[(.list .bool), .bool], [.i], z6i⟩) :: LN
theorem zgh : zo Try.prog (zx z6k) := zb z0i z67 zr ok_N (by kernel_rfl) ⟨_, Try.func34, by rfl⟩ (tm := z9e) (gh := z9f) fun x y h => by obtain ⟨N, h⟩ := z06 h; exact ⟨N, 400, (zhf N x.1 x.2).trans h⟩
noncomputable def z68 : Nat -> Option Tmpl := fun _ => none
theorem zcy (N : Nat) (a0 : (List Bool)) (a1 : Bool) : z5m (z3x.mk' (z38 z6k) z68 z9f) N 400 25 [(.list .bool), .bool] [.bool] (a0, a1) = z1n a0 a1 := by kernel_rfl
noncomputable def z3e : List (FuncId × Spec) := (25, ⟨[(.list .bool), .bool], [.bool], z3d⟩) :: z6k
theorem zbw : zo Try.prog (zx z3e) := zb z0i z67 zr zgh (by kernel_rfl) ⟨_, Try.func25, by rfl⟩ (tm := z68) (gh := z9f) fun x y h => ⟨0, 400, (zcy 0 x.1 x.2).trans h⟩
theorem zrh (N : Nat) (a0 : (List Bool)) : z5m (z3x.mk' (z38 z3e) z68 z9f) N 400 14 [(.list .bool)] [.bool] a0 = za0 a0 := by kernel_rfl
noncomputable def zcz : List (FuncId × Spec) := (14, ⟨[(.list .bool)], [.bool], zct⟩) :: z3e
theorem zo4 : zo Try.prog (zx zcz) := zb z0i z67 zr zbw (by kernel_rfl) ⟨_, Try.func14, by rfl⟩ (tm := z68) (gh := z9f) fun x y h => ⟨0, 400, (zrh 0 x).trans h⟩
theorem zjz (N : Nat) (a0 : Int) (a1 : Int) (a2 : Int) : z5m (z3x.mk' (z38 zcz) z68 z9f) N 400 15 [.i, .i, .i] [.bool] (a0, a1, a2) = z4p a0 a1 a2 := by kernel_rfl
noncomputable def z82 : List (FuncId × Spec) := (15, ⟨[.i, .i, .i], [.bool], z1o⟩) :: zcz
theorem zhg : zo Try.prog (zx z82) := zb z0i z67 zr zo4 (by kernel_rfl) ⟨_, Try.func15, by rfl⟩ (tm := z68) (gh := z9f) fun x y h => ⟨0, 400, (zjz 0 x.1 x.2.1 x.2.2).trans h⟩
theorem zo5 (N : Nat) (a0 : Geometry) : z5m (z3x.mk' (z38 z82) z68 z9f) N 400 7 [.geometry] [.bool] a0 = z7w a0 := by kernel_rfl
noncomputable def zay : List (FuncId × Spec) := (7, ⟨[.geometry], [.bool], z2c⟩) :: z82
theorem zm8 : zo Try.prog (zx zay) := zb z0i z67 zr zhg (by kernel_rfl) ⟨_, Try.func7, by rfl⟩ (tm := z68) (gh := z9f) fun x y h => ⟨0, 400, (zo5 0 x).trans h⟩
theorem zut (N : Nat) (a0 : Chip) : z5m (z3x.mk' (z38 zay) z68 z9f) N 400 18 [.chip] [.chip] a0 = zm5 a0 := by kernel_rfl
noncomputable def zgi : List (FuncId × Spec) := (18, ⟨[.chip], [.chip], z9d⟩) :: zay
theorem zri : zo Try.prog (zx zgi) := zb z0i z67 zr zm8 (by kernel_rfl) ⟨_, Try.func18, by rfl⟩ (tm := z68) (gh := z9f) fun x y h => ⟨0, 400, (zut 0 x).trans h⟩
theorem zk0 (N : Nat) (a0 : Int) (a1 : Str) (a2 : Bool) : z5m (z3x.mk' (z38 zgi) z68 z9f) N 400 86 [.i, .str, .bool] [.i, .str, .bool] (a0, a1, a2) = z4k a0 a1 a2 := by kernel_rfl
noncomputable def z83 : List (FuncId × Spec) := (86, ⟨[.i, .str, .bool], [.i, .str, .bool], z4l⟩) :: zgi
theorem zhh : zo Try.prog (zx z83) := zb z0i z67 zr zri (by kernel_rfl) ⟨_, Try.func86, by rfl⟩ (tm := z68) (gh := z9f) fun x y h => ⟨0, 400, (zk0 0 x.1 x.2.1 x.2.2).trans h⟩
noncomputable def zdw : Nat -> Option Tmpl := fun cx => cond (Nat.beq cx 1) (some ⟨[], [], 42, [], ([.var .str, J, .var .i] ++ jN 6 ++ [.var .i, .var .i] ++ jN 31), [], []⟩) <| none
theorem zo6 (N : Nat) (a0 : Str) : z5m (z3x.mk' (z38 z83) zdw z9f) N 400 82 [.str] [.i, .str, .bool] a0 = zgc N a0 := by kernel_rfl
noncomputable def zaz : List (FuncId × Spec) := (82, ⟨[.str], [.i, .str, .bool], z7r⟩) :: z83
theorem zm9 : zo Try.prog (zx zaz) := zb z0i z67 zr zhh (by kernel_rfl) ⟨_, Try.func82, by rfl⟩ (tm := zdw) (gh := z9f) fun x y h => by obtain ⟨N, h⟩ := z06 h; exact ⟨N, 400, (zo6 N x).trans h⟩
noncomputable def za9 : Nat -> Option Tmpl := fun cx => cond (Nat.beq cx 6) (some ⟨[.tmp 2 .i], [(0, .i)], 40, [.dead, .blk .i 0 true], ([J, J, .fix (.bref 1 0), .var .str] ++ jN 18 ++ [.var .i, .var .i] ++ jN 16 ++ [.var (.list .i)]), [], []⟩) <| none
theorem zk1 (N : Nat) (a0 : Str) : z5m (z3x.mk' (z38 zaz) za9 z9f) N 400 77 [.str] [(.list .i), .str, .i] a0 = z4m N a0 := by kernel_rfl
noncomputable def z84 : List (FuncId × Spec) := (77, ⟨[.str], [(.list .i), .str, .i], z2s⟩) :: zaz
theorem zhi : zo Try.prog (zx z84) := zb z0i z67 zr zm9 (by kernel_rfl) ⟨_, Try.func77, by rfl⟩ (tm := za9) (gh := z9f) fun x y h => by obtain ⟨N, h⟩ := z06 h; exact ⟨N, 400, (zk1 N x).trans h⟩
noncomputable def zdx : Nat -> Option Tmpl := fun cx => cond (Nat.beq cx 1) (some ⟨[], [], 22, [.blk .i 0 false], ([.fix (.bref 0 0), .var .i, J, J, J, J, J, .fix (.bref 0 0), .fix (.bref 0 0), .var .i, .var .i] ++ jN 11 ++ [.var (.list .i)]), [], []⟩) <| none
theorem zo7 (N : Nat) (a0 : (List Int)) (a1 : Int) : z5m (z3x.mk' (z38 z84) zdx z9f) N 400 67 [(.list .i), .i] [(.list .i)] (a0, a1) = z7o N a0 a1 := by kernel_rfl
noncomputable def zgj : List (FuncId × Spec) := (67, ⟨[(.list .i), .i], [(.list .i)], z2a⟩) :: z84
theorem z9g : zo Try.prog (zx zgj) := zb z0i z67 zr zhi (by kernel_rfl) ⟨_, Try.func67, by rfl⟩ (tm := zdx) (gh := z9f) fun x y h => by obtain ⟨N, h⟩ := z06 h; exact ⟨N, 400, (zo7 N x.1 x.2).trans h⟩
noncomputable def zd0 : List (FuncId × Spec) := (51, ⟨[.str], [.record, .i], zcr⟩) :: zgj
theorem zo8 : zo Try.prog (zx zd0) := zuo (U := z2s) (M := fun l => z2a (l, -1)) z9g ⟨_, Try.func51, by rfl⟩ (zz9 (zun z9g (by kernel_rfl)) (zwq (h := z2a) z9g (by kernel_rfl)))
theorem zo9 (N : Nat) (a0 : Int) : z5m (z3x.mk' (z38 zd0) z68 z9f) N 400 49 [.i] [.bool] a0 = zao a0 := by kernel_rfl
noncomputable def zb0 : List (FuncId × Spec) := (49, ⟨[.i], [.bool], z7h⟩) :: zd0
theorem zma : zo Try.prog (zx zb0) := zb z0i z67 zr zo8 (by kernel_rfl) ⟨_, Try.func49, by rfl⟩ (tm := z68) (gh := z9f) fun x y h => ⟨0, 400, (zo9 0 x).trans h⟩
theorem zrj (N : Nat) (a0 : Int) (a1 : Int) : z5m (z3x.mk' (z38 zb0) z68 z9f) N 400 87 [.i, .i] [.bool] (a0, a1) = z9x a0 a1 := by kernel_rfl
noncomputable def zd1 : List (FuncId × Spec) := (87, ⟨[.i, .i], [.bool], zcl⟩) :: zb0
theorem zoa : zo Try.prog (zx zd1) := zb z0i z67 zr zma (by kernel_rfl) ⟨_, Try.func87, by rfl⟩ (tm := z68) (gh := z9f) fun x y h => ⟨0, 400, (zrj 0 x.1 x.2).trans h⟩
noncomputable def z69 : Nat -> Option Tmpl := fun cx => cond (Nat.beq cx 1) (some ⟨[], [], 21, [], ([.var (.list .i), J, J, .var .i] ++ jN 17), [], []⟩) <| none
theorem zd2 (N : Nat) (a0 : (List Int)) : z5m (z3x.mk' (z38 zd1) z69 z9f) N 400 84 [(.list .i)] [.bool] a0 = z3a N a0 := by kernel_rfl
noncomputable def z3f : List (FuncId × Spec) := (84, ⟨[(.list .i)], [.bool], z3b⟩) :: zd1
theorem zbx : zo Try.prog (zx z3f) := zb z0i z67 zr zoa (by kernel_rfl) ⟨_, Try.func84, by rfl⟩ (tm := z69) (gh := z9f) fun x y h => by obtain ⟨N, h⟩ := z06 h; exact ⟨N, 400, (zd2 N x).trans h⟩
noncomputable def zgk : Nat -> Option Tmpl := fun cx => cond (Nat.beq cx 1) (some ⟨[], [], 19, [], ([.var (.list .i), .fix (.fn 83 [] []), J, J, J, J, J, .var .i, .var .i] ++ jN 10), [], []⟩) <| cond (Nat.beq cx 5) (some ⟨[], [], 19, [.blk .i 0 false], ([.var (.list .i), .fix (.fn 83 [] []), J, J, J, J, J, .var .i, .var .i] ++ jN 10 ++ [.var (.list .i)]), [], []⟩) <| cond (Nat.beq cx 6) (some ⟨[], [], 61, [.blk .i 0 false], ([.fix (.bref 0 0), J, J, .var .i, J, J, .fix (.bref 0 0)] ++ jN 54 ++ [.var (.list .i)]), [], []⟩) <| cond (Nat.beq cx 110) (some ⟨[], [], 19, [.blk .i 0 false], ([.var (.list .i), .fix (.fn 83 [] []), J, J, J, J, J, .var .i, .var .i] ++ jN 10 ++ [.var (.list .i)]), [], []⟩) <| cond (Nat.beq cx 437) (some ⟨[], [], 61, [.blk .i 0 false, .dead, .dead, .dead, .dead, .dead, .dead, .dead, .dead, .dead, .dead], ([.fix (.bref 0 0), J, J, .var .i, .sub 0 0, .var .i, .fix (.bref 0 0), J, J, J, J, .fix (.bref 0 0), J, J, J, J, .fix (.bref 0 0), J, J, J, .fix (.bref 0 0), J, J, J, J, J, .fix (.bref 0 0)] ++ jN 34 ++ [.var (.list .i)]), [], []⟩) <| cond (Nat.beq cx 7006) (some ⟨[], [], 19, [.blk .i 0 false, .dead, .dead, .dead, .dead, .dead, .dead, .dead, .dead, .dead, .dead], ([.var (.list .i), .fix (.fn 83 [] []), J, J, J, J, J, .var .i, .var .i] ++ jN 10 ++ [.var (.list .i)]), [], []⟩) <| none
theorem zrk (N : Nat) (a0 : (List Int)) : z5m (z3x.mk' (z38 z3f) zgk z9f) N 400 79 [(.list .i)] [.bool] a0 = zcm N a0 := by kernel_rfl
noncomputable def zd3 : List (FuncId × Spec) := (79, ⟨[(.list .i)], [.bool], zcn⟩) :: z3f
theorem zob : zo Try.prog (zx zd3) := zb z0i z67 zr zbx (by kernel_rfl) ⟨_, Try.func79, by rfl⟩ (tm := zgk) (gh := z9f) fun x y h => by obtain ⟨N, h⟩ := z06 h; exact ⟨N, 400, (zrk N x).trans h⟩
noncomputable def zdy : Nat -> Option Tmpl := fun cx => cond (Nat.beq cx 106) (some ⟨[], [], 19, [.st .record], ([.var (.list .i), .fix (.fn 78 [] []), J, J, J, J, J, .var .i, .var .i] ++ jN 10 ++ [.agg .record]), [], []⟩) <| none
theorem zoc (N : Nat) (a0 : Record) : z5m (z3x.mk' (z38 zd3) zdy z9f) N 400 68 [.record] [.bool] a0 = zap N a0 := by kernel_rfl
noncomputable def zb1 : List (FuncId × Spec) := (68, ⟨[.record], [.bool], zaq⟩) :: zd3
theorem zmb : zo Try.prog (zx zb1) := zb z0i z67 zr zob (by kernel_rfl) ⟨_, Try.func68, by rfl⟩ (tm := zdy) (gh := z9f) fun x y h => by obtain ⟨N, h⟩ := z06 h; exact ⟨N, 400, (zoc N x).trans h⟩
noncomputable def zgl : Nat -> Option Tmpl := fun cx => cond (Nat.beq cx 6) (some ⟨[.tmp 3 (.int .u8)], [(0, (.int .u8))], 26, [.dead, .blk (.int .u8) 0 true], ([.var .i, J, J, .fix (.bref 1 0)] ++ jN 22 ++ [.var (.list (.int .u8))]), [], []⟩) <| none
theorem zrl (N : Nat) (a0 : Int) : z5m (z3x.mk' (z38 zb1) zgl z9f) N 400 80 [.i] [.str] a0 = zco N a0 := by kernel_rfl
noncomputable def zd4 : List (FuncId × Spec) := (80, ⟨[.i], [.str], z9y⟩) :: zb1
theorem zod : zo Try.prog (zx zd4) := zb z0i z67 zr zmb (by kernel_rfl) ⟨_, Try.func80, by rfl⟩ (tm := zgl) (gh := z9f) fun x y h => by obtain ⟨N, h⟩ := z06 h; exact ⟨N, 400, (zrl N x).trans h⟩
noncomputable def zdz : Nat -> Option Tmpl := fun cx => cond (Nat.beq cx 1) (some ⟨[], [], 26, [], ([J, J, J, J, .var .str] ++ jN 6 ++ [.var (.list .i), .var .i, .var .i] ++ jN 12), [], []⟩) <| none
theorem zoe (N : Nat) (a0 : (List Int)) : z5m (z3x.mk' (z38 zd4) zdz z9f) N 400 69 [(.list .i)] [.str, .i] a0 = zar N a0 := by kernel_rfl
noncomputable def zb2 : List (FuncId × Spec) := (69, ⟨[(.list .i)], [.str, .i], z5e⟩) :: zd4
theorem zmc : zo Try.prog (zx zb2) := zb z0i z67 zr zod (by kernel_rfl) ⟨_, Try.func69, by rfl⟩ (tm := zdz) (gh := z9f) fun x y h => by obtain ⟨N, h⟩ := z06 h; exact ⟨N, 400, (zoe N x).trans h⟩
noncomputable def ze0 : Nat -> Option Tmpl := fun cx => cond (Nat.beq cx 6) (some ⟨[], [], 23, [.blk (.int .u8) 0 false], ([.var .i, J, J, .fix (.ptr 0 0 0 0)] ++ jN 6 ++ [.var .i] ++ jN 12 ++ [.var (.list (.int .u8))]), [], []⟩) <| none
theorem zof (N : Nat) (a0 : Int) : z5m (z3x.mk' (z38 zb2) ze0 z9f) N 400 70 [.i] [.str] a0 = zas N a0 := by kernel_rfl
noncomputable def zb3 : List (FuncId × Spec) := (70, ⟨[.i], [.str], zat⟩) :: zb2
theorem zmd : zo Try.prog (zx zb3) := zb z0i z67 zr zmc (by kernel_rfl) ⟨_, Try.func70, by rfl⟩ (tm := ze0) (gh := z9f) fun x y h => by obtain ⟨N, h⟩ := z06 h; exact ⟨N, 400, (zof N x).trans h⟩
noncomputable def ziq : Nat -> Option Tmpl := fun cx => cond (Nat.beq cx 1) (some ⟨[], [], 32, [], ([.var .str, J, J, .var (.int .u32), J, J, J, .var .i, .var .i] ++ jN 23), [], []⟩) <| cond (Nat.beq cx 29) (some ⟨[], [], 32, [], ([.var .str, J, J, .var (.int .u32), J, J, J, .var .i, .var .i] ++ jN 8 ++ [.var .i] ++ jN 14), [], []⟩) <| none
theorem zuu (N : Nat) (a0 : Str) : z5m (z3x.mk' (z38 zb3) ziq z9f) N 400 71 [.str] [.i] a0 = zlu N a0 := by kernel_rfl
noncomputable def zgm : List (FuncId × Spec) := (71, ⟨[.str], [.i], zg1⟩) :: zb3
theorem zrm : zo Try.prog (zx zgm) := zb z0i z67 zr zmd (by kernel_rfl) ⟨_, Try.func71, by rfl⟩ (tm := ziq) (gh := z9f) fun x y h => by obtain ⟨N, h⟩ := z06 h; exact ⟨N, 400, (zuu N x).trans h⟩
theorem zme (N : Nat) (a0 : Record) (a1 : Str) : z5m (z3x.mk' (z38 zgm) z68 z9f) N 400 52 [.record, .str] [.str, .i] (a0, a1) = z5y a0 a1 := by kernel_rfl
noncomputable def z9h : List (FuncId × Spec) := (52, ⟨[.record, .str], [.str, .i], z96⟩) :: zgm
theorem zk2 : zo Try.prog (zx z9h) := zb z0i z67 zr zrm (by kernel_rfl) ⟨_, Try.func52, by rfl⟩ (tm := z68) (gh := z9f) fun x y h => ⟨0, 400, (zme 0 x.1 x.2).trans h⟩
theorem zmf (N : Nat) (a0 : Str) (a1 : Str) : z5m (z3x.mk' (z38 z9h) z68 z9f) N 400 46 [.str, .str] [.record, .i] (a0, a1) = z61 a0 a1 := by kernel_rfl
noncomputable def z9i : List (FuncId × Spec) := (46, ⟨[.str, .str], [.record, .i], z9c⟩) :: z9h
theorem zk3 : zo Try.prog (zx z9i) := zb z0i z67 zr zk2 (by kernel_rfl) ⟨_, Try.func46, by rfl⟩ (tm := z68) (gh := z9f) fun x y h => ⟨0, 400, (zmf 0 x.1 x.2).trans h⟩
theorem zog (N : Nat) (a0 : Page) : z5m (z3x.mk' (z38 z9i) z68 z9f) N 400 36 [.page] [.i, .record] a0 = z7s a0 := by kernel_rfl
noncomputable def zb4 : List (FuncId × Spec) := (36, ⟨[.page], [.i, .record], zaw⟩) :: z9i
theorem zmg : zo Try.prog (zx zb4) := zb z0i z67 zr zk3 (by kernel_rfl) ⟨_, Try.func36, by rfl⟩ (tm := z68) (gh := z9f) fun x y h => ⟨0, 400, (zog 0 x).trans h⟩
theorem zmh (N : Nat) (a0 : Int) (a1 : Int) : z5m (z3x.mk' (z38 zb4) z68 z9f) N 400 45 [.i, .i] [.i] (a0, a1) = zdr a0 a1 := by kernel_rfl
noncomputable def z9j : List (FuncId × Spec) := (45, ⟨[.i, .i], [.i], z97⟩) :: zb4
theorem zk4 : zo Try.prog (zx z9j) := zb z0i z67 zr zmg (by kernel_rfl) ⟨_, Try.func45, by rfl⟩ (tm := z68) (gh := z9f) fun x y h => ⟨0, 400, (zmh 0 x.1 x.2).trans h⟩
noncomputable def zgn : Nat -> Option Tmpl := fun cx => cond (Nat.beq cx 1) (some ⟨[.cell 1 0 0 .found], [(5, .found)], 38, [.raw 4 1, .raw 1 1, .raw 4 1, .dfr, .loop 27, .dead, .blk .found 0 true], ([.fix (.yield 4), .fix (.ptr 2 0 0 0)] ++ jN 6 ++ [.fix (.ptr 2 0 0 0), .var (.list .block), .var .i, .var .i] ++ jN 30 ++ [.fix (.bref 6 0), J, J, J, J, J, .fix (.ptr 0 0 0 0), .fix (.ptr 1 0 0 0), J, J, J, J, J, .fix (.fn 44 [] [(.ptr 2 0 0 0)])] ++ jN 18 ++ [.var (.list .found)]), [], [.bk 8 6]⟩) <| cond (Nat.beq cx 29) (some ⟨[], [(6, .found)], 38, [.raw 4 1, .raw 1 1, .raw 4 1, .dfr, .loop 27, .dead, .dead, .raw 4 1, .blk .found 0 true], ([.fix (.yield 4), .fix (.ptr 2 0 0 0), J, .var .i, .fix (.ptr 7 0 0 0), J, J, J, .fix (.ptr 2 0 0 0), .var (.list .block), .var .i, .var .i, J, J, J, J, .fix (.ptr 7 0 0 0), .var (.list .page), .var .i, .var .i] ++ jN 22 ++ [.fix (.bref 8 0), J, J, J, J, J, .fix (.ptr 0 0 0 0), .fix (.ptr 1 0 0 0), J, J, J, J, J, .fix (.fn 44 [] [(.ptr 2 0 0 0)])] ++ jN 22 ++ [.var (.list .found)]), [], []⟩) <| none
theorem zrn (N : Nat) (a0 : Chip) : z5m (z3x.mk' (z38 z9j) zgn z9f) N 400 26 [.chip] [(.list .found)] a0 = z9z N a0 := by kernel_rfl
noncomputable def zd5 : List (FuncId × Spec) := (26, ⟨[.chip], [(.list .found)], zcs⟩) :: z9j
theorem zoh : zo Try.prog (zx zd5) := zb z0i z67 zr zk4 (by kernel_rfl) ⟨_, Try.func26, by rfl⟩ (tm := zgn) (gh := z9f) fun x y h => by obtain ⟨N, h⟩ := z06 h; exact ⟨N, 400, (zrn N x).trans h⟩
end Clk.Ytpncgjcflkhemab
namespace Clk.Ytpncgjcflkhemab
open Go Go.Proofs Go.Proofs.Ytpncgjcflkhemab
theorem zd6 (N : Nat) (a0 : Int) (a1 : Int) : z5m (z3x.mk' (z38 zd5) z68 z9f) N 400 64 [(.int .u64), (.int .u64)] [(.int .u64), (.int .u64)] (a0, a1) = z71 a0 a1 := by kernel_rfl
noncomputable def z3g : List (FuncId × Spec) := (64, ⟨[(.int .u64), (.int .u64)], [(.int .u64), (.int .u64)], z72⟩) :: zd5
theorem zby : zo Try.prog (zx z3g) := zb z0i z67 zr zoh (by kernel_rfl) ⟨_, Try.func64, by rfl⟩ (tm := z68) (gh := z9f) fun x y h => ⟨0, 400, (zd6 0 x.1 x.2).trans h⟩
theorem zgo (N : Nat) (a0 : Int) (a1 : Int) : z5m (z3x.mk' (z38 z3g) z68 z9f) N 400 50 [(.int .u64), (.int .u64)] [(.int .u64), (.int .u64)] (a0, a1) = z99 a0 a1 := by kernel_rfl
noncomputable def z5i : List (FuncId × Spec) := (50, ⟨[(.int .u64), (.int .u64)], [(.int .u64), (.int .u64)], z9a⟩) :: z3g
theorem ze8 : zo Try.prog (zx z5i) := zb z0i z67 zr zby (by kernel_rfl) ⟨_, Try.func50, by rfl⟩ (tm := z68) (gh := z9f) fun x y h => ⟨0, 400, (zgo 0 x.1 x.2).trans h⟩
noncomputable def z8p : Nat -> Option Tmpl := fun cx => cond (Nat.beq cx 26) (some ⟨[], [], 48, [.blk .i 0 false], (jN 7 ++ [.fix (.bref 0 0), .var .i] ++ jN 21 ++ [.fix (.bref 0 0), .fix (.bref 0 0)] ++ jN 16 ++ [.var (.list .i)]), [], []⟩) <| none
theorem zgp (N : Nat) (a0 : (List Int)) (a1 : Int) : z5m (z3x.mk' (z38 z5i) z8p z9f) N 400 41 [(.list .i), .i] [(.list .i)] (a0, a1) = z5f N a0 a1 := by kernel_rfl
noncomputable def z5j : List (FuncId × Spec) := (41, ⟨[(.list .i), .i], [(.list .i)], z2r⟩) :: z5i
theorem ze9 : zo Try.prog (zx z5j) := zb z0i z67 zr ze8 (by kernel_rfl) ⟨_, Try.func41, by rfl⟩ (tm := z8p) (gh := z9f) fun x y h => by obtain ⟨N, h⟩ := z06 h; exact ⟨N, 400, (zgp N x.1 x.2).trans h⟩
theorem zmi (N : Nat) (a0 : Int) : z5m (z3x.mk' (z38 z5j) z68 z9f) N 400 29 [.i] [.table] a0 = z60 a0 := by kernel_rfl
noncomputable def z9k : List (FuncId × Spec) := (29, ⟨[.i], [.table], z9b⟩) :: z5j
theorem zk5 : zo Try.prog (zx z9k) := zb z0i z67 zr ze9 (by kernel_rfl) ⟨_, Try.func29, by rfl⟩ (tm := z68) (gh := z9f) fun x y h => ⟨0, 400, (zmi 0 x).trans h⟩
theorem zhj (N : Nat) (a0 : Found) (a1 : Int) : z5m (z3x.mk' (z38 z9k) z68 z9f) N 400 43 [.found, .i] [.i, .bool] (a0, a1) = z3m a0 a1 := by kernel_rfl
noncomputable def z6l : List (FuncId × Spec) := (43, ⟨[.found, .i], [.i, .bool], z6f⟩) :: z9k
theorem zgq : zo Try.prog (zx z6l) := zb z0i z67 zr zk5 (by kernel_rfl) ⟨_, Try.func43, by rfl⟩ (tm := z68) (gh := z9f) fun x y h => ⟨0, 400, (zhj 0 x.1 x.2).trans h⟩
noncomputable def z9l : Nat -> Option Tmpl := fun cx => cond (Nat.beq cx 1) (some ⟨[], [], 62, [.raw 2 1, .st .found, .raw 2 1, .dead, .dead, .dead, .dead, .dead, .dead, .dead, .dead, .dead, .dead, .blk .i 0 false, .blk .i 0 false], ([J, J, .fix (.ptr 0 0 0 0), .fix (.ptr 1 0 0 0), .fix (.ptr 2 0 0 0), J, J, J, J, .fix (.ptr 0 0 0 0), J, .fix (.bref 13 0), .fix (.ptr 0 0 0 1), J, .fix (.bref 14 0), .fix (.ptr 0 0 0 0), .fix (.ptr 0 0 0 1), .fix (.ptr 1 0 0 1), .fix (.ptr 1 0 0 3), .var (.list .i), .var .i, .var .i] ++ jN 40 ++ [.fix (.bref 13 0), .fix (.bref 14 0), .agg .found, J, J, .var (.list .i), .var (.list .i)]), [], []⟩) <| none
theorem zhk (N : Nat) (a0 : Table) (a1 : Found) : z5m (z3x.mk' (z38 z6l) z9l z9f) N 400 30 [.table, .found] [.table] (a0, a1) = z3n N a0 a1 := by kernel_rfl
noncomputable def z6m : List (FuncId × Spec) := (30, ⟨[.table, .found], [.table], z6g⟩) :: z6l
theorem zgr : zo Try.prog (zx z6m) := zb z0i z67 zr zgq (by kernel_rfl) ⟨_, Try.func30, by rfl⟩ (tm := z9l) (gh := z9f) fun x y h => by obtain ⟨N, h⟩ := z06 h; exact ⟨N, 400, (zhk N x.1 x.2).trans h⟩
noncomputable def z8q : Nat -> Option Tmpl := fun cx => cond (Nat.beq cx 1) (some ⟨[], [], 21, [.raw 4 1, .raw 2 1, .st .table, .raw 2 1], ([J, J, .fix (.fn 30 [] []), J, .fix (.ptr 2 0 0 0), J, .fix (.ptr 3 0 0 0), J, J, .var (.list .found), .var .i, .var .i] ++ jN 15 ++ [.agg .table, J, J]), [], []⟩) <| cond (Nat.beq cx 30) (some ⟨[], [], 21, [.raw 4 1, .raw 2 1, .raw 2 1, .raw 2 1], ([J, .var .i, .fix (.fn 27 [] [])] ++ jN 6 ++ [.var (.list .found), .var .i, .var .i] ++ jN 19), [], []⟩) <| none
theorem zgs (N : Nat) (a0 : Chip) (a1 : Int) : z5m (z3x.mk' (z38 z6m) z8q z9f) N 400 19 [.chip, .i] [.table, .i] (a0, a1) = z2v N a0 a1 := by kernel_rfl
noncomputable def z5k : List (FuncId × Spec) := (19, ⟨[.chip, .i], [.table, .i], z1d⟩) :: z6m
theorem zea : zo Try.prog (zx z5k) := zb z0i z67 zr zgr (by kernel_rfl) ⟨_, Try.func19, by rfl⟩ (tm := z8q) (gh := z9f) fun x y h => by obtain ⟨N, h⟩ := z06 h; exact ⟨N, 400, (zgs N x.1 x.2).trans h⟩
noncomputable def zbz : Nat -> Option Tmpl := fun cx => cond (Nat.beq cx 1) (some ⟨[], [], 19, [.st .geometry, .st .chip, .raw 12 1], ([.var (.list .block), .fix (.fn 16 [] [(.ptr 0 0 0 0)]), J, J, J, J, J, .var .i, .var .i] ++ jN 10 ++ [.agg .geometry, .agg .chip] ++ jN 12), [], []⟩) <| cond (Nat.beq cx 122) (some ⟨[], [], 19, [.st .geometry, .raw 4 1, .raw 12 1, .dead, .dead, .dead, .dead, .st .device, .dead], ([.var (.list .block), .fix (.fn 21 [] [(.ptr 0 0 0 0)]), J, J, J, J, J, .var .i, .var .i] ++ jN 10 ++ [.agg .geometry] ++ jN 16 ++ [.agg .device]), [], []⟩) <| cond (Nat.beq cx 470) (some ⟨[], [], 19, [.st .geometry, .raw 4 1, .raw 12 1, .raw 4 1, .dead, .dead, .dead, .dead, .st .device, .dead], ([.var (.list .block), .fix (.fn 21 [] [(.ptr 0 0 0 0)]), J, J, J, J, J, .var .i, .var .i] ++ jN 10 ++ [.agg .geometry] ++ jN 20 ++ [.agg .device]), [], []⟩) <| none
theorem zmj (N : Nat) (a0 : Geometry) (a1 : Chip) : z5m (z3x.mk' (z38 z5k) zbz z9f) N 400 10 [.geometry, .chip] [.device, .i] (a0, a1) = z64 N a0 a1 := by kernel_rfl
noncomputable def z9m : List (FuncId × Spec) := (10, ⟨[.geometry, .chip], [.device, .i], z65⟩) :: z5k
theorem zk6 : zo Try.prog (zx z9m) := zb z0i z67 zr zea (by kernel_rfl) ⟨_, Try.func10, by rfl⟩ (tm := zbz) (gh := z9f) fun x y h => by obtain ⟨N, h⟩ := z06 h; exact ⟨N, 400, (zmj N x.1 x.2).trans h⟩
noncomputable def zgt : Nat -> Option Tmpl := fun cx => cond (Nat.beq cx 1) (some ⟨[], [], 19, [.raw 1 1, .raw 4 1], ([.var (.list .i), .fix (.fn 23 [] [(.ptr 0 0 0 0)]), J, J, J, J, J, .var .i, .var .i] ++ jN 10 ++ [.var .i, J, J, J, J]), [], []⟩) <| cond (Nat.beq cx 122) (some ⟨[], [], 64, [.raw 1 1, .raw 4 1, .nst false 0 false, .raw 4 1], ([J, .var .i, .var (.list .i), .fix (.ptr 0 0 0 0), J, J, .fix (.ptr 1 0 0 0), J, .fix (.fn 23 [] [(.ptr 0 0 0 0)]), .fix (.ptr 3 0 0 0), J, J, J, .fix (.fn 23 [] [(.ptr 0 0 0 0)])] ++ jN 16 ++ [.fix (.fn 23 [] [(.ptr 0 0 0 0)]), J, J, J, J, .fix (.bref 2 0), J, .fix (.ptr 3 0 0 0), .fix (.bref 2 0), .var .i, .var .i] ++ jN 28 ++ [.var (.list .block), .fix (.bref 2 0), .var .bool, .var .bool, .var .i]), [.nest 2 false], [.abs 2]⟩) <| cond (Nat.beq cx 470) (some ⟨[], [], 64, [.raw 1 1, .raw 4 1, .nst false 0 false, .raw 4 1], ([J, .var .i, .var (.list .i), .fix (.ptr 0 0 0 0), J, J, .fix (.ptr 1 0 0 0), J, .fix (.fn 23 [] [(.ptr 0 0 0 0)]), .fix (.ptr 3 0 0 0), J, J, J, .fix (.fn 23 [] [(.ptr 0 0 0 0)])] ++ jN 16 ++ [.fix (.fn 23 [] [(.ptr 0 0 0 0)]), J, J, J, J, .fix (.bref 2 0), J, .fix (.ptr 3 0 0 0), .fix (.bref 2 0), .var .i, .var .i] ++ jN 28 ++ [.var (.list .block), .fix (.bref 2 0), .var .bool, .var .bool, .var .i]), [.nest 2 false], [.abs 2]⟩) <| cond (Nat.beq cx 1966) (some ⟨[], [], 64, [.raw 1 1, .raw 4 1, .nst false 0 false, .raw 4 1], ([J, J, J, .fix (.ptr 0 0 0 0), J, J, .fix (.ptr 1 0 0 0), J, .fix (.fn 23 [] [(.ptr 0 0 0 0)]), .fix (.ptr 3 0 0 0), J, J, J, .fix (.fn 23 [] [(.ptr 0 0 0 0)])] ++ jN 16 ++ [.fix (.fn 23 [] [(.ptr 0 0 0 0)]), J, J, J, J, .fix (.bref 2 0), J, .fix (.ptr 3 0 0 0), .fix (.bref 2 0)] ++ jN 12 ++ [.var (.list .i), .var .i, .var .i] ++ jN 15 ++ [.var (.list .block), .fix (.bref 2 0), .var .bool, .var .bool, .var .i]), [], []⟩) <| cond (Nat.beq cx 7534) (some ⟨[], [], 64, [.raw 1 1, .raw 4 1, .nst false 0 false, .raw 4 1], ([J, J, J, .fix (.ptr 0 0 0 0), J, J, .fix (.ptr 1 0 0 0), J, .fix (.fn 23 [] [(.ptr 0 0 0 0)]), .fix (.ptr 3 0 0 0), J, J, J, .fix (.fn 23 [] [(.ptr 0 0 0 0)])] ++ jN 16 ++ [.fix (.fn 23 [] [(.ptr 0 0 0 0)]), J, J, J, J, .fix (.bref 2 0), J, .fix (.ptr 3 0 0 0), .fix (.bref 2 0)] ++ jN 12 ++ [.var (.list .i), .var .i, .var .i] ++ jN 15 ++ [.var (.list .block), .fix (.bref 2 0), .var .bool, .var .bool, .var .i]), [], []⟩) <| none
theorem zro (N : Nat) (a0 : Int) (a1 : Int) (a2 : (List Int)) : z5m (z3x.mk' (z38 z9m) zgt z9f) N 400 12 [.i, .i, (.list .i)] [.chip, .i] (a0, a1, a2) = za1 N a0 a1 a2 := by kernel_rfl
noncomputable def zd7 : List (FuncId × Spec) := (12, ⟨[.i, .i, (.list .i)], [.chip, .i], zcu⟩) :: z9m
theorem zoi : zo Try.prog (zx zd7) := zb z0i z67 zr zk6 (by kernel_rfl) ⟨_, Try.func12, by rfl⟩ (tm := zgt) (gh := z9f) fun x y h => by obtain ⟨N, h⟩ := z06 h; exact ⟨N, 400, (zro N x.1 x.2.1 x.2.2).trans h⟩
noncomputable def ze1 : Nat -> Option Tmpl := fun cx => cond (Nat.beq cx 1) (some ⟨[], [], 18, [.raw 4 1], ([J, .fix (.ptr 0 0 0 0), .var .i, J, J, .fix (.ptr 0 0 0 0), .var (.list .block), .var .i, .var .i] ++ jN 13), [], []⟩) <| none
theorem zoj (N : Nat) (a0 : Chip) : z5m (z3x.mk' (z38 zd7) ze1 z9f) N 400 13 [.chip] [.i] a0 = zgd N a0 := by kernel_rfl
noncomputable def zb5 : List (FuncId × Spec) := (13, ⟨[.chip], [.i], z7z⟩) :: zd7
theorem zmk : zo Try.prog (zx zb5) := zb z0i z67 zr zoi (by kernel_rfl) ⟨_, Try.func13, by rfl⟩ (tm := ze1) (gh := z9f) fun x y h => by obtain ⟨N, h⟩ := z06 h; exact ⟨N, 400, (zoj N x).trans h⟩
theorem zk7 (N : Nat) (a0 : Geometry) (a1 : (List Int)) : z5m (z3x.mk' (z38 zb5) z68 z9f) N 400 5 [.geometry, (.list .i)] [.device, .i] (a0, a1) = z4t a0 a1 := by kernel_rfl
noncomputable def z85 : List (FuncId × Spec) := (5, ⟨[.geometry, (.list .i)], [.device, .i], z0h⟩) :: zb5
theorem zhl : zo Try.prog (zx z85) := zb z0i z67 zr zmk (by kernel_rfl) ⟨_, Try.func5, by rfl⟩ (tm := z68) (gh := z9f) fun x y h => ⟨0, 400, (zk7 0 x.1 x.2).trans h⟩
theorem zhm (N : Nat) (a0 : Device) : z5m (z3x.mk' (z38 z85) z68 z9f) N 400 8 [.device] [.i] a0 = z3p a0 := by kernel_rfl
noncomputable def z6n : List (FuncId × Spec) := (8, ⟨[.device], [.i], z3q⟩) :: z85
theorem zgu : zo Try.prog (zx z6n) := zb z0i z67 zr zhl (by kernel_rfl) ⟨_, Try.func8, by rfl⟩ (tm := z68) (gh := z9f) fun x y h => ⟨0, 400, (zhm 0 x).trans h⟩
theorem zk8 (N : Nat) (a0 : Int) : z5m (z3x.mk' (z38 z6n) z68 z9f) N 400 9 [(.int .u8)] [.geometry] a0 = z4b a0 := by kernel_rfl
noncomputable def z86 : List (FuncId × Spec) := (9, ⟨[(.int .u8)], [.geometry], z7f⟩) :: z6n
theorem zhn : zo Try.prog (zx z86) := zb z0i z67 zr zgu (by kernel_rfl) ⟨_, Try.func9, by rfl⟩ (tm := z68) (gh := z9f) fun x y h => ⟨0, 400, (zk8 0 x).trans h⟩
theorem zok (N : Nat) (a0 : Chip) (a1 : Int) : z5m (z3x.mk' (z38 z86) z68 z9f) N 400 32 [.chip, .i] [.page, .bool] (a0, a1) = z7v a0 a1 := by kernel_rfl
noncomputable def zb6 : List (FuncId × Spec) := (32, ⟨[.chip, .i], [.page, .bool], zax⟩) :: z86
theorem zml : zo Try.prog (zx zb6) := zb z0i z67 zr zhn (by kernel_rfl) ⟨_, Try.func32, by rfl⟩ (tm := z68) (gh := z9f) fun x y h => ⟨0, 400, (zok 0 x.1 x.2).trans h⟩
theorem zrp (N : Nat) (a0 : Chip) (a1 : Table) (a2 : Int) : z5m (z3x.mk' (z38 zb6) z68 z9f) N 400 22 [.chip, .table, .i] [.str] (a0, a1, a2) = za2 a0 a1 a2 := by kernel_rfl
noncomputable def zd8 : List (FuncId × Spec) := (22, ⟨[.chip, .table, .i], [.str], zcv⟩) :: zb6
theorem zol : zo Try.prog (zx zd8) := zb z0i z67 zr zml (by kernel_rfl) ⟨_, Try.func22, by rfl⟩ (tm := z68) (gh := z9f) fun x y h => ⟨0, 400, (zrp 0 x.1 x.2.1 x.2.2).trans h⟩
noncomputable def zgv : Nat -> Option Tmpl := fun cx => cond (Nat.beq cx 1) (some ⟨[], [], 26, [.st .device, .blk .str 0 false], ([J, .fix (.ptr 0 0 0 0), J, .fix (.bref 1 0), J, .fix (.ptr 0 0 0 8), .fix (.ptr 0 0 0 8), J, J, .fix (.bref 1 0), .fix (.bref 1 0), .var .i, .var .i] ++ jN 13 ++ [.agg .device, .var (.list .str)]), [], []⟩) <| none
theorem zrq (N : Nat) (a0 : Device) : z5m (z3x.mk' (z38 zd8) zgv z9f) N 400 11 [.device] [(.list .str)] a0 = za3 N a0 := by kernel_rfl
noncomputable def zd9 : List (FuncId × Spec) := (11, ⟨[.device], [(.list .str)], zcw⟩) :: zd8
theorem zom : zo Try.prog (zx zd9) := zb z0i z67 zr zol (by kernel_rfl) ⟨_, Try.func11, by rfl⟩ (tm := zgv) (gh := z9f) fun x y h => by obtain ⟨N, h⟩ := z06 h; exact ⟨N, 400, (zrq N x).trans h⟩
theorem zk9 (N : Nat) : z5m (z3x.mk' (z38 zd9) z68 z9f) N 400 4 [] [.bool] () = z4v := by kernel_rfl
noncomputable def z87 : List (FuncId × Spec) := (4, ⟨[], [.bool], z81⟩) :: zd9
theorem zho : zo Try.prog (zx z87) := zb z0i z67 zr zom (by kernel_rfl) ⟨_, Try.func4, by rfl⟩ (tm := z68) (gh := z9f) fun x y h => ⟨0, 400, (zk9 0 ).trans h⟩
noncomputable def zaa : Nat -> Option Tmpl := fun cx => cond (Nat.beq cx 26) (some ⟨[], [], 63, [.raw 4 1, .st .block], ([J, J, J, .fix (.ptr 0 0 0 0), J, J, J, .fix (.ptr 1 0 0 0), .var .i, J, J, J, J, .fix (.ptr 0 0 0 0), J, J, J, J, J, .fix (.ptr 0 0 0 0)] ++ jN 6 ++ [.fix (.ptr 0 0 0 0)] ++ jN 40 ++ [.agg .block]), [], []⟩) <| none
theorem zka (N : Nat) (a0 : Chip) (a1 : Int) (a2 : Int) : z5m (z3x.mk' (z38 z87) zaa z9f) N 400 6 [.chip, .i, .i] [.i] (a0, a1, a2) = z4c N a0 a1 a2 := by kernel_rfl
noncomputable def z88 : List (FuncId × Spec) := (6, ⟨[.chip, .i, .i], [.i], z7g⟩) :: z87
theorem zhp : zo Try.prog (zx z88) := zb z0i z67 zr zho (by kernel_rfl) ⟨_, Try.func6, by rfl⟩ (tm := zaa) (gh := z9f) fun x y h => by obtain ⟨N, h⟩ := z06 h; exact ⟨N, 400, (zka N x.1 x.2.1 x.2.2).trans h⟩
noncomputable def z74 : Nat -> Option Tmpl := fun cx => cond (Nat.beq cx 6) (some ⟨[.tmp 13 .i], [(1, .i)], 102, [.st .geometry, .dead, .blk .i 0 true], ([J, J, J, J, .var (.list (.int .u8))] ++ jN 6 ++ [.var .bool, .fix (.ptr 0 0 0 0), .fix (.bref 2 0), .var .i] ++ jN 87 ++ [.agg .geometry, .var (.list .i)]), [], []⟩) <| cond (Nat.beq cx 442) (some ⟨[], [], 102, [.st .geometry, .dead, .dead, .st .device], (jN 11 ++ [.var .bool, .fix (.ptr 0 0 0 0), J, J, .fix (.ptr 3 0 0 0), J, .var .i, .var .i] ++ jN 83 ++ [.agg .geometry, .agg .device]), [], []⟩) <| none
theorem zeb (N : Nat) (a0 : Int) (a1 : Int) (a2 : Int) (a3 : Int) (a4 : (List Int)) : z5m (z3x.mk' (z38 z88) z74 z9f) N 400 3 [(.int .u8), (.int .u8), (.int .u8), (.int .u8), (.list (.int .u8))] [.bool] (a0, a1, a2, a3, a4) = z27 N a0 a1 a2 a3 a4 := by kernel_rfl
noncomputable def zec : List (FuncId × Spec) := (3, ⟨[(.int .u8), (.int .u8), (.int .u8), (.int .u8), (.list (.int .u8))], [.bool], z44⟩) :: z88
theorem zda : zo Try.prog (zx zec) := zb z0i z67 zr zhp (by kernel_rfl) ⟨_, Try.func3, by rfl⟩ (tm := z74) (gh := z9f) fun x y h => by obtain ⟨N, h⟩ := z06 h; exact ⟨N, 400, (zeb N x.1 x.2.1 x.2.2.1 x.2.2.2.1 x.2.2.2.2).trans h⟩
end Clk.Ytpncgjcflkhemab
namespace Clk
open Go
def fresh (g : Geometry) : Device :=
 ⟨g, ⟨List.replicate g.blocks.toNat ⟨List.replicate g.pages.toNat zPage, 0, 0, false⟩, false, false, 0⟩, ⟨List.replicate g.sectors.toNat (-1), List.replicate g.sectors.toNat (-1)⟩, 0, -1⟩
end Clk
namespace Clk
open Go
theorem zrr {p : Page} (h : (lookT p).1 = 1) : rightT (lookT p).2 = true := by
 unfold lookT at h ⊢; split at h
 · simp at h
 · rename_i h1; rw [if_neg h1]; split at h
   · simp at h
   · rename_i h2; rw [if_neg h2]; simp only [ne_eq, Decidable.not_not] at h2; simp only; unfold decT at h2 ⊢; split at h2
     · simp at h2
     · rename_i h3; rw [if_neg h3]; split at h2
       · simp at h2
       · rename_i h4; rw [if_neg h4]; simp only; generalize hR : (⟨(za p.tag).1.getD 0 0, (za p.tag).1.getD 1 0, (za (za p.tag).2.1).1, mvT (za (za (za p.tag).2.1).2.1).1⟩ : Record) = R at h4; cases hr : rightT R with
         | true => rfl
         | false =>
           exfalso; apply h4
           left; unfold encT; rw [if_pos (.inl hr)]; simp
def vv (b p : Nat) (pg : Page) : List Found := if (lookT pg).1 = 1 /\ 0 <= placeT b p then [⟨placeT b p, (lookT pg).2⟩] else []
def vp (b : Nat) : Nat -> List Page -> List Found
 | _, [] => []
 | p, pg :: l => vv b p pg ++ vp b (p + 1) l
def vb : Nat -> List Block -> List Found
 | _, [] => []
 | b, x :: l => vp b 0 x.pages ++ vb (b + 1) l
theorem zgw (b : Nat) : ∀ (l : List Page) (p : Nat) (out : List Found), pagesT b p l out = (vp b p l).foldl insT out
 | [], p, out => rfl
 | pg :: l, p, out => by
   unfold pagesT vp vv; rw [zgw b l (p + 1), List.foldl_append]; split <;> rfl
theorem z9n : ∀ (l : List Block) (b : Nat) (out : List Found), blocksT b l out = (vb b l).foldl insT out
 | [], b, out => rfl
 | x :: l, b, out => by
   unfold blocksT vb; rw [z9n l (b + 1), List.foldl_append, zgw]
theorem zpz : ∀ (B l : List Found) (y : Found), y ∈ B.foldl insT l ↔ y ∈ l \/ y ∈ B
 | [], l, y => by simp
 | b :: B, l, y => by
   have hi : ∀ (l : List Found) (x : Found), y ∈ insT l x ↔ y = x \/ y ∈ l := by
    intro l x; induction l with
    | nil => simp [insT]
    | cons z l ih =>
      unfold insT; split
      · simp
      · simp only [List.mem_cons, ih]; constructor
        · rintro (h | h | h)
          · exact .inr (.inl h)
          · exact .inl h
          · exact .inr (.inr h)
        · rintro (h | h | h)
          · exact .inr (.inl h)
          · exact .inl h
          · exact .inr (.inr h)
   simp only [List.foldl_cons, zpz B, hi, List.mem_cons]; constructor
   · rintro ((h | h) | h)
     · exact .inr (.inl h)
     · exact .inl h
     · exact .inr (.inr h)
   · rintro (h | h | h)
     · exact .inl (.inr h)
     · exact .inl (.inl h)
     · exact .inr h
end Clk
namespace Clk
open Go
end Clk
namespace Clk
open Go
theorem zkb (n : Int) (r : Str) (ok : Bool) : z4l (n, r, ok) = some (if ok = false \/ 1099511627776 < n then (0, [], false) else (n, r, true)) := by
 show z4k n r ok = _; unfold z4k; cases ok with
 | false => simp
 | true =>
   by_cases h : 1099511627776 < n
   · rw [zT h, if_pos (.inr h)]; rfl
   · rw [zF h, if_neg (by simp; omega)]; rfl
theorem zrs : (List.range 256).map (fun c : Nat => w64 (bAndNot .i64 (w64 (c : Int)) 128)) = (List.range 256).map (fun c : Nat => ((c % 128 : Nat) : Int)) := by kernel_rfl
theorem zza : (List.range 6).map (fun k : Nat => (w64 (7 * (k : Int)), (2 : Int) ^ (min (Int.toNat (w64 (7 * (k : Int)))) 64))) = (List.range 6).map (fun k : Nat => (((7 * k : Nat) : Int), ((128 ^ k : Nat) : Int))) := by kernel_rfl
theorem zuv {c : Nat} (h : c < 256) : w64 (bAndNot .i64 (w64 (c : Int)) 128) = ((c % 128 : Nat) : Int) := by
 have := congrArg (fun l => l[c]?) zrs; simpa only [List.getElem?_map, List.getElem?_range h, Option.map_some, Option.some.injEq] using this
theorem pow7 {k : Nat} (h : k < 6) : w64 (7 * (k : Int)) = ((7 * k : Nat) : Int) /\ (2 : Int) ^ (min (Int.toNat (w64 (7 * (k : Int)))) 64) = ((128 ^ k : Nat) : Int) := by
 have := congrArg (fun l => l[k]?) zza; simp only [List.getElem?_map, List.getElem?_range h, Option.map_some, Option.some.injEq, Prod.mk.injEq] at this; exact this
theorem z004 {n m k : Nat} (h : n < 128 ^ k) : n ||| m * 128 ^ k = n + m * 128 ^ k := by
 have e : 128 ^ k = 2 ^ (7 * k) := by rw [Nat.pow_mul]
 rw [e] at h ⊢; have := Nat.two_pow_add_eq_or_of_lt h m; rw [Nat.or_comm, Nat.mul_comm m, <- this]; omega
theorem ze2 {s : Str} (hs : s.length < 4294967296) : ∀ (f N : Nat) (l : Str) (n k : Nat) (i cnt : Int), s.drop k = l -> i = k -> cnt = min (s.length : Int) 6 -> k + f = 6 -> n < 128 ^ k -> f < N -> zj z6h N (s, n, cnt, i) = some (takeN f (k == 0) n (128 ^ k) l)
 | f, 0, _, _, _, _, _, _, _, _, _, _, h => by omega
 | 0, N + 1, l, n, k, i, cnt, h1, h2, hc, h3, h4, h6 => by
   rw [z6, z3c]; unfold z20; simp only [takeN]; rw [zF (show ¬ i < cnt by omega), zD]
 | f + 1, N + 1, [], n, k, i, cnt, h1, h2, hc, h3, h4, h6 => by
   have := z01 h1; rw [z6, z3c]; unfold z20; simp only [takeN]; rw [zF (show ¬ i < cnt by omega), zD]
 | f + 1, N + 1, c :: l, n, k, i, cnt, h1, h2, hcn, h3, h4, h6 => by
   obtain ⟨g1, g2, g3⟩ := zl h1; subst h2; have hc := zyy c; have hu : 128 ^ k <= 34359738368 := Nat.le_trans (Nat.pow_le_pow_right (by omega) (show k <= 5 by omega)) (by decide); have hu0 : 0 < 128 ^ k := Nat.pow_pos (by omega); have hm2 : c.toNat % 128 * 128 ^ k <= 127 * 128 ^ k := Nat.mul_le_mul (by omega) (Nat.le_refl _); obtain ⟨p1, p2⟩ := pow7 (show k < 6 by omega); have hor : w64 (bOr .i64 (n : Int) (w64 ((w64 (bAndNot .i64 (w64 (c.toNat : Int)) 128)) * 2 ^ (min (Int.toNat (w64 (7 * (k : Int)))) 64)))) = ((n + c.toNat % 128 * 128 ^ k : Nat) : Int) := by
    rw [zuv hc, p2]; have e2 : ((c.toNat % 128 : Nat) : Int) * ((128 ^ k : Nat) : Int) = ((c.toNat % 128 * 128 ^ k : Nat) : Int) := by push_cast; rfl
    rw [e2, zi (n := ((c.toNat % 128 * 128 ^ k : Nat) : Int)) (by omega) (by omega), zu5 (k := .i64) (show n < 2 ^ 64 by omega) (show c.toNat % 128 * 128 ^ k < 2 ^ 64 by omega), z004 h4, zi (by omega) (by omega)]
   rw [z6, z3c]; unfold z20; simp only [Int.toNat_natCast, g2, takeN]; rw [zT (show (k : Int) < cnt by omega), zT (show (k : Int) < s.length by omega), zT (show (0 : Int) <= k by omega), p1, zT (show (0 : Int) <= ((7 * k : Nat) : Int) by omega)]; rw [p1] at hor; simp only [Int.toNat_natCast] at hor ⊢; rw [hor, zi (n := (c.toNat : Int)) (by omega) (by omega), zi (n := (k : Int) + 1) (by omega) (by omega)]; simp only [zC, zkb, z8]; have e4 : Int.toNat ((k : Int) + 1) = k + 1 := by omega
   by_cases h7 : c.toNat < 128
   · have e3 : c.toNat % 128 = c.toNat := Nat.mod_eq_of_lt h7; rw [zT (show (c.toNat : Int) < 128 by omega), zC, if_pos h7, zT (show (0 : Int) <= (k : Int) + 1 by omega), zT (show (k : Int) + 1 <= s.length by omega), e4, g3, e3]; simp only [zC]; by_cases h9 : k = 0
     · subst h9; rw [zT (show ((0 : Nat) : Int) = 0 from rfl), zC]; by_cases h8 : 1099511627776 < n + c.toNat * 128 ^ 0
       · rw [if_pos (.inr (by omega)), if_pos (.inl h8)]
       · rw [if_neg (by simp; omega), if_neg (by simp; omega)]
     · rw [zF (show ¬ (k : Int) = 0 by omega), zD]; by_cases h8 : 1099511627776 < n + c.toNat * 128 ^ k
       · rw [if_pos (.inr (by omega)), if_pos (.inl h8)]
       · by_cases h10 : c.toNat = 0
         · rw [if_pos (.inl (by simp; omega)), if_pos (.inr ⟨by simpa using h9, h10⟩)]
         · rw [if_neg (by rintro (h | h); simp at h; omega; omega), if_neg (by rintro (h | ⟨_, h⟩); exact h8 h; exact h10 h)]
   · rw [zF (show ¬ (c.toNat : Int) < 128 by omega), zD, if_neg h7]; have hn2 : n + c.toNat % 128 * 128 ^ k < 128 ^ (k + 1) := by rw [Nat.pow_succ]; omega
     have := ze2 hs f N l (n + c.toNat % 128 * 128 ^ k) (k + 1) ((k : Int) + 1) cnt g3 (by omega) hcn (by omega) hn2 (by omega); rw [this, Nat.pow_succ]; rfl
theorem zgx {s : Str} (hs : s.length < 4294967296) : z7r s = some (takeT s) := by
 refine z1z 7 fun N hN => ?_
 exact ze2 hs 6 N s 0 0 0 _ rfl rfl rfl (by omega) (by omega) (by omega)
theorem zab {n : Int} (hn : n < 4294967296) : ∀ (m N k : Nat) (i : Int) (s : Str) (acc : List Int), (k : Int) + m = n -> i = k -> s.length < 4294967296 -> acc.length = k -> m < N -> zj z43 N (s, n, i, acc) = some (unpackL m s acc)
 | m, 0, _, _, _, _, _, _, _, _, h => by omega
 | 0, N + 1, k, i, s, acc, h1, h2, h3, h4, h5 => by
   rw [z6, z5g]; unfold z26; simp only [unpackL]; rw [zF (by omega)]; rfl
 | m + 1, N + 1, k, i, s, acc, h1, h2, h3, h4, h5 => by
   rw [z6, z5g]; unfold z26; simp only [unpackL, zgx h3, z8]; rw [zT (show i < n by omega), zC]; have hl := zbs s; cases hb : (takeT s).2.2 with
   | false => rfl
   | true =>
     rw [if_neg (by simp), Bool.not_true, zD]; rw [zT (by simp; omega), zC, zT (by simp; omega), zC]; exact zab hn m N (k + 1) _ _ _ (by omega) (by rw [zi (by omega) (by omega)]; omega) (by omega) (by simp; omega) (by omega)
theorem z89 {s : Str} (hs : s.length < 4294967296) : z2s s = some (za s) := by
 refine z1z (s.length + 1) fun N hN => ?_
 show z4m N s = _; unfold z4m za; simp only [zgx hs, z8]; have hl := zbs s; have hn := zwi s; cases hb : (takeT s).2.2 with
 | false => rfl
 | true =>
   rw [Bool.not_true, zD]; by_cases h1 : ((takeT s).2.1.length : Int) < (takeT s).1
   · rw [zT h1, zC, if_pos (.inr h1)]
   · rw [zF h1, zD, if_neg (by simp; omega)]; exact zab (by omega) _ N 0 0 _ _ (by omega) rfl (by omega) rfl (by omega)
def tagOk (s : Str) : Prop := (za s).2.2 = 0 -> (za s).1.length = 2 -> (za (za s).2.1).2.2 = 0
theorem zrt {s : Str} (hs : s.length < 4294967296) (ht : tagOk s) : zcr s = some (if (za s).2.2 ≠ 0 \/ (za s).1.length ≠ 2 \/ (za (za (za s).2.1).2.1).2.2 ≠ 0 then (zRec, 30) else (⟨(za s).1.getD 0 0, (za s).1.getD 1 0, (za (za s).2.1).1, movT (-1) (za (za (za s).2.1).2.1).1⟩, 0)) := by
 have q1 := z2b s; have q2 := z2b (za s).2.1; have q3 := z2b (za (za s).2.1).2.1; unfold tagOk at ht; show readF z2s (fun l => z2a (l, -1)) s = _; unfold readF; simp only [z89 hs]; by_cases c1 : (za s).2.2 = 0
 · rw [zT c1, zC]; by_cases c2 : (za s).1.length = 2
   · rw [zT c2, zC]; simp only [z89 (show (za s).2.1.length < 4294967296 by omega)]; rw [zT (ht c1 c2), zC]; simp only [z89 (show (za (za s).2.1).2.1.length < 4294967296 by omega)]; by_cases c3 : (za (za (za s).2.1).2.1).2.2 = 0
     · rw [zT c3, zC, if_neg (by simp [c1, c2, c3])]; simp only [zg5 (show (za (za (za s).2.1).2.1).1.length < 4294967296 by omega)]
     · rw [zF c3, zD, if_pos (.inr (.inr c3))]; rfl
   · rw [zF c2, zD, if_pos (.inr (.inl c2))]; rfl
 · rw [zF c1, zD, if_pos (.inl c1)]; rfl
theorem zzb (l : List Int) : movT (-1) l = mvT l := by unfold movT mvT; rfl
theorem zmm {tag data : Str} (ht : tag.length < 4294967296) (hd : data.length < 4294967296) (hk : tagOk tag) : z9c (tag, data) = some (decT tag data) := by
 have q1 := z2b tag; have q2 := z2b (za tag).2.1; have q3 := z2b (za (za tag).2.1).2.1; show z61 tag data = _; unfold z61; rw [zrt ht hk, z8]; unfold decT; have hk' := hk; unfold tagOk at hk'; split
 · rename_i h; rw [zF (by decide), Bool.not_false, zC, if_pos (by
    rcases h with h | h | h
    · exact .inl h
    · exact .inr (.inr (.inr h))
    · exact .inr (.inr (.inl h)))]
   rfl
 · rename_i h; simp only [not_or, Decidable.not_not] at h; obtain ⟨c1, c2, c3⟩ := h; rw [zT rfl, Bool.not_true, zD, if_neg (by simp [c1, c2, c3, hk' c1 c2])]; simp only; rw [zzb, zm0 ⟨by show (za (za tag).2.1).1.length < _; omega, by show (mvT _).length < _; unfold mvT; rw [List.length_map]; omega⟩ hd, z8]; generalize ({ kind := _, seq := _, keys := _, values := _ } : Record) = r; by_cases e1 : (encT r data).2 = 0
   · rw [zT e1, Bool.not_true, zD]; by_cases e2 : (encT r data).1 = tag
     · rw [zT e2, Bool.not_true, zD, if_neg (by simp [e1, e2])]
     · rw [zF e2, Bool.not_false, zC, if_pos (.inr e2)]; rfl
   · rw [zF e1, Bool.not_false, zC, if_pos (.inl e1)]; rfl
theorem zon {p : Page} (h : PageOk p) (hk : tagOk p.tag) : zaw p = some (lookT p) := by
 show z7s p = _; unfold z7s lookT; cases p.written with
 | false => rfl
 | true =>
   rw [Bool.not_true, zD, zmm h.1 h.2 hk, z8, if_neg (by simp)]; by_cases c : (decT p.tag p.data).2 = 0
   · rw [zT c, zC, if_neg (by simp [c])]
   · rw [zF c, zD, if_pos c]; rfl
end Clk
namespace Clk
open Go
def TagsOk (c : Chip) : Prop := ∀ b ∈ c.blocks, ∀ p ∈ b.pages, tagOk p.tag
theorem zuw : ∀ (l : List Found) (f : Found), insF l f = insT l f
 | [], f => rfl
 | x :: l, f => by
   unfold insF insT; rw [zuw l f]; rfl
theorem zwu (l : List Found) : sortF l = l.foldl insT [] := by
 unfold sortF; rw [show insF = insT from funext fun l => funext fun f => zuw l f]
theorem zeo {b p : Nat} {pg : Page} {f : Found} (h : f ∈ vv b p pg) : f.place = 16 * (b : Int) + p /\ p < 16 /\ b < 32 := by
 unfold vv at h; split at h
 · rename_i hc; obtain ⟨h1, h2⟩ := zwl hc.2; simp at h; subst h; refine ⟨?_, h2, h1⟩; show placeT b p = _; unfold placeT; rw [if_neg (by omega)]; omega
 · cases h
theorem zc0 {b : Nat} : ∀ {l : List Page} {p : Nat} {f : Found}, f ∈ vp b p l -> ∃ q : Nat, p <= q /\ q < 16 /\ b < 32 /\ f.place = 16 * (b : Int) + q
 | [], p, f, h => by simp [vp] at h
 | pg :: l, p, f, h => by
   unfold vp at h; rcases List.mem_append.1 h with h | h
   · obtain ⟨h1, h2, h3⟩ := zeo h; exact ⟨p, Nat.le_refl _, h2, h3, h1⟩
   · obtain ⟨q, h1, h2⟩ := zc0 h; exact ⟨q, by omega, h2⟩
theorem zq0 : ∀ {l : List Block} {b : Nat} {f : Found}, f ∈ vb b l -> ∃ c q : Nat, b <= c /\ q < 16 /\ f.place = 16 * (c : Int) + q
 | [], b, f, h => by simp [vb] at h
 | x :: l, b, f, h => by
   unfold vb at h; rcases List.mem_append.1 h with h | h
   · obtain ⟨q, _, h2, _, h3⟩ := zc0 h; exact ⟨b, q, Nat.le_refl _, h2, h3⟩
   · obtain ⟨c, q, h1, h2⟩ := zq0 h; exact ⟨c, q, by omega, h2⟩
theorem zzc (b p : Nat) (pg : Page) : (vv b p pg).Pairwise (fun x y => x.place < y.place) := by
 unfold vv; split <;> simp
theorem zux (b : Nat) : ∀ (l : List Page) (p : Nat), (vp b p l).Pairwise (fun x y => x.place < y.place)
 | [], p => by simp [vp]
 | pg :: l, p => by
   unfold vp; refine List.pairwise_append.2 ⟨zzc b p pg, zux b l (p + 1), fun x hx y hy => ?_⟩; obtain ⟨h1, _, _⟩ := zeo hx; obtain ⟨q, h2, _, _, h3⟩ := zc0 hy; omega
theorem zuy : ∀ (l : List Block) (b : Nat), (vb b l).Pairwise (fun x y => x.place < y.place)
 | [], b => by simp [vb]
 | x :: l, b => by
   unfold vb; refine List.pairwise_append.2 ⟨zux b _ 0, zuy l (b + 1), fun x hx y hy => ?_⟩; obtain ⟨q, _, h1, _, h2⟩ := zc0 hx; obtain ⟨c, r, h3, _, h4⟩ := zq0 hy; omega
theorem zmn : ∀ {l : List Found}, l.Pairwise (fun x y => x.place < y.place) -> distF l = true
 | [], _ => rfl
 | x :: l, h => by
   rw [List.pairwise_cons] at h; unfold distF; rw [Bool.and_eq_true]; refine ⟨List.all_eq_true.2 fun y hy => ?_, zmn h.2⟩; have := h.1 y hy; simp only [Bool.not_eq_true', decide_eq_false_iff_not, Prod.mk.injEq]; omega
theorem zxk (b p : Nat) (pg : Page) : (vv b p pg).length <= 1 := by unfold vv; split <;> simp
theorem zuz {M : List Block × Int × Int × List Found -> Option (List Found)} {bs : List Block} {n : Int} {b : Nat} {pgs : List Page} (hs : pgs.length < 4294967296) (hb : b < 4294967296) (hp : ∀ p ∈ pgs, PageOk p) (ht : ∀ p ∈ pgs, tagOk p.tag) : ∀ (l : List Page) (N p : Nat) (i : Int) (out : List Found), pgs.drop p = l -> i = p -> out.length <= min (16 * b + min p 16) 512 -> l.length < N ->
 zj (z7t M) N ((b : Int), bs, n, (b : Int), pgs, (pgs.length : Int), i, out) = M (bs, n, ((b + 1 : Nat) : Int), out ++ vp b p l)
 | l, 0, _, _, _, _, _, _, h => by omega
 | [], N + 1, p, i, out, h1, h2, h3, _ => by
   have h4 := z01 h1; rw [z6, z8j]; unfold z4n; simp only [vp, List.append_nil]; rw [zF (by omega), zD, zi (by omega) (by omega)]; rfl
 | pg :: l, N + 1, p, i, out, h1, h2, h3, h5 => by
   obtain ⟨g1, g2, g3⟩ := zl h1; subst h2; have hmem : pg ∈ pgs := by rw [<- g2 default]; exact z3u g1
   simp at h5; have hv := zxk b p pg; have hv2 : vv b p pg ≠ [] -> b < 32 /\ p < 16 := fun h => by
    cases hvv : vv b p pg with
    | nil => exact absurd hvv h
    | cons f r => have := zeo (f := f) (by rw [hvv]; simp); omega
   have hlen : (out ++ vv b p pg).length <= min (16 * b + min (p + 1) 16) 512 := by
    rw [List.length_append]; by_cases hvv : vv b p pg = []
    · rw [hvv]; simp; omega
    · have := hv2 hvv; omega
   have ih := zuz (M := M) (bs := bs) (n := n) hs hb hp ht l N (p + 1) ((p : Int) + 1) (out ++ vv b p pg) g3 (by omega) hlen (by omega); rw [z6, z8j]; unfold z4n; simp only [Int.toNat_natCast, g2, vp]; rw [zT (show (p : Int) < (pgs.length : Int) by omega), zT (show (0 : Int) <= p by omega)]; simp only [zC, zm1, z8]; rw [zi (n := (p : Int) + 1) (by omega) (by omega), zon (hp pg hmem) (ht pg hmem), z8, <- List.append_assoc, <- ih]; by_cases c1 : 0 <= placeT b p
   · rw [zT c1, zC]; by_cases c2 : (lookT pg).1 = 1
     · rw [zT c2, zC]; have e : vv b p pg = [⟨placeT b p, (lookT pg).2⟩] := by unfold vv; rw [if_pos ⟨c2, c1⟩]
       rw [e] at hlen ⊢; rw [zT (by simp at hlen ⊢; omega), zC, zT (by simp at hlen ⊢; omega), zC]
     · rw [zF c2, zD]; have e : vv b p pg = [] := by unfold vv; rw [if_neg (fun h => c2 h.1)]
       rw [e, List.append_nil]
   · rw [zF c1, zD]; have e : vv b p pg = [] := by unfold vv; rw [if_neg (fun h => c1 h.2)]
     rw [e, List.append_nil]
theorem zxl (b : Nat) : ∀ (l : List Page) (p : Nat), (vp b p l).length <= 16 - min p 16 /\ (32 <= b -> vp b p l = [])
 | [], p => by simp [vp]
 | pg :: l, p => by
   unfold vp; obtain ⟨h1, h2⟩ := zxl b l (p + 1); have hv := zxk b p pg; have hv2 : vv b p pg ≠ [] -> b < 32 /\ p < 16 := fun h => by
    cases hvv : vv b p pg with
    | nil => exact absurd hvv h
    | cons f r => have := zeo (f := f) (by rw [hvv]; simp); omega
   by_cases hvv : vv b p pg = []
   · rw [hvv]; simp only [List.nil_append]; exact ⟨by omega, h2⟩
   · obtain ⟨h3, h4⟩ := hv2 hvv; rw [List.length_append]; exact ⟨by omega, fun h => by omega⟩
theorem zv0 {c : Chip} (hc : ChipOk c) (hp : PagesOk c) (ht : TagsOk c) {M : Nat} (hM : ∀ b ∈ c.blocks, b.pages.length < M) : ∀ (l : List Block) (N b : Nat) (i : Int) (out : List Found), c.blocks.drop b = l -> i = b -> out.length <= min (16 * b) 512 -> (out ++ vb b l).Pairwise (fun x y => x.place < y.place) -> l.length < N ->
 zj (z7u M) N (c.blocks, (c.blocks.length : Int), i, out) = some (sortF (out ++ vb b l))
 | l, 0, _, _, _, _, _, _, _, h => by omega
 | [], N + 1, b, i, out, h1, h2, h3, h6, _ => by
   have h4 := z01 h1; rw [z6, z8k]; unfold z4o; simp only [vb, List.append_nil] at h6 ⊢; rw [zF (by omega), zD, zmn h6, zC, zT (by omega), zC]
 | x :: l, N + 1, b, i, out, h1, h2, h3, h6, h5 => by
   obtain ⟨g1, g2, g3⟩ := zl h1; subst h2; have hmem : x ∈ c.blocks := by rw [<- g2 default]; exact z3u g1
   have hb := hc.1; simp at h5; rw [z6, z8k]; unfold z4o; simp only [Int.toNat_natCast, g2, vb]; rw [zT (show (b : Int) < (c.blocks.length : Int) by omega), zT (show (0 : Int) <= b by omega)]; simp only [zC]; rw [zuz (hc.2 x hmem) (by omega) (fun p h => hp x hmem p h) (fun p h => ht x hmem p h) x.pages M 0 0 out rfl rfl (by omega) (hM x hmem), <- List.append_assoc]; obtain ⟨k1, k2⟩ := zxl b x.pages 0; have hlen : (out ++ vp b 0 x.pages).length <= min (16 * (b + 1)) 512 := by
    rw [List.length_append]; by_cases h32 : 32 <= b
    · rw [k2 h32]; simp; omega
    · omega
   exact zv0 hc hp ht hM l N (b + 1) _ _ g3 rfl hlen (by rw [List.append_assoc]; exact h6) (by omega)
theorem ze3 {α : Type} (f : α -> Nat) : ∀ (l : List α), ∃ M, ∀ x ∈ l, f x < M
 | [] => ⟨0, fun _ h => by cases h⟩
 | x :: l => by
   obtain ⟨M, h⟩ := ze3 f l; exact ⟨max M (f x + 1), fun y hy => by
    rcases List.mem_cons.1 hy with rfl | hy
    · omega
    · have := h y hy; omega⟩
theorem zru {c : Chip} (hc : ChipOk c) (hp : PagesOk c) (ht : TagsOk c) : zcs c = some (allT c) := by
 obtain ⟨M, hM⟩ := ze3 (fun b : Block => b.pages.length) c.blocks; refine z1z (max M (c.blocks.length + 1)) fun N hN => ?_
 show z9z N c = _; unfold z9z; have := zv0 hc hp ht (M := N) (fun b hb => by have := hM b hb; omega) c.blocks N 0 0 [] rfl rfl (by simp) (by rw [List.nil_append]; exact zuy _ 0) (by omega); rw [this, List.nil_append, zwu]; unfold allT; rw [z9n]
end Clk
namespace Clk
open Go
def AllP (Q : Page -> Prop) (c : Chip) : Prop := ∀ b ∈ c.blocks, ∀ p ∈ b.pages, Q p
theorem zwv {Q : Page -> Prop} (hz : Q zPage) (n p : Int) (bad : List Int) : AllP Q (newT n p bad).1 := by
 unfold newT; split
 · intro b hb; simp [zChip] at hb
 · rename_i h; obtain ⟨h1, h2⟩ := zo0 (n := n) (m := n.toNat) bad (List.replicate n.toNat ⟨List.replicate p.toNat zPage, 0, 0, false⟩) (fun b hb => by
    obtain ⟨_, rfl⟩ := List.mem_replicate.1 hb; exact ⟨by simp; omega, fun q hq => (List.mem_replicate.1 hq).2⟩) (by simp)
   intro b hb q hq; rw [(h1 b hb).2 q hq]; exact hz
theorem zzd : tagOk [] := by
 intro h; exact absurd h (by decide)
theorem zrv (M : Nat) : (List.range 65).map (fun m : Nat => z5f (M + 8) [-1] (m : Int)) = (List.range 65).map (fun m => some (List.replicate m (-1 : Int))) := by kernel_rfl
theorem zww {n : Int} (h0 : 0 <= n) (h1 : n <= 64) : z2r ([-1], n) = some (List.replicate n.toNat (-1)) := by
 refine z1z 8 fun N hN => ?_
 obtain ⟨M, rfl⟩ : ∃ M, N = M + 8 := ⟨N - 8, by omega⟩; have h := congrArg (fun l => l[n.toNat]?) (zrv M); have hr : n.toNat < 65 := by omega
 simp only [List.getElem?_map, List.getElem?_range hr, Option.map_some, Option.some.injEq] at h; have e : ((n.toNat : Nat) : Int) = n := by omega
 rw [e] at h; exact h
theorem zmo (n : Int) : z9b n = some (tabT n) := by
 show z60 n = _; unfold z60; rw [zww (by omega) (by omega), z8, z8]; unfold tabT; rw [show (min (max n 0) 64).toNat = min n.toNat 64 by omega]
theorem zv1 {t : Table} (h : TabOk t) (f : Found) : TabOk (applyT t f) := by
 obtain ⟨h1, h2⟩ := zih t f; exact ⟨by rw [h1]; exact h.1, by rw [h2]; exact h.2⟩
theorem zkc : ∀ (l : List Found) (t u : Table) (s : Int), (repL l t s).2 = (repL l u s).2
 | [], t, u, s => rfl
 | f :: l, t, u, s => by unfold repL; exact zkc l _ _ _
theorem zq1 : ∀ (l : List Found) (t : Table) (s r : Int), (repL l t s).1 = (repL l t r).1
 | [], t, s, r => rfl
 | f :: l, t, s, r => by unfold repL; exact zq1 l _ _ _
theorem zir {xs : List Found} (hs : xs.length < 4294967296) {u : Table} : ∀ (l : List Found) (N k : Nat) (i s : Int), xs.drop k = l -> i = k -> l.length < N -> zj (z2t u) N (s, xs, (xs.length : Int), i) = some (u, (repL l u s).2)
 | l, 0, _, _, _, _, _, h => by omega
 | [], N + 1, k, i, s, h1, h2, _ => by
   have := z01 h1; rw [z6, z3v]; unfold z15; simp only [repL]; rw [zF (by omega), zD]
 | f :: l, N + 1, k, i, s, h1, h2, h4 => by
   obtain ⟨g1, g2, g3⟩ := zl h1; subst h2; rw [z6, z3v]; unfold z15; simp only [Int.toNat_natCast, g2, repL]; rw [zT (show (k : Int) < xs.length by omega), zT (show (0 : Int) <= k by omega)]; simp only [zC]; rw [zir hs l N (k + 1) _ _ g3 (by rw [zi (by omega) (by omega)]; omega) (by simp at h4; omega), zkc l u (applyT u f)]
theorem zis {xs : List Found} (hs : xs.length < 4294967296) (hf : z5z xs) {M : Nat} (hM : xs.length < M) : ∀ (l : List Found) (N k : Nat) (i : Int) (t : Table), xs.drop k = l -> i = k -> TabOk t -> l.length < N -> zj (z2u M xs) N (xs, (xs.length : Int), i, t) = some ((repL l t 0).1, (repL xs t 0).2)
 | l, 0, _, _, _, _, _, _, h => by omega
 | [], N + 1, k, i, t, h1, h2, h3, _ => by
   have := z01 h1; rw [z6, z3w]; unfold z16; dsimp only; rw [zF (by omega), zD]; exact zir hs xs M 0 0 0 rfl rfl hM
 | f :: l, N + 1, k, i, t, h1, h2, h3, h4 => by
   obtain ⟨g1, g2, g3⟩ := zl h1; subst h2; have hr : RecOk f.record := by rw [<- g2 default]; exact hf _ (z3u g1)
   rw [z6, z3w]; unfold z16; simp only [Int.toNat_natCast, g2, zhd h3 hr, z8]; rw [zT (show (k : Int) < xs.length by omega), zT (show (0 : Int) <= k by omega)]; simp only [zC]; rw [zis hs hf hM l N (k + 1) _ _ g3 (by rw [zi (by omega) (by omega)]; omega) (zv1 h3 f) (by simp at h4; omega)]; rw [show (repL (f :: l) t 0).1 = (repL l (applyT t f) 0).1 by rw [repL]; exact zq1 l _ _ _, zkc xs (applyT t f) t]
theorem zgy {c : Chip} (hc : ChipOk c) (hp : PagesOk c) (ht : TagsOk c) (n : Int) : z1d (c, n) = some (replayT c n) := by
 have := zwm c; refine z1z 4294967297 fun N hN => ?_
 show z2v N c n = _; unfold z2v; rw [zru hc hp ht, z8, zmo, z8, zis (xs := allT c) (by omega) (zz2 hp) (by omega) (allT c) N 0 0 _ rfl rfl (zug n) (by omega)]; rfl
end Clk
namespace Clk
open Go
theorem zmp : ∀ (l : List Found) (t : Table) (s : Int), (repL l t s).1 = l.foldl applyT t
 | [], t, s => rfl
 | f :: l, t, s => by unfold repL; exact zmp l _ _
theorem zwx {b p : Nat} {pg : Page} {f : Found} (h : f ∈ vv b p pg) : rightT f.record = true := by
 unfold vv at h; split at h
 · rename_i hc; simp at h; subst h; exact zrr hc.1
 · cases h
theorem zq2 (b : Nat) : ∀ (l : List Page) (p : Nat) (f : Found), f ∈ vp b p l -> rightT f.record = true
 | [], p, f, h => by simp [vp] at h
 | pg :: l, p, f, h => by
   unfold vp at h; rcases List.mem_append.1 h with h | h
   · exact zwx h
   · exact zq2 b l (p + 1) f h
theorem zq3 : ∀ (l : List Block) (b : Nat) (f : Found), f ∈ vb b l -> rightT f.record = true
 | [], b, f, h => by simp [vb] at h
 | x :: l, b, f, h => by
   unfold vb at h; rcases List.mem_append.1 h with h | h
   · exact zq2 b _ 0 f h
   · exact zq3 l (b + 1) f h
theorem zwy (c : Chip) (f : Found) : f ∈ allT c ↔ f ∈ vb 0 c.blocks := by
 unfold allT; rw [z9n, zpz]; simp
end Clk
namespace Clk
open Go
end Clk
namespace Clk
open Go
end Clk
namespace Clk
open Go
def pageT (c : Chip) (place : Int) : Page × Bool :=
 if place < 0 \/ (c.blocks.length : Int) <= place / 16 \/ 32 <= place / 16 \/ ((c.blocks.getD (place / 16).toNat default).pages.length : Int) <= place % 16 then (zPage, false)
 else ((c.blocks.getD (place / 16).toNat default).pages.getD (place % 16).toNat default, true)
def I64 (n : Int) : Prop := -9223372036854775808 <= n /\ n < 9223372036854775808
theorem zoo (c : Chip) {place : Int} (hp : I64 place) : zax (c, place) = some (pageT c place) := by
 obtain ⟨p1, p2⟩ := hp; show z7v c place = _; unfold z7v pageT; by_cases c1 : place < 0
 · rw [zT c1, zC, if_pos (.inl c1)]; rfl
 · rw [zF c1, zD, Int.tdiv_eq_ediv_of_nonneg (by omega), Int.tmod_eq_emod_of_nonneg (by omega), zi (n := place / 16) (by omega) (by omega)]; by_cases c2 : min (c.blocks.length : Int) 32 <= place / 16
   · rw [zT c2, zC, if_pos (by omega)]; rfl
   · rw [zF c2, zD, zT (show 0 <= place / 16 by omega), zT (show place / 16 < (c.blocks.length : Int) by omega)]; simp only [zC]; by_cases c3 : ((c.blocks.getD (place / 16).toNat default).pages.length : Int) <= place % 16
     · rw [zT c3, zC, if_pos (by omega)]; rfl
     · rw [zF c3, zD, zT (show 0 <= place % 16 by omega), zT (show place % 16 < ((c.blocks.getD (place / 16).toNat default).pages.length : Int) by omega), if_neg (by omega)]; rfl
end Clk
namespace Clk
open Go
theorem zkd {x : Bool} {xs : List Bool} (hs : xs.length < 4294967296) : ∀ (l : List Bool) (N k : Nat) (i : Int), xs.drop k = l -> i = k -> l.length < N -> ∃ r, zj z0d N (xs, x, (xs.length : Int), i) = some r /\ (decide (0 <= r) = l.contains x)
 | l, 0, _, _, _, _, h => by omega
 | [], N + 1, k, i, h1, h2, _ => by
   have := z01 h1; refine ⟨-1, ?_, by simp⟩; rw [z6, z02]; unfold z0c; dsimp only; rw [zF (by omega), zD]
 | y :: l, N + 1, k, i, h1, h2, h4 => by
   obtain ⟨g1, g2, g3⟩ := zl h1; subst h2; rw [z6, z02]; unfold z0c; simp only [Int.toNat_natCast, g2]; rw [zT (show (k : Int) < xs.length by omega), zT (show (0 : Int) <= k by omega)]; simp only [zC]; by_cases hy : x = y
   · subst hy; exact ⟨k, by simp, by simp⟩
   · obtain ⟨r, k1, k2⟩ := zkd (x := x) hs l N (k + 1) _ g3 (show w64 ((k : Int) + 1) = ((k + 1 : Nat) : Int) by rw [zi (by omega) (by omega)]; omega) (by simp at h4; omega); refine ⟨r, ?_, ?_⟩
     · rw [show (x == y) = false by simpa using hy, zD]; exact k1
     · rw [k2, List.contains_cons]; simp [hy]
theorem zrw {x : Bool} {xs : List Bool} (hs : xs.length < 4294967296) : z3d (xs, x) = some (xs.contains x) := by
 obtain ⟨r, h1, h2⟩ : ∃ r, z6i (xs, x) = some r /\ decide (0 <= r) = xs.contains x := by
  obtain ⟨r, h1, h2⟩ := zkd (x := x) hs xs (xs.length + 1) 0 0 rfl rfl (by omega); refine ⟨r, z1z (xs.length + 1) fun N hN => ?_, h2⟩; obtain ⟨r', k1, _⟩ := zkd (x := x) hs xs N 0 0 rfl rfl (by omega); show zj z0d N (xs, x, (xs.length : Int), 0) = _; have e : ∀ (l : List Bool) (N M k : Nat) (i : Int), xs.drop k = l -> i = k -> l.length < N -> l.length < M -> zj z0d N (xs, x, (xs.length : Int), i) = zj z0d M (xs, x, (xs.length : Int), i) := by
   intro l; induction l with
   | nil =>
     intro N M k i h1 h2 h3 h4; obtain ⟨N, rfl⟩ : ∃ n, N = n + 1 := ⟨N - 1, by omega⟩; obtain ⟨M, rfl⟩ : ∃ n, M = n + 1 := ⟨M - 1, by omega⟩; have := z01 h1; rw [z6, z6, z02, z02]; unfold z0c; dsimp only; rw [zF (by omega), zD]; rfl
   | cons y l ih =>
     intro N M k i h1 h2 h3 h4; obtain ⟨N, rfl⟩ : ∃ n, N = n + 1 := ⟨N - 1, by omega⟩; obtain ⟨M, rfl⟩ : ∃ n, M = n + 1 := ⟨M - 1, by omega⟩; obtain ⟨g1, g2, g3⟩ := zl h1; subst h2; rw [z6, z6, z02, z02]; unfold z0c; dsimp only; rw [ih N M (k + 1) (w64 ((k : Int) + 1)) g3 (by rw [zi (by omega) (by omega)]; omega) (by simp at h3; omega) (by simp at h4; omega)]
  rw [e xs N (xs.length + 1) 0 0 rfl rfl (by omega) (by omega)]; exact h1
 show z1n xs x = _; unfold z1n; rw [h1, z8, h2]
theorem zep (a b c : Int) : z1o (a, b, c) = some (decide (b <= a) && decide (a <= c)) := by
 show z4p a b c = _; unfold z4p; by_cases h : b <= a
 · rw [zT h, zC, Bool.true_and]
 · rw [zF h, zD, Bool.false_and]
theorem z00v (l : List Bool) (h : l.length < 4294967296) : zct l = some (!l.contains false) := by
 show za0 l = _; unfold za0; rw [zrw h, z8]
theorem z5l (g : Geometry) : z2c g = some (fitsT g) := by
 show z7w g = _; rw [<- z003 g]; show _ = z3t g; unfold z7w z3t; rw [zep, z8, zep, z8, zep, z8, zep, z8, z00v _ (by simp), z8]; by_cases c1 : 1 <= g.blocks <;> by_cases c2 : g.blocks <= 32 <;> by_cases c3 : 2 <= g.pages <;> by_cases c4 : g.pages <= 16 <;> by_cases c5 : 1 <= g.sectors <;> by_cases c6 : g.sectors <= 64 <;> by_cases c7 : 0 <= g.spare <;> by_cases c8 : g.spare <= 32 <;> simp [c1, c2, c3, c4, c5, c6, c7, c8]
theorem zv2 (c : Chip) : z9d c = some (onT c) := rfl
theorem zq4 {c : Chip} (hc : ChipOk c) : ∀ (l : List Block) (N k : Nat) (i s : Int), c.blocks.drop k = l -> i = k -> 0 <= s -> s <= k -> l.length < N -> zj z6j N (s, c.blocks, (c.blocks.length : Int), i) = some (s + badsL l)
 | l, 0, _, _, _, _, _, _, _, h => by omega
 | [], N + 1, k, i, s, h1, h2, h3, h4, _ => by
   have := z01 h1; rw [z6, z73]; unfold z3o; simp only [badsL, Int.add_zero]; rw [zF (by omega), zD]
 | x :: l, N + 1, k, i, s, h1, h2, h3, h4, h5 => by
   obtain ⟨g1, g2, g3⟩ := zl h1; have hl := hc.1; subst h2; have e1 : w64 ((k : Int) + 1) = ((k + 1 : Nat) : Int) := by rw [zi (by omega) (by omega)]; rfl
   have ih := fun s' h h' => zq4 hc l N (k + 1) _ s' g3 rfl h h' (by simp at h5; omega)
   rw [z6, z73]; unfold z3o; simp only [Int.toNat_natCast, g2, badsL, e1]; rw [zT (show (k : Int) < c.blocks.length by omega), zT (show (0 : Int) <= k by omega)]; simp only [zC]; cases hb : x.bad with
   | true => rw [zC, if_pos rfl, zi (n := s + 1) (by omega) (by omega), ih (s + 1) (by omega) (by omega)]; congr 1; omega
   | false => rw [zD, if_neg (by simp), ih s (by omega) (by omega)]; congr 1; omega
theorem zgz {c : Chip} (hc : ChipOk c) : z7z c = some (badsT c) := by
 have := hc.1; refine z1z 4294967297 fun N hN => ?_
 have := zq4 hc c.blocks N 0 0 0 rfl rfl (by omega) (by omega) (by omega); rw [Int.zero_add] at this; exact this
def oddB (g : Geometry) (b : Block) : Bool := !(decide ((b.pages.length : Int) = g.pages))
def openB (g : Geometry) (b : Block) : Bool := !b.bad && decide (0 < b.next) && decide (b.next < g.pages)
def findO (g : Geometry) : Nat -> List Block -> Int
 | _, [] => -1
 | i, b :: l => if openB g b = true then (i : Int) else findO g (i + 1) l
theorem zq5 {g : Geometry} : ∀ (l : List Block) (i : Nat) (o : Int), l.any (oddB g) = true -> mtL g i l o = none
 | [], i, o, h => by simp at h
 | b :: l, i, o, h => by
   unfold mtL; by_cases hb : (b.pages.length : Int) = g.pages
   · rw [if_neg (by simp [hb])]; refine zq5 l _ _ ?_; simpa [oddB, hb] using h
   · rw [if_pos hb]
theorem zq6 {g : Geometry} : ∀ (l : List Block) (i : Nat) (o : Int), l.any (oddB g) = false -> mtL g i l o = some (if o < 0 then (if findO g i l = -1 then o else findO g i l) else o)
 | [], i, o, h => by simp [mtL, findO]
 | b :: l, i, o, h => by
   unfold mtL findO; have hb : (b.pages.length : Int) = g.pages := by
    rw [List.any_cons, Bool.or_eq_false_iff] at h; have := h.1; unfold oddB at this; simpa using this
   have h2 : l.any (oddB g) = false := by rw [List.any_cons, Bool.or_eq_false_iff] at h; exact h.2
   rw [if_neg (by simp [hb]), zq6 l _ _ h2]; by_cases ho : o < 0
   · by_cases hop : openB g b = true
     · have hop' := hop; unfold openB at hop; simp at hop; have e : (if o < 0 /\ b.bad = false /\ 0 < b.next /\ b.next < g.pages then (i : Int) else o) = i := if_pos ⟨ho, hop.1.1, hop.1.2, hop.2⟩; rw [e, if_neg (show ¬ (i : Int) < 0 by omega), if_pos ho, if_pos hop', if_neg (by omega)]
     · have e : (if o < 0 /\ b.bad = false /\ 0 < b.next /\ b.next < g.pages then (i : Int) else o) = o := if_neg fun ⟨_, h1, h2, h3⟩ => hop (by unfold openB; simp [h1, h2, h3])
       rw [e, if_neg hop]
   · have e : (if o < 0 /\ b.bad = false /\ 0 < b.next /\ b.next < g.pages then (i : Int) else o) = o := if_neg fun h => ho h.1
     rw [e, if_neg ho, if_neg ho]
theorem zmq {g : Geometry} {bs : List Block} (hs : bs.length < 4294967296) {d : Device} : ∀ (l : List Block) (N k : Nat) (i : Int), bs.drop k = l -> i = k -> l.length < N -> zj z1e N (bs, (bs.length : Int), i, g, d) = some (⟨d.geometry, d.chip, d.table, d.seq, findO g k l⟩, 0)
 | l, 0, _, _, _, _, h => by omega
 | [], N + 1, k, i, h1, h2, _ => by
   have := z01 h1; rw [z6, z62]; unfold z2w findO; dsimp only; rw [zF (by omega), zD]
 | b :: l, N + 1, k, i, h1, h2, h4 => by
   obtain ⟨g1, g2, g3⟩ := zl h1; subst h2; have e1 : w64 ((k : Int) + 1) = ((k + 1 : Nat) : Int) := by rw [zi (by omega) (by omega)]; omega
   have ih := zmq (g := g) hs (d := d) l N (k + 1) _ g3 rfl (by simp at h4; omega); rw [z6, z62]; unfold z2w findO openB; simp only [Int.toNat_natCast, g2]; rw [zT (show (k : Int) < bs.length by omega), zT (show (0 : Int) <= k by omega), e1, ih]; simp only [zC]; cases b.bad <;> by_cases c1 : 0 < b.next <;> by_cases c2 : b.next < g.pages <;> simp [c1, c2]
theorem zmr {g : Geometry} {c : Chip} (hc : ChipOk c) {N0 : Nat} {R : Device × Int} (hR : (Option.bind (z9d c) fun r8 => Option.bind (z1d (c, g.sectors)) fun r9 => zj z1e N0 (c.blocks, (c.blocks.length : Int), 0, g, (Device.mk g r8 r9.1 r9.2 (-1)))) = some R) : ∀ (l : List Block) (N k : Nat) (i : Int), c.blocks.drop k = l -> i = k -> l.length < N -> zj (z5h N0) N (c.blocks, (c.blocks.length : Int), i, g, c) = some (if l.any (oddB g) = true then (zDev, 1) else R)
 | l, 0, _, _, _, _, h => by omega
 | [], N + 1, k, i, h1, h2, _ => by
   have := z01 h1; rw [z6, z63]; unfold z2x; dsimp only; rw [zF (by omega), zD, hR]; rfl
 | b :: l, N + 1, k, i, h1, h2, h4 => by
   have hl := hc.1; obtain ⟨g1, g2, g3⟩ := zl h1; subst h2; have e1 : w64 ((k : Int) + 1) = ((k + 1 : Nat) : Int) := by rw [zi (by omega) (by omega)]; omega
   have ih := zmr (g := g) hc hR l N (k + 1) _ g3 rfl (by simp at h4; omega); rw [z6, z63]; unfold z2x; simp only [Int.toNat_natCast, g2]; rw [zT (show (k : Int) < c.blocks.length by omega), zT (show (0 : Int) <= k by omega), e1, ih]; simp only [zC]; by_cases hb : (b.pages.length : Int) = g.pages
   · rw [zT hb, Bool.not_true, zD, List.any_cons, show oddB g b = false by unfold oddB; rw [zT hb]; rfl, Bool.false_or]
   · rw [zF hb, Bool.not_false, zC, List.any_cons, show oddB g b = true by unfold oddB; rw [zF hb]; rfl, Bool.true_or]; rfl
theorem ze4 {g : Geometry} {c : Chip} (hc : ChipOk c) (hp : PagesOk c) (ht : TagsOk c) : z65 (g, c) = some (mountT g c) := by
 have hl := hc.1; refine z1z 4294967297 fun N hN => ?_
 show z64 N g c = _; unfold z64 mountT; rw [z5l, z8]; cases fitsT g with
 | false => rfl
 | true =>
   rw [Bool.not_true, zD]; by_cases c1 : (c.blocks.length : Int) = g.blocks
   · rw [zT c1, Bool.not_true, zD, if_neg (by simp [c1])]; rw [zmr hc (by rw [zv2, z8, zgy hc hp ht, z8, zmq (by omega) c.blocks N 0 0 rfl rfl (by omega)]) c.blocks N 0 0 rfl rfl (by omega)]; cases ha : c.blocks.any (oddB g) with
     | true => rw [if_pos rfl, zq5 _ _ _ ha]
     | false =>
       rw [if_neg (by simp), zq6 _ _ _ ha]; simp only [show ((-1 : Int) < 0) from by decide, if_true]; by_cases hf : findO g 0 c.blocks = -1
       · rw [if_pos hf, hf]
       · rw [if_neg hf]
   · rw [zF c1, Bool.not_false, zC, if_pos (.inr c1)]; rfl
def outB (n x : Int) : Bool := decide (x < 0) || decide (n <= x)
theorem zke {n : Int} : ∀ (l : List Int) (bs : List Block), l.any (outB n) = true -> newL n l bs = (zChip, 1)
 | [], bs, h => by simp at h
 | x :: l, bs, h => by
   unfold newL; by_cases hx : x < 0 \/ n <= x
   · rw [if_pos hx]
   · rw [if_neg hx]; refine zke l _ ?_; rw [List.any_cons] at h; have : outB n x = false := by unfold outB; simp; omega
     rwa [this, Bool.false_or] at h
theorem zwz (xs : List Block) (i : Nat) (v : Bool) : (bBad xs i v).length = xs.length := by unfold bBad; simp
theorem zv3 {n : Int} {bad : List Int} (hb : bad.length < 4294967296) : ∀ (l : List Int) (N k : Nat) (i : Int) (bs : List Block), bad.drop k = l -> i = k -> (bs.length : Int) = n -> l.any (outB n) = false -> l.length < N -> zj z7x N (bad, (bad.length : Int), i, bs, false, false, 0) = some (newL n l bs)
 | l, 0, _, _, _, _, _, _, _, h => by omega
 | [], N + 1, k, i, bs, h1, h2, h3, _, _ => by
   have := z01 h1; rw [z6, z8l]; unfold z4q newL; dsimp only; rw [zF (by omega), zD]
 | x :: l, N + 1, k, i, bs, h1, h2, h3, h4, h5 => by
   obtain ⟨g1, g2, g3⟩ := zl h1; subst h2; rw [List.any_cons, Bool.or_eq_false_iff] at h4; have hx : 0 <= x /\ x < n := by have := h4.1; unfold outB at this; simp at this; omega
   rw [z6, z8l]; unfold z4q newL; simp only [Int.toNat_natCast, g2]; rw [zT (show (k : Int) < bad.length by omega), zT (show (0 : Int) <= k by omega), zT hx.1, zT (show x < (bs.length : Int) by omega), zT (show x.toNat < bs.length by omega), if_neg (by omega)]; simp only [zC]; exact zv3 hb l N (k + 1) _ _ g3 (by rw [zi (by omega) (by omega)]; omega) (by rw [zwz]; exact h3) h4.2 (by simp at h5; omega)
def bl0 (p : Int) : Block := ⟨List.replicate p.toNat zPage, 0, 0, false⟩
theorem zv4 {n p : Int} {bad : List Int} (hb : bad.length < 4294967296) (hn : n <= 32) (hp : 1 <= p) (hp2 : p <= 16) (hg : bad.any (outB n) = false) {M : Nat} (hM : bad.length < M) : ∀ (m N k : Nat) (i : Int), (k : Int) + m = n -> i = k -> m < N -> zj (z2y M) N (p, bad, n, i, List.replicate k (bl0 p) ++ List.replicate m default, false, false, 0) = some (newL n bad (List.replicate n.toNat (bl0 p)))
 | m, 0, _, _, _, _, h => by omega
 | 0, N + 1, k, i, h1, h2, _ => by
   rw [z6, z8m]; unfold z4r; dsimp only; rw [zF (by omega), zD, List.replicate_zero, List.append_nil, show k = n.toNat by omega]; exact zv3 hb bad M 0 0 _ rfl rfl (by simp; omega) hg (by omega)
 | m + 1, N + 1, k, i, h1, h2, h3 => by
   subst h2; rw [z6, z8m]; unfold z4r; simp only [Int.toNat_natCast, List.length_append, List.length_replicate]; rw [zT (show (k : Int) < n by omega), zT (show 0 <= p by omega), zT (Int.le_refl p), zT (show p * 40 <= 70368744177664 by omega), zT (show p <= 70368744177664 by omega), zT (show (0 : Int) <= k by omega), zT (show (k : Int) < ((k + (m + 1) : Nat) : Int) by omega), zT (show k < k + (m + 1) by omega)]; simp only [zC]; have e : bPages (List.replicate k (bl0 p) ++ List.replicate (m + 1) default) k (List.replicate p.toNat default) = List.replicate (k + 1) (bl0 p) ++ List.replicate m default := by
    unfold bPages; have e1 : (List.replicate k (bl0 p) ++ List.replicate (m + 1) (default : Block)).getD k default = default := by
     rw [zI, List.getElem?_append_right (by simp)]; simp
    rw [e1, List.set_append_right _ _ (by simp)]; simp only [List.length_replicate, Nat.sub_self, List.replicate_succ, List.set_cons_zero]; rw [<- List.replicate_succ, List.replicate_succ', List.append_assoc]; rfl
   rw [e]; exact zv4 hb hn hp hp2 hg hM m N (k + 1) _ (by omega) (by rw [zi (by omega) (by omega)]; omega) (by omega)
theorem zv5 {n p : Int} {bad : List Int} (hb : bad.length < 4294967296) (hn1 : 1 <= n) (hn : n <= 32) (hp : 1 <= p) (hp2 : p <= 16) {M : Nat} (hM : bad.length + 33 < M) : ∀ (l : List Int) (N k : Nat) (i : Int), bad.drop k = l -> i = k -> l.length < N -> (l.any (outB n) = false -> bad.any (outB n) = false) -> (l.any (outB n) = true -> bad.any (outB n) = true) -> zj (z7y M p bad) N (bad, (bad.length : Int), i, n) = some (newL n bad (List.replicate n.toNat (bl0 p)))
 | l, 0, _, _, _, _, h, _, _ => by omega
 | [], N + 1, k, i, h1, h2, _, hf, _ => by
   have := z01 h1; rw [z6, z8n]; unfold z4s; dsimp only; rw [zF (by omega), zD, zT (show 0 <= n by omega), zT (Int.le_refl n), zT (show n * 48 <= 70368744177664 by omega), zT (show n <= 70368744177664 by omega)]; simp only [zC, List.length_replicate]; rw [show ((n.toNat : Nat) : Int) = n by omega]; exact zv4 hb hn hp hp2 (hf rfl) (by omega) n.toNat M 0 0 (by omega) rfl (by omega)
 | x :: l, N + 1, k, i, h1, h2, h3, hf, ht => by
   obtain ⟨g1, g2, g3⟩ := zl h1; subst h2; rw [z6, z8n]; unfold z4s; simp only [Int.toNat_natCast, g2]; rw [zT (show (k : Int) < bad.length by omega), zT (show (0 : Int) <= k by omega)]; simp only [zC]; by_cases c1 : x < 0
   · rw [zT c1, zC, zke _ _ (ht (by rw [List.any_cons]; unfold outB; rw [zT c1]; rfl))]; rfl
   · rw [zF c1, zD]; by_cases c2 : n <= x
     · rw [zT c2, zC, zke _ _ (ht (by rw [List.any_cons]; unfold outB; rw [zT c2, Bool.or_true, Bool.true_or]))]; rfl
     · rw [zF c2, zD]; have ho : outB n x = false := by unfold outB; rw [zF c1, zF c2]; rfl
       rw [List.any_cons, ho, Bool.false_or] at hf ht; exact zv5 hb hn1 hn hp hp2 hM l N (k + 1) _ g3 (by rw [zi (by omega) (by omega)]; omega) (by simp at h3; omega) hf ht
theorem zrx {n p : Int} {bad : List Int} (hb : bad.length < 4294967296) : zcu (n, p, bad) = some (newT n p bad) := by
 refine z1z (bad.length + 34) fun N hN => ?_
 show za1 N n p bad = _; unfold za1 newT; by_cases c1 : n < 1
 · rw [zT c1, zC, if_pos (.inl c1)]; rfl
 · rw [zF c1, zD]; by_cases c2 : 32 < n
   · rw [zT c2, zC, if_pos (.inr (.inl c2))]; rfl
   · rw [zF c2, zD]; by_cases c3 : p < 1
     · rw [zT c3, zC, if_pos (.inr (.inr (.inl c3)))]; rfl
     · rw [zF c3, zD]; by_cases c4 : 16 < p
       · rw [zT c4, zC, if_pos (.inr (.inr (.inr c4)))]; rfl
       · rw [zF c4, zD, if_neg (by omega)]; exact zv5 hb (by omega) (by omega) (by omega) (by omega) hN bad N 0 0 rfl rfl (by omega) (fun h => h) (fun h => h)
theorem z8a {g : Geometry} {bad : List Int} (hb : bad.length < 4294967296) : z0h (g, bad) = some (z0q g bad) := by
 obtain ⟨hc, hp⟩ := zuh g.blocks g.pages bad; show z4t g bad = _; unfold z4t z0q; rw [z5l, z8]; cases fitsT g with
 | false => rfl
 | true =>
   rw [Bool.not_true, zD, zrx hb, z8]; by_cases c1 : (newT g.blocks g.pages bad).2 = 0
   · rw [zT c1, Bool.not_true, zD, zgz hc, z8]; by_cases c2 : g.spare < badsT (newT g.blocks g.pages bad).1
     · rw [zT c2, zC, if_pos (.inr (.inr c2))]; rfl
     · rw [zF c2, zD, if_neg (by simp [c1]; omega), ze4 hc hp (zwv zzd _ _ _), z8]
   · rw [zF c1, Bool.not_false, zC, if_pos (.inr (.inl c1))]; rfl
def hasT (c : Chip) (t : Table) (s : Int) : Str := if s < 0 \/ (t.map.length : Int) <= s then [] else (pageT c (t.map.getD s.toNat 0)).1.data
def MapR (t : Table) : Prop := ∀ v ∈ t.map, I64 v
theorem zry {c : Chip} {t : Table} (h : MapR t) (s : Int) : zcv (c, t, s) = some (hasT c t s) := by
 show za2 c t s = _; unfold za2 hasT; by_cases c1 : s < 0
 · rw [zT c1, zC, if_pos (.inl c1)]
 · rw [zF c1, zD]; by_cases c2 : (t.map.length : Int) <= s
   · rw [zT c2, zC, if_pos (.inr c2)]
   · rw [zF c2, zD, zT (show 0 <= s by omega), zT (show s < (t.map.length : Int) by omega), if_neg (by omega), zoo _ (h _ (z3u (by omega))), z8]; rfl
def allD (d : Device) : List Str := (List.range d.table.map.length).map fun s : Nat => hasT d.chip d.table s
theorem zv6 {d : Device} (h : MapR d.table) (hl : d.table.map.length < 4294967296) : ∀ (m N k : Nat) (i : Int), k + m = d.table.map.length -> i = k -> m < N -> zj z80 N ((d.table.map.length : Int), i, d, ((List.range k).map fun s : Nat => hasT d.chip d.table s) ++ List.replicate m []) = some (allD d)
 | m, 0, _, _, _, _, h => by omega
 | 0, N + 1, k, i, h1, h2, _ => by
   rw [z6, z8o]; unfold z4u allD; dsimp only; rw [zF (by omega), zD, List.replicate_zero, List.append_nil, show k = d.table.map.length by omega]
 | m + 1, N + 1, k, i, h1, h2, h3 => by
   subst h2; rw [z6, z8o]; unfold z4u; simp only [Int.toNat_natCast, List.length_append, List.length_map, List.length_range, List.length_replicate]; rw [zT (show (k : Int) < (d.table.map.length : Int) by omega), zC, zry h, z8, zT (show (0 : Int) <= k by omega), zT (show (k : Int) < ((k + (m + 1) : Nat) : Int) by omega), zT (show k < k + (m + 1) by omega)]; simp only [zC]; have e : (((List.range k).map fun s : Nat => hasT d.chip d.table s) ++ List.replicate (m + 1) []).set k (hasT d.chip d.table k) = ((List.range (k + 1)).map fun s : Nat => hasT d.chip d.table s) ++ List.replicate m [] := by
    rw [List.set_append_right _ _ (by simp)]; simp only [List.length_map, List.length_range, Nat.sub_self, List.replicate_succ, List.set_cons_zero, List.range_succ, List.map_append, List.map_cons, List.map_nil, List.append_assoc, List.cons_append, List.nil_append]
   rw [e]; exact zv6 h hl m N (k + 1) _ (by omega) (by rw [zi (by omega) (by omega)]; omega) (by omega)
theorem zrz {d : Device} (h : MapR d.table) (hl : d.table.map.length < 4294967296) : zcw d = some (allD d) := by
 refine z1z (d.table.map.length + 1) fun N hN => ?_
 show za3 N d = _; unfold za3; simp only [Int.toNat_natCast, List.length_replicate]; rw [zT (by omega), zT (by omega), zT (by omega), zT (by omega)]; simp only [zC]; exact zv6 h hl d.table.map.length N 0 0 (by omega) rfl (by omega)
def resT (d : Device) : Int := 2 + 2 * max (d.geometry.spare - badsT d.chip) 0
theorem zs0 {c : Chip} (hc : ChipOk c) : 0 <= badsT c /\ badsT c < 4294967296 := by
 have := zju c.blocks; have := hc.1; unfold badsT; omega
theorem zac {d : Device} (hc : ChipOk d.chip) (hg : 0 <= d.geometry.spare /\ d.geometry.spare < 4294967296) : z3q d = some (resT d) := by
 have := zs0 hc; show z3p d = _; unfold z3p resT; rw [zgz hc, z8, zi (n := d.geometry.spare - badsT d.chip) (by omega) (by omega), zi (n := 2 * max (d.geometry.spare - badsT d.chip) 0) (by omega) (by omega), zi (by omega) (by omega)]
theorem z005 {f : Found} {i : Nat} {k : Int} {t : Table} (hf : I64 f.place) (hv : ∀ v ∈ f.record.values, I64 v) (h : MapR t) : MapR (app1 f i k t) := by
 unfold app1; split
 · split
   · intro v hm; rcases List.mem_or_eq_of_mem_set hm with h1 | rfl
     · exact h v h1
     · exact hf
   · split
     · rename_i hc; intro v hm; rcases List.mem_or_eq_of_mem_set hm with h1 | rfl
       · exact h v h1
       · exact hv _ (z3u hc.2)
     · exact h
 · exact h
theorem zxm {f : Found} (hf : I64 f.place) (hv : ∀ v ∈ f.record.values, I64 v) : ∀ (l : List Int) (i : Nat) (t : Table), MapR t -> MapR (appL f i l t)
 | [], i, t, h => h
 | k :: l, i, t, h => zxm hf hv l (i + 1) _ (z005 hf hv h)
theorem zv7 : ∀ (l : List Found) (t : Table), (∀ f ∈ l, I64 f.place /\ ∀ v ∈ f.record.values, I64 v) -> MapR t -> MapR (l.foldl applyT t)
 | [], t, _, h => h
 | f :: l, t, hl, h => zv7 l _ (fun g hg => hl g (List.mem_cons_of_mem _ hg)) (zxm (hl f List.mem_cons_self).1 (hl f List.mem_cons_self).2 _ 0 t h)
theorem zs1 {r : Record} (h : rightT r = true) : ∀ v ∈ r.values, I64 v := by
 intro v hv; unfold rightT at h; simp only [Bool.and_eq_true] at h; have h2 := h.2; split at h2
 · have : r.values = [] := by simpa using h2
   rw [this] at hv; cases hv
 · simp only [Bool.and_eq_true] at h2; have := List.all_eq_true.1 h2.1.1 v hv; unfold vr at this; simp at this; exact ⟨by omega, by omega⟩
theorem zms : ∀ (l : List Block) (b : Nat) (f : Found), f ∈ vb b l -> 0 <= f.place /\ f.place < 512
 | [], b, f, h => by simp [vb] at h
 | x :: l, b, f, h => by
   unfold vb at h; rcases List.mem_append.1 h with h | h
   · obtain ⟨q, _, h2, h3, h4⟩ := zc0 h; omega
   · exact zms l _ f h
theorem zx0 (c : Chip) (n : Int) : MapR (replayT c n).1 := by
 unfold replayT; rw [zmp]; refine zv7 _ _ (fun f hf => ?_) (fun v hv => ?_)
 · have hm := (zwy c f).1 hf; have := zms _ _ _ hm; exact ⟨⟨by omega, by omega⟩, zs1 (zq3 _ _ _ hm)⟩
 · unfold tabT at hv; rw [(List.mem_replicate.1 hv).2]; exact ⟨by omega, by omega⟩
theorem zze (g : Geometry) (c : Chip) : MapR (mountT g c).1.table := by
 unfold mountT; split
 · intro v hv; simp [zDev] at hv
 · split
   · intro v hv; simp [zDev] at hv
   · exact zx0 c _
theorem zx1 (g : Geometry) (bad : List Int) : MapR (z0q g bad).1.table := by
 unfold z0q; split
 · intro v hv; simp [zDev] at hv
 · exact zze _ _
end Clk
namespace Clk
open Go
theorem zop (g : Geometry) (c : Chip) : 0 <= (mountT g c).1.geometry.spare /\ (mountT g c).1.geometry.spare < 4294967296 := by
 unfold mountT; split
 · exact ⟨by simp [zDev], by simp [zDev]⟩
 · rename_i h; have hf : fitsT g = true := by
    cases hg : fitsT g with
    | true => rfl
    | false => exact absurd (.inl hg) h
   unfold fitsT at hf; simp at hf; split
   · exact ⟨by simp [zDev], by simp [zDev]⟩
   · exact ⟨hf.1.1.2, by show g.spare < _; omega⟩
theorem ze5 (g : Geometry) (bad : List Int) : 0 <= (z0q g bad).1.geometry.spare /\ (z0q g bad).1.geometry.spare < 4294967296 := by
 unfold z0q; split
 · exact ⟨by simp [zDev], by simp [zDev]⟩
 · exact zop _ _
def zq7 : Bool :=
 let d := z0q (smallT 0) [2]
 let l := allD d.1
 fitsT (smallT 0) && !(fitsT ⟨0, 0, 0, 0⟩) && decide (d.2 = 0) && decide ((z0q (smallT 0) [2, 3]).2 = 1) && decide ((mountT (smallT 0) ⟨[], false, false, 0⟩).2 = 1) && decide (l.length = 5) && decide (l.getD 0 [] = []) && decide (d.1.opn = -1) && decide (resT d.1 = 2) && decide (d.1.chip.blocks.length = 8)
theorem zs2 : zq7 = true := by kernel_rfl
theorem zkf : z81 () = some true := by
 have h := zs2; unfold zq7 at h; simp only [Bool.and_eq_true, decide_eq_true_eq, Bool.not_eq_true'] at h; obtain ⟨⟨⟨⟨⟨⟨⟨⟨⟨a1, a2⟩, a3⟩, a4⟩, a5⟩, a6⟩, a7⟩, a8⟩, a9⟩, a10⟩ := h; have hd := zij (g := smallT 0) (bad := [2]); have hm := hd.2.1; show z4v = _; unfold z4v; rw [zz3 (by decide) (by decide), z8, z8a (by simp), z8, z8a (by simp), z8, ze4 ⟨by simp, fun b hb => by simp at hb⟩ (fun b hb => by simp at hb) (fun b hb => by simp at hb), z8, zrz (zx1 _ _) hm, z8, z5l, z8, z5l, z8, zac hd.1 (ze5 _ _), z8]; rw [a1, a2, a3, a4, a5, a6, a7, a8, a9, a10]; rfl
end Clk
namespace Clk
open Go
theorem zmt {g : Geometry} {c : Chip} : ((mountT g c).2 ≠ 0 -> (mountT g c).1 = zDev) /\ ((mountT g c).2 = 0 -> (mountT g c).1.chip = onT c /\ (mountT g c).1.geometry = g /\ (c.blocks.length : Int) = g.blocks) := by
 unfold mountT; split
 · exact ⟨fun _ => rfl, fun h => by simp at h⟩
 · rename_i h; split
   · exact ⟨fun _ => rfl, fun h => by simp at h⟩
   · refine ⟨fun h => by simp at h, fun _ => ⟨rfl, rfl, ?_⟩⟩; apply Decidable.byContradiction
     intro hc; exact h (.inr hc)
theorem zs3 {g : Geometry} {bad : List Int} (h : (z0q g bad).2 ≠ 0) : (z0q g bad).1 = zDev := by
 unfold z0q at h ⊢; split
 · rfl
 · rename_i hc; rw [if_neg hc] at h; exact zmt.1 h
theorem zoq {g : Geometry} {bad : List Int} (h : (z0q g bad).2 = 0) : fitsT g = true /\ badsT (newT g.blocks g.pages bad).1 <= g.spare /\ (z0q g bad).1.chip = onT (newT g.blocks g.pages bad).1 /\ (z0q g bad).1.geometry = g /\ ((newT g.blocks g.pages bad).1.blocks.length : Int) = g.blocks := by
 unfold z0q at h ⊢; split
 · rename_i hc; rw [if_pos hc] at h; simp at h
 · rename_i hc; rw [if_neg hc] at h; have := zmt.2 h; refine ⟨?_, ?_, this⟩
   · cases hf : fitsT g with
     | true => rfl
     | false => exact absurd (.inl hf) hc
   · apply Decidable.byContradiction
     intro hx; exact hc (.inr (.inr (by omega)))
theorem zit {n : Int} : ∀ (l : List Int) (bs : List Block), (∀ b ∈ bs, b.next = 0 /\ anyW b.pages = false) -> ∀ b ∈ (newL n l bs).1.blocks, b.next = 0 /\ anyW b.pages = false
 | [], bs, h => h
 | x :: l, bs, h => by
   unfold newL; split
   · intro b hb; simp [zChip] at hb
   · refine zit l _ fun b hb => ?_
     unfold bBad at hb; by_cases hx : x.toNat < bs.length
     · rcases List.mem_or_eq_of_mem_set hb with h' | rfl
       · exact h b h'
       · exact h (bs.getD x.toNat default) (z3u hx)
     · rw [List.set_eq_of_length_le (by omega)] at hb; exact h b hb
theorem zq8 : ∀ (n : Nat), anyW (List.replicate n zPage) = false
 | 0 => rfl
 | n + 1 => by rw [List.replicate_succ]; unfold anyW; rw [zq8 n]; rfl
theorem zv8 (n p : Int) (bad : List Int) : ∀ b ∈ (newT n p bad).1.blocks, b.next = 0 /\ anyW b.pages = false := by
 unfold newT; split
 · intro b hb; simp [zChip] at hb
 · exact zit _ _ fun b hb => by
    obtain ⟨_, rfl⟩ := List.mem_replicate.1 hb; exact ⟨rfl, zq8 _⟩
theorem zv9 {g : Geometry} {d : Device} (hc : ChipOk d.chip) (hs : 0 <= d.geometry.spare /\ d.geometry.spare < 4294967296) (hf : fitsT g = true) : ∀ (l : List Block) (N k : Nat) (i s : Int), d.chip.blocks.drop k = l -> (∀ b ∈ l, b.next = 0 /\ anyW b.pages = false) -> i = k -> 0 <= s -> s <= k -> resT d < s + l.length - badsL l -> l.length < N -> zj z05 N (true, s, i, g, d) = some true
 | l, 0, _, _, _, _, _, _, _, _, _, h => by omega
 | [], N + 1, k, i, s, h1, h2, h3, h4, h5, h6, _ => by
   have := z01 h1; rw [z6, z31]; unfold z0t; dsimp only; rw [zF (by omega), zD, zC, z5l, z8, hf, zC, zac hc hs, z8]; simp [badsL] at h6; rw [zT h6]
 | b :: l, N + 1, k, i, s, h1, h2, h3, h4, h5, h6, h7 => by
   obtain ⟨g1, g2, g3⟩ := zl h1; have hl := hc.1; subst h3; obtain ⟨b1, b2⟩ := h2 b List.mem_cons_self; have e1 : w64 ((k : Int) + 1) = ((k + 1 : Nat) : Int) := by rw [zi (by omega) (by omega)]; omega
   have ih := fun s' a1 a2 a3 => zv9 hc hs hf l N (k + 1) _ s' g3 (fun x hx => h2 x (List.mem_cons_of_mem _ hx)) rfl a1 a2 a3 (by simp at h7; omega)
   have hst : stateT d.chip (-1) (k : Int) = if b.bad = true then 3 else 0 := by
    unfold stateT; rw [if_neg (by omega), Int.toNat_natCast, g2]; cases hb : b.bad with
    | true => rfl
    | false => rw [if_neg (by simp), if_neg (fun h => by omega)]; unfold fcT; rw [b2, b1]; rfl
   rw [z6, z31]; unfold z0t; dsimp only; rw [zT (show (k : Int) < (d.chip.blocks.length : Int) by omega), zC, zjt hc, z8, hst, e1]; simp only [badsL, List.length_cons] at h6; cases hb : b.bad with
   | true =>
     rw [hb] at h6; simp only [if_true] at h6 ⊢; rw [zF (by decide), zD]; exact ih s h4 (by omega) (by omega)
   | false =>
     rw [hb] at h6; simp only [Bool.false_eq_true, if_false] at h6 ⊢; rw [zT (trivial : True), zC, zi (n := s + 1) (by omega) (by omega)]; exact ih (s + 1) (by omega) (by omega) (by omega)
theorem zkg {g : Geometry} {bad : List Int} (hb : bad.length < 4294967296) {N : Nat} (hN : 4294967296 <= N) : (Option.bind (z0h (g, bad)) fun r8 =>
 cond (!(decide (r8.2 = 0)))
  (cond true
    (some (decide (((r8.1.chip.blocks.length : Nat) : Int) = 0)))
    (some false))
  (zj z05 N (true, 0, 0, g, r8.1))) = some true := by
 rw [z8a hb, z8]; by_cases c : (z0q g bad).2 = 0
 · rw [zT c, Bool.not_true, zD]; obtain ⟨h1, h2, h3, h4, h5⟩ := zoq c; have hd := (zij (g := g) (bad := bad)).1; have hbl : (z0q g bad).1.chip.blocks = (newT g.blocks g.pages bad).1.blocks := by rw [h3]; rfl
   have hl := hd.1; refine zv9 hd (ze5 g bad) h1 _ N 0 0 0 rfl ?_ rfl (by omega) (by omega) ?_ (by rw [List.drop_zero]; omega)
   · rw [List.drop_zero, hbl]; exact zv8 _ _ _
   · rw [List.drop_zero]; unfold resT badsT at *; rw [h4, hbl, h5]; have := zju (newT g.blocks g.pages bad).1.blocks; unfold fitsT at h1; simp at h1; obtain ⟨⟨⟨⟨⟨⟨⟨⟨f1, f2⟩, f3⟩, f4⟩, f5⟩, f6⟩, f7⟩, f8⟩, f9⟩ := h1; have key : g.blocks - 2 * g.spare - 3 >= 1 := by
      apply Decidable.byContradiction
      intro hx; have : (g.blocks - 2 * g.spare - 3) * g.pages <= 0 := Int.mul_nonpos_of_nonpos_of_nonneg (by omega) (by omega); omega
     omega
 · rw [zF c, Bool.not_false, zC, zC, zs3 c]; rfl
theorem zva {g : Geometry} {l : List Int} {M : Nat} (hM : 4294967296 <= M) : ∀ (m N k : Nat) (i : Int) (bad : List Int), k + m = 15 -> i = k -> bad.length <= k -> m < N -> zj (z2e M) N (l, true, i, g, bad) = some true
 | m, 0, _, _, _, _, _, _, h => by omega
 | m, N + 1, k, i, bad, h1, h2, h3, h4 => by
   subst h2; rw [z6, z8r]; unfold z2d; dsimp only; by_cases c1 : (k : Int) < (l.length : Int)
   · rw [zT c1, zC]; by_cases c3 : (k : Int) < g.spare
     · rw [zT c3, zC]; by_cases c2 : (k : Int) < 15
       · obtain ⟨m, rfl⟩ : ∃ m', m = m' + 1 := ⟨m - 1, by omega⟩; rw [zT c2, zC, zT (show (0 : Int) <= k by omega), zT (by simp only [List.length_cons, List.length_nil]; omega), zT (by simp only [List.length_cons, List.length_nil]; omega)]; simp only [zC]; exact zva hM m N (k + 1) _ _ (by omega) (by rw [zi (by omega) (by omega)]; omega) (by simp; omega) (by omega)
       · rw [zF c2, zD]; exact zkg (by omega) hM
     · rw [zF c3, zD]; exact zkg (by omega) hM
   · rw [zF c1, zD]; exact zkg (by omega) hM
theorem zmu (a b c d : Int) (l : List Int) : z44 (a, b, c, d, l) = some true := by
 refine z1z 4294967297 fun N hN => ?_
 show z27 N a b c d l = _; unfold z27; rw [zkf, z8, Bool.not_true, zD]; exact zva (by omega) 15 N 0 0 [] rfl rfl (by simp) (by omega)
end Clk
