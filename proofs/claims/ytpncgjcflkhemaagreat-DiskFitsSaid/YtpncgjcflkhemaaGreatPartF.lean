/- A part of the proof of DiskFits: an evaluator of the program's code that the kernel runs, its soundness, what the functions compute. -/
import Derived.Test.YtpncgjcflkhemaaGreatPartE
import Derived.Test.YtpncgjcflkhemaaGreatProg
import Derived.Shelf.SlSortCmp.InsertionK
import Derived.CallsIn
import Derived.Shelf.SlSortCmp.NoneTotal
import Derived.Ground.SlsfProg
import Derived.WalkKit
import Derived.StillTailTactics
import Derived.WalkSmall
import Derived.Tactics
import Derived.Tactics2
import Derived.Defers
import Derived.Recover
import Derived.BigRegion
import Derived.Deep.RegionHeld3
import Derived.KernelRfl
set_option linter.unusedVariables false
set_option linter.unusedSimpArgs false
set_option maxRecDepth 1000000
namespace Go.Proofs.YtpncgjcflkhemaaGreat
open Clk Go.Proofs
noncomputable def tiL : List (Option TI) := [
 none,
 some ⟨1, 8, .func, .nilFunc⟩,
 some ⟨1, 8, (.int .i64), (.int .i64 0)⟩,
 some ⟨1, 8, (.int .i64), (.int .i64 0)⟩,
 some ⟨1, 1, .bool, (.bool false)⟩,
 some ⟨1, 1, (.int .u8), (.int .u8 0)⟩,
 some ⟨1, 1, (.int .u8), (.int .u8 0)⟩,
 some ⟨4, 24, (.struct [(0, 2), (1, 3), (2, 4), (3, 6)]), (.agg [(.int .i64 0), (.int .i64 0), (.bool false), (.int .u8 0)])⟩,
 some ⟨4, 24, (.struct [(0, 2), (1, 3), (2, 4), (3, 6)]), (.agg [(.int .i64 0), (.int .i64 0), (.bool false), (.int .u8 0)])⟩,
 some ⟨1, 16, .string, (.str ⟨#[]⟩)⟩,
 some ⟨1, 16, .string, (.str ⟨#[]⟩)⟩,
 some ⟨1, 16, .string, (.str ⟨#[]⟩)⟩,
 some ⟨1, 8, (.int .u64), (.int .u64 0)⟩,
 some ⟨2, 24, (.struct [(0, 9), (1, 12)]), (.agg [(.str ⟨#[]⟩), (.int .u64 0)])⟩,
 some ⟨2, 24, (.struct [(0, 9), (1, 12)]), (.agg [(.str ⟨#[]⟩), (.int .u64 0)])⟩,
 some ⟨1, 8, (.pointer 177), .nilPtr⟩,
 some ⟨1, 8, (.pointer 180), .nilPtr⟩,
 some ⟨1, 8, (.pointer 189), .nilPtr⟩,
 some ⟨1, 8, (.struct [(0, 17)]), (.agg [.nilPtr])⟩,
 some ⟨1, 8, (.struct [(0, 17)]), (.agg [.nilPtr])⟩,
 some ⟨1, 16, .iface, .nilIface⟩,
 some ⟨1, 4, (.int .i32), (.int .i32 0)⟩,
 some ⟨1, 24, (.slice 5), (.crows [])⟩,
 some ⟨4, 32, (.struct [(0, 3), (1, 3), (2, 3), (3, 3)]), (.agg [(.int .i64 0), (.int .i64 0), (.int .i64 0), (.int .i64 0)])⟩,
 some ⟨4, 32, (.struct [(0, 3), (1, 3), (2, 3), (3, 3)]), (.agg [(.int .i64 0), (.int .i64 0), (.int .i64 0), (.int .i64 0)])⟩,
 some ⟨1, 24, (.slice 3), (.crows [])⟩,
 some ⟨1, 24, (.slice 68), (.crows [])⟩,
 some ⟨4, 40, (.struct [(0, 26), (1, 4), (2, 4), (3, 3)]), (.agg [(.crows []), (.bool false), (.bool false), (.int .i64 0)])⟩,
 some ⟨4, 40, (.struct [(0, 26), (1, 4), (2, 4), (3, 3)]), (.agg [(.crows []), (.bool false), (.bool false), (.int .i64 0)])⟩,
 some ⟨2, 48, (.struct [(0, 25), (1, 25)]), (.agg [(.crows []), (.crows [])])⟩,
 some ⟨2, 48, (.struct [(0, 25), (1, 25)]), (.agg [(.crows []), (.crows [])])⟩,
 some ⟨12, 136, (.struct [(0, 24), (4, 28), (8, 30), (10, 3), (11, 3)]), (.agg [(.int .i64 0), (.int .i64 0), (.int .i64 0), (.int .i64 0), (.crows []), (.bool false), (.bool false), (.int .i64 0), (.crows []), (.crows []), (.int .i64 0), (.int .i64 0)])⟩,
 some ⟨12, 136, (.struct [(0, 24), (4, 28), (8, 30), (10, 3), (11, 3)]), (.agg [(.int .i64 0), (.int .i64 0), (.int .i64 0), (.int .i64 0), (.crows []), (.bool false), (.bool false), (.int .i64 0), (.crows []), (.crows []), (.int .i64 0), (.int .i64 0)])⟩,
 some ⟨1, 8, (.int .i64), (.int .i64 0)⟩,
 none,
 some ⟨1, 8, .func, .nilFunc⟩,
 some ⟨1, 8, .func, .nilFunc⟩,
 some ⟨1, 8, .func, .nilFunc⟩,
 some ⟨1, 8, .func, .nilFunc⟩,
 some ⟨1, 8, .func, .nilFunc⟩,
 some ⟨1, 24, (.slice 58), (.crows [])⟩,
 some ⟨1, 8, .func, .nilFunc⟩,
 some ⟨1, 8, .func, .nilFunc⟩,
 some ⟨1, 8, .func, .nilFunc⟩,
 some ⟨1, 8, .func, .nilFunc⟩,
 some ⟨1, 24, (.slice 9), (.crows [])⟩,
 some ⟨1, 8, .func, .nilFunc⟩,
 some ⟨1, 8, .func, .nilFunc⟩,
 some ⟨1, 8, .func, .nilFunc⟩,
 some ⟨1, 8, .func, .nilFunc⟩,
 some ⟨1, 8, .func, .nilFunc⟩,
 none,
 some ⟨1, 8, .func, .nilFunc⟩,
 some ⟨1, 8, .func, .nilFunc⟩,
 some ⟨1, 8, .func, .nilFunc⟩,
 some ⟨1, 8, .func, .nilFunc⟩,
 some ⟨1, 8, .func, .nilFunc⟩,
 some ⟨1, 24, (.slice 24), (.crows [])⟩,
 some ⟨1, 2, (.int .u16), (.int .u16 0)⟩,
 some ⟨3, 40, (.struct [(0, 4), (1, 9), (2, 9)]), (.agg [(.bool false), (.str ⟨#[]⟩), (.str ⟨#[]⟩)])⟩,
 some ⟨3, 40, (.struct [(0, 4), (1, 9), (2, 9)]), (.agg [(.bool false), (.str ⟨#[]⟩), (.str ⟨#[]⟩)])⟩,
 some ⟨1, 8, .func, .nilFunc⟩,
 some ⟨4, 48, (.struct [(0, 3), (1, 9), (2, 9), (3, 3)]), (.agg [(.int .i64 0), (.str ⟨#[]⟩), (.str ⟨#[]⟩), (.int .i64 0)])⟩,
 some ⟨4, 48, (.struct [(0, 3), (1, 9), (2, 9), (3, 3)]), (.agg [(.int .i64 0), (.str ⟨#[]⟩), (.str ⟨#[]⟩), (.int .i64 0)])⟩,
 some ⟨1, 8, .func, .nilFunc⟩,
 some ⟨1, 8, .func, .nilFunc⟩,
 some ⟨1, 24, (.slice 60), (.crows [])⟩,
 some ⟨4, 48, (.struct [(0, 66), (1, 3), (2, 3), (3, 4)]), (.agg [(.crows []), (.int .i64 0), (.int .i64 0), (.bool false)])⟩,
 some ⟨4, 48, (.struct [(0, 66), (1, 3), (2, 3), (3, 4)]), (.agg [(.crows []), (.int .i64 0), (.int .i64 0), (.bool false)])⟩,
 some ⟨1, 8, .func, .nilFunc⟩,
 some ⟨1, 8, .func, .nilFunc⟩,
 some ⟨1, 8, .func, .nilFunc⟩,
 none,
 some ⟨1, 8, .func, .nilFunc⟩,
 some ⟨1, 8, .func, .nilFunc⟩,
 some ⟨1, 8, .func, .nilFunc⟩,
 some ⟨1, 8, .func, .nilFunc⟩,
 some ⟨1, 8, .func, .nilFunc⟩,
 some ⟨1, 24, (.slice 4), (.crows [])⟩,
 some ⟨1, 8, .func, .nilFunc⟩,
 some ⟨4, 64, (.struct [(0, 3), (1, 3), (2, 25), (3, 25)]), (.agg [(.int .i64 0), (.int .i64 0), (.crows []), (.crows [])])⟩,
 some ⟨4, 64, (.struct [(0, 3), (1, 3), (2, 25), (3, 25)]), (.agg [(.int .i64 0), (.int .i64 0), (.crows []), (.crows [])])⟩,
 some ⟨1, 8, .func, .nilFunc⟩,
 none,
 some ⟨1, 8, .func, .nilFunc⟩,
 some ⟨5, 80, (.struct [(0, 9), (1, 81)]), (.agg [(.str ⟨#[]⟩), (.int .i64 0), (.int .i64 0), (.crows []), (.crows [])])⟩,
 some ⟨5, 80, (.struct [(0, 9), (1, 81)]), (.agg [(.str ⟨#[]⟩), (.int .i64 0), (.int .i64 0), (.crows []), (.crows [])])⟩,
 some ⟨1, 8, .func, .nilFunc⟩,
 some ⟨1, 8, (.pointer 68), .nilPtr⟩,
 some ⟨1, 8, .func, .nilFunc⟩,
 some ⟨1, 24, (.slice 93), (.crows [])⟩,
 some ⟨1, 8, .func, .nilFunc⟩,
 some ⟨5, 72, (.struct [(0, 3), (1, 81)]), (.agg [(.int .i64 0), (.int .i64 0), (.int .i64 0), (.crows []), (.crows [])])⟩,
 some ⟨5, 72, (.struct [(0, 3), (1, 81)]), (.agg [(.int .i64 0), (.int .i64 0), (.int .i64 0), (.crows []), (.crows [])])⟩,
 some ⟨1, 8, .func, .nilFunc⟩,
 some ⟨1, 8, .func, .nilFunc⟩,
 some ⟨1, 8, .func, .nilFunc⟩,
 some ⟨1, 8, .func, .nilFunc⟩,
 some ⟨1, 8, .func, .nilFunc⟩,
 none,
 some ⟨1, 8, .func, .nilFunc⟩,
 some ⟨1, 8, .func, .nilFunc⟩,
 some ⟨1, 8, .func, .nilFunc⟩,
 some ⟨1, 8, .func, .nilFunc⟩,
 none,
 some ⟨1, 8, .func, .nilFunc⟩,
 some ⟨1, 8, .func, .nilFunc⟩,
 some ⟨1, 8, .func, .nilFunc⟩,
 some ⟨1, 8, .func, .nilFunc⟩,
 none,
 some ⟨1, 8, .func, .nilFunc⟩,
 some ⟨1, 8, .func, .nilFunc⟩,
 some ⟨1, 8, .func, .nilFunc⟩,
 some ⟨1, 8, .func, .nilFunc⟩,
 some ⟨1, 8, .func, .nilFunc⟩,
 some ⟨1, 8, .func, .nilFunc⟩,
 some ⟨1, 8, .func, .nilFunc⟩,
 none,
 some ⟨1, 8, .func, .nilFunc⟩,
 some ⟨1, 8, .func, .nilFunc⟩,
 some ⟨1, 8, .func, .nilFunc⟩,
 some ⟨1, 8, .func, .nilFunc⟩,
 some ⟨1, 8, .func, .nilFunc⟩,
 some ⟨1, 8, .func, .nilFunc⟩,
 some ⟨1, 8, .func, .nilFunc⟩,
 none,
 some ⟨1, 8, .func, .nilFunc⟩,
 some ⟨1, 8, .func, .nilFunc⟩,
 some ⟨1, 8, .func, .nilFunc⟩,
 some ⟨1, 8, (.int .u64), (.int .u64 0)⟩,
 none,
 some ⟨1, 8, .func, .nilFunc⟩,
 some ⟨1, 8, .func, .nilFunc⟩,
 some ⟨1, 8, .func, .nilFunc⟩,
 some ⟨1, 8, .func, .nilFunc⟩,
 some ⟨1, 8, .func, .nilFunc⟩,
 some ⟨1, 8, .func, .nilFunc⟩,
 some ⟨1, 8, (.int .i64), (.int .i64 0)⟩,
 none,
 some ⟨1, 8, .func, .nilFunc⟩,
 some ⟨1, 8, .func, .nilFunc⟩,
 some ⟨1, 8, .func, .nilFunc⟩,
 some ⟨1, 8, .func, .nilFunc⟩,
 some ⟨1, 8, .func, .nilFunc⟩,
 some ⟨1, 4, (.int .u32), (.int .u32 0)⟩,
 some ⟨1, 8, .func, .nilFunc⟩,
 some ⟨1, 8, (.int .u64), (.int .u64 0)⟩,
 none,
 some ⟨1, 8, .func, .nilFunc⟩,
 none,
 some ⟨1, 8, .func, .nilFunc⟩,
 none,
 some ⟨1, 8, .func, .nilFunc⟩,
 some ⟨1, 8, .func, .nilFunc⟩,
 some ⟨1, 8, (.pointer 81), .nilPtr⟩,
 some ⟨1, 8, (.pointer 33), .nilPtr⟩,
 some ⟨1, 8, (.pointer 158), .nilPtr⟩,
 some ⟨1, 16, (.struct [(0, 9)]), (.agg [(.str ⟨#[]⟩)])⟩,
 some ⟨1, 16, (.struct [(0, 9)]), (.agg [(.str ⟨#[]⟩)])⟩,
 some ⟨1, 8, .func, .nilFunc⟩,
 some ⟨3, 72, (.array 3 25), (.agg [(.crows []), (.crows []), (.crows [])])⟩,
 some ⟨1, 8, (.int .u64), (.int .u64 0)⟩,
 some ⟨1, 8, .func, .nilFunc⟩,
 some ⟨1, 8, .func, .nilFunc⟩,
 some ⟨1, 8, .func, .nilFunc⟩,
 some ⟨1, 8, (.pointer 3), .nilPtr⟩,
 some ⟨1, 8, .func, .nilFunc⟩,
 none,
 some ⟨1, 8, .func, .nilFunc⟩,
 some ⟨4, 4, (.array 4 5), (.agg [(.int .u8 0), (.int .u8 0), (.int .u8 0), (.int .u8 0)])⟩,
 some ⟨1, 8, (.pointer 161), .nilPtr⟩,
 none,
 some ⟨1, 8, .func, .nilFunc⟩,
 some ⟨1, 8, .func, .nilFunc⟩,
 some ⟨1, 8, .func, .nilFunc⟩,
 some ⟨1, 8, .func, .nilFunc⟩,
 some ⟨4, 40, (.struct [(0, 17), (1, 17), (2, 17), (3, 9)]), (.agg [.nilPtr, .nilPtr, .nilPtr, (.str ⟨#[]⟩)])⟩,
 some ⟨4, 40, (.struct [(0, 17), (1, 17), (2, 17), (3, 9)]), (.agg [.nilPtr, .nilPtr, .nilPtr, (.str ⟨#[]⟩)])⟩,
 none,
 none,
 none,
 some ⟨1, 8, .func, .nilFunc⟩,
 some ⟨1, 1, (.int .u8), (.int .u8 0)⟩,
 some ⟨1, 1, (.int .u8), (.int .u8 0)⟩,
 some ⟨1, 8, .func, .nilFunc⟩,
 some ⟨1, 8, (.pointer 5), .nilPtr⟩,
 some ⟨1, 4, (.int .i32), (.int .i32 0)⟩,
 some ⟨1, 4, (.int .i32), (.int .i32 0)⟩,
 some ⟨11, 48, (.struct [(0, 12), (1, 12), (2, 144), (3, 182), (4, 5), (5, 5), (6, 183), (7, 184), (8, 185), (9, 186), (10, 187)]), (.agg [(.int .u64 0), (.int .u64 0), (.int .u32 0), (.int .u8 0), (.int .u8 0), (.int .u8 0), (.int .u8 0), .nilFunc, .nilPtr, (.int .i32 0), (.int .i32 0)])⟩,
 some ⟨11, 48, (.struct [(0, 12), (1, 12), (2, 144), (3, 182), (4, 5), (5, 5), (6, 183), (7, 184), (8, 185), (9, 186), (10, 187)]), (.agg [(.int .u64 0), (.int .u64 0), (.int .u32 0), (.int .u8 0), (.int .u8 0), (.int .u8 0), (.int .u8 0), .nilFunc, .nilPtr, (.int .i32 0), (.int .i32 0)])⟩,
 none]
noncomputable def zL : List (Option (List SV)) := [
 none,
 some [.nilFunc],
 some [.int .i64 0],
 some [.int .i64 0],
 some [.bool false],
 some [.int .u8 0],
 some [.int .u8 0],
 some [.int .i64 0, .int .i64 0, .bool false, .int .u8 0],
 some [.int .i64 0, .int .i64 0, .bool false, .int .u8 0],
 some [.str []],
 some [.str []],
 some [.str []],
 some [.int .u64 0],
 some [.str [], .int .u64 0],
 some [.str [], .int .u64 0],
 some [.nilPtr],
 some [.nilPtr],
 some [.nilPtr],
 some [.nilPtr],
 some [.nilPtr],
 some [.nilIface],
 some [.int .i32 0],
 some [.lst true (.int .u8) []],
 some [.int .i64 0, .int .i64 0, .int .i64 0, .int .i64 0],
 some [.int .i64 0, .int .i64 0, .int .i64 0, .int .i64 0],
 some [.lst true .i []],
 some [.lst true .block []],
 some [.lst true .block [], .bool false, .bool false, .int .i64 0],
 some [.lst true .block [], .bool false, .bool false, .int .i64 0],
 some [.lst true .i [], .lst true .i []],
 some [.lst true .i [], .lst true .i []],
 some [.int .i64 0, .int .i64 0, .int .i64 0, .int .i64 0, .lst true .block [], .bool false, .bool false, .int .i64 0, .lst true .i [], .lst true .i [], .int .i64 0, .int .i64 0],
 some [.int .i64 0, .int .i64 0, .int .i64 0, .int .i64 0, .lst true .block [], .bool false, .bool false, .int .i64 0, .lst true .i [], .lst true .i [], .int .i64 0, .int .i64 0],
 some [.int .i64 0],
 none,
 some [.nilFunc],
 some [.nilFunc],
 some [.nilFunc],
 some [.nilFunc],
 some [.nilFunc],
 some [.lst true (.int .u16) []],
 some [.nilFunc],
 some [.nilFunc],
 some [.nilFunc],
 some [.nilFunc],
 some [.lst true .str []],
 some [.nilFunc],
 some [.nilFunc],
 some [.nilFunc],
 some [.nilFunc],
 some [.nilFunc],
 none,
 some [.nilFunc],
 some [.nilFunc],
 some [.nilFunc],
 some [.nilFunc],
 some [.nilFunc],
 some [.lst true .geometry []],
 some [.int .u16 0],
 some [.bool false, .str [], .str []],
 some [.bool false, .str [], .str []],
 some [.nilFunc],
 some [.int .i64 0, .str [], .str [], .int .i64 0],
 some [.int .i64 0, .str [], .str [], .int .i64 0],
 some [.nilFunc],
 some [.nilFunc],
 some [.lst true .page []],
 some [.lst true .page [], .int .i64 0, .int .i64 0, .bool false],
 some [.lst true .page [], .int .i64 0, .int .i64 0, .bool false],
 some [.nilFunc],
 some [.nilFunc],
 some [.nilFunc],
 none,
 some [.nilFunc],
 some [.nilFunc],
 some [.nilFunc],
 some [.nilFunc],
 some [.nilFunc],
 some [.lst true .bool []],
 some [.nilFunc],
 some [.int .i64 0, .int .i64 0, .lst true .i [], .lst true .i []],
 some [.int .i64 0, .int .i64 0, .lst true .i [], .lst true .i []],
 some [.nilFunc],
 none,
 some [.nilFunc],
 some [.str [], .int .i64 0, .int .i64 0, .lst true .i [], .lst true .i []],
 some [.str [], .int .i64 0, .int .i64 0, .lst true .i [], .lst true .i []],
 some [.nilFunc],
 some [.nilPtr],
 some [.nilFunc],
 some [.lst true .found []],
 some [.nilFunc],
 some [.int .i64 0, .int .i64 0, .int .i64 0, .lst true .i [], .lst true .i []],
 some [.int .i64 0, .int .i64 0, .int .i64 0, .lst true .i [], .lst true .i []],
 some [.nilFunc],
 some [.nilFunc],
 some [.nilFunc],
 some [.nilFunc],
 some [.nilFunc],
 none,
 some [.nilFunc],
 some [.nilFunc],
 some [.nilFunc],
 some [.nilFunc],
 none,
 some [.nilFunc],
 some [.nilFunc],
 some [.nilFunc],
 some [.nilFunc],
 none,
 some [.nilFunc],
 some [.nilFunc],
 some [.nilFunc],
 some [.nilFunc],
 some [.nilFunc],
 some [.nilFunc],
 some [.nilFunc],
 none,
 some [.nilFunc],
 some [.nilFunc],
 some [.nilFunc],
 some [.nilFunc],
 some [.nilFunc],
 some [.nilFunc],
 some [.nilFunc],
 none,
 some [.nilFunc],
 some [.nilFunc],
 some [.nilFunc],
 some [.int .u64 0],
 none,
 some [.nilFunc],
 some [.nilFunc],
 some [.nilFunc],
 some [.nilFunc],
 some [.nilFunc],
 some [.nilFunc],
 some [.int .i64 0],
 none,
 some [.nilFunc],
 some [.nilFunc],
 some [.nilFunc],
 some [.nilFunc],
 some [.nilFunc],
 some [.int .u32 0],
 some [.nilFunc],
 some [.int .u64 0],
 none,
 some [.nilFunc],
 none,
 some [.nilFunc],
 none,
 some [.nilFunc],
 some [.nilFunc],
 some [.nilPtr],
 some [.nilPtr],
 some [.nilPtr],
 some [.str []],
 some [.str []],
 some [.nilFunc],
 some [.lst true .i [], .lst true .i [], .lst true .i []],
 some [.int .u64 0],
 some [.nilFunc],
 some [.nilFunc],
 some [.nilFunc],
 some [.nilPtr],
 some [.nilFunc],
 none,
 some [.nilFunc],
 some [.int .u8 0, .int .u8 0, .int .u8 0, .int .u8 0],
 some [.nilPtr],
 none,
 some [.nilFunc],
 some [.nilFunc],
 some [.nilFunc],
 some [.nilFunc],
 some [.nilPtr, .nilPtr, .nilPtr, .str []],
 some [.nilPtr, .nilPtr, .nilPtr, .str []],
 none,
 none,
 none,
 some [.nilFunc],
 some [.int .u8 0],
 some [.int .u8 0],
 some [.nilFunc],
 some [.nilPtr],
 some [.int .i32 0],
 some [.int .i32 0],
 some [.int .u64 0, .int .u64 0, .int .u32 0, .int .u8 0, .int .u8 0, .int .u8 0, .int .u8 0, .nilFunc, .nilPtr, .int .i32 0, .int .i32 0],
 some [.int .u64 0, .int .u64 0, .int .u32 0, .int .u8 0, .int .u8 0, .int .u8 0, .int .u8 0, .nilFunc, .nilPtr, .int .i32 0, .int .i32 0],
 none]
noncomputable def ecL : List (Option TC) := [
 none,
 none,
 some .i,
 some .i,
 some .bool,
 some (.int .u8),
 some (.int .u8),
 none,
 none,
 some .str,
 some .str,
 some .str,
 some (.int .u64),
 none,
 none,
 none,
 none,
 none,
 none,
 none,
 none,
 some (.int .i32),
 some (.list (.int .u8)),
 none,
 some .geometry,
 some (.list .i),
 some (.list .block),
 none,
 some .chip,
 none,
 some .table,
 none,
 some .device,
 some .i,
 none,
 none,
 none,
 none,
 none,
 none,
 some (.list (.int .u16)),
 none,
 none,
 none,
 none,
 some (.list .str),
 none,
 none,
 none,
 none,
 none,
 none,
 none,
 none,
 none,
 none,
 none,
 some (.list .geometry),
 some (.int .u16),
 none,
 some .page,
 none,
 none,
 some .fate,
 none,
 none,
 some (.list .page),
 none,
 some .block,
 none,
 none,
 none,
 none,
 none,
 none,
 none,
 none,
 none,
 some (.list .bool),
 none,
 none,
 some .record,
 none,
 none,
 none,
 none,
 some .write,
 none,
 none,
 none,
 some (.list .found),
 none,
 none,
 some .found,
 none,
 none,
 none,
 none,
 none,
 none,
 none,
 none,
 none,
 none,
 none,
 none,
 none,
 none,
 none,
 none,
 none,
 none,
 none,
 none,
 none,
 none,
 none,
 none,
 none,
 none,
 none,
 none,
 none,
 none,
 none,
 none,
 none,
 none,
 none,
 some (.int .u64),
 none,
 none,
 none,
 none,
 none,
 none,
 none,
 some .i,
 none,
 none,
 none,
 none,
 none,
 none,
 some (.int .u32),
 none,
 some (.int .u64),
 none,
 none,
 none,
 none,
 none,
 none,
 none,
 none,
 none,
 none,
 none,
 none,
 none,
 none,
 some (.int .u64),
 none,
 none,
 none,
 none,
 none,
 none,
 none,
 none,
 none,
 none,
 none,
 none,
 none,
 none,
 none,
 none,
 none,
 none,
 none,
 none,
 some (.int .u8),
 some (.int .u8),
 none,
 none,
 some (.int .i32),
 some (.int .i32),
 none,
 none,
 none]
noncomputable def eqL : List Bool := [false, false, false, false, false, false, false, true, true, false, false, false, false, false, false, false, false, false, false, false, false, false, false, true, true, false, false, true, true, true, true, true, true, false, false, false, false, false, false, false, false, false, false, false, false, false, false, false, false, false, false, false, false, false, false, false, false, false, false, true, true, false, true, true, false, false, false, true, true, false, false, false, false, false, false, false, false, false, false, false, true, true, false, false, false, true, true, false, false, false, false, false, true, true, false, false, false, false, false, false, false, false, false, false, false, false, false, false, false, false, false, false, false, false, false, false, false, false, false, false, false, false, false, false, false, false, false, false, false, false, false, false, false, false, false, false, false, false, false, false, false, false, false, false, false, false, false, false, false, false, false, false, false, false, false, false, false, true, true, false, false, false, false, false, false, false, false, false, false, false, false, false, false, false, false, false, false, false, false, false, false, false, false, false, false, false, false, false, false, false, false]
noncomputable def fnL : List (Option Go.Func) := [none, none, none, some Tryz.f3, some Tryz.f4, some Tryz.f5, some Tryz.f6, some Tryz.f7, some Tryz.f8, some Tryz.f9, some Tryz.f10, some Tryz.f11, some Tryz.f12, some Tryz.f13, some Tryz.f14, some Tryz.f15, some Tryz.f16, some Tryz.f17, some Tryz.f18, some Tryz.f19, some Tryz.f20, some Tryz.f21, some Tryz.f22, some Tryz.f23, some Tryz.f24, some Tryz.f25, some Tryz.f26, some Tryz.f27, some Tryz.f28, some Tryz.f29, some Tryz.f30, some Tryz.f31, some Tryz.f32, some Tryz.f33, some Tryz.f34, some Tryz.f35, some Tryz.f36, some Tryz.f37, some Tryz.f38, some Tryz.f39, some Tryz.f40, some Tryz.f41, some Tryz.f42, some Tryz.f43, some Tryz.f44, some Tryz.f45, some Tryz.f46, some Tryz.f47, some Tryz.f48, some Tryz.f49, some Tryz.f50, some Tryz.f51, some Tryz.f52, some Tryz.f53, some Tryz.f54, some Tryz.f55, some Tryz.f56, some Tryz.f57, some Tryz.f58, some Tryz.f59, some Tryz.f60, some Tryz.f61, some Tryz.f62, some Tryz.f63, some Tryz.f64, some Tryz.f65, some Tryz.f66, some Tryz.f67, some Tryz.f68, some Tryz.f69, some Tryz.f70, some Tryz.f71, some Tryz.f72, some Tryz.f73, some Tryz.f74, some Tryz.f75, some Tryz.f76, some Tryz.f77, some Tryz.f78, some Tryz.f79, some Tryz.f80, some Tryz.f81, some Tryz.f82, some Tryz.f83, some Tryz.f84, some Tryz.f85, some Tryz.f86, some Tryz.f87, some Tryz.f88, some Tryz.f89, some Tryz.f90, some Tryz.f91, some Tryz.f92, some Tryz.f93, some Tryz.f94, some Tryz.f95, some Tryz.f96, some Tryz.f97, some Tryz.f98, some Tryz.f99, some Tryz.f100, some Tryz.f101, some Tryz.f102, some Tryz.f103, some Tryz.f104, some Tryz.f105, some Tryz.f106, some Tryz.f107, some Tryz.f108, some Tryz.f109, some Tryz.f110, some Tryz.f111, some Tryz.f112, some Tryz.f113, some Tryz.f114, some Tryz.f115, some Tryz.f116, some Tryz.f117, some Tryz.f118, some Tryz.f119, some Tryz.f120, some Tryz.f121, some Tryz.f122, some Tryz.f123, some Tryz.f124, some Tryz.f125, some Tryz.f126, some Tryz.f127, some Tryz.f128, some Tryz.f129, some Tryz.f130, some Tryz.f131, some Tryz.f132, none, none, none, none, none, none, none, none, none, none, none, none, none, none, none, none]
noncomputable def inlL : List Bool := [false, false, false, false, false, false, false, false, false, false, false, false, false, false, false, false, false, false, false, false, false, false, false, false, false, false, false, false, false, false, false, false, true, true, false, false, true, true, false, false, false, false, true, true, false, false, false, true, false, false, false, true, true, false, false, true, false, false, false, false, false, true, false, true, false, true, false, true, true, false, false, false, false, false, false, false, false, false, false, false, false, true, false, false, true, false, false, false, false, false, false, false, false, false, false, true, true, true, true, true, true, true, true, false, false, false, false, false, false, false, false, false, false, false, false, false, true, false, false, true, true, false, false, true, false, false, true, false, true, false, true, false, false, false, false, false, false, false, false, false, false, false, false, false, false, false, false, false, false]
noncomputable def clL : List (Option (TC × Nat)) := [none, none, none, none, none, none, none, none, none, none, none, none, none, none, none, none, none, none, none, none, none, none, none, none, none, none, none, none, none, none, none, none, none, none, none, none, none, none, none, none, none, none, none, none, none, none, none, none, none, none, none, none, none, none, none, none, none, none, none, none, none, none, none, none, none, none, none, some (.found, 1000068), none, none, none, none, some (.i, 8), none, none, none, none, none, none, none, none, none, none, none, none, none, none, none, none, none, none, none, none, none, none, none, none, none, none, none, none, none, none, none, none, none, none, none, none, none, none, none, none, none, none, none, none, none, none, none, none, none, none, none, none, none, none, none, none, none, none, none, none, none, none, none, none, none, none, none, none, none, none, none, none, none, none, none, none]
noncomputable def z0u : Seat := ⟨tiL, zL, ecL, eqL, fnL, inlL, clL⟩
theorem z06i : z0u.Ok Tryz.prog where
 ti := by kernel_rfl
 zero := by kernel_rfl
 zs := by kernel_rfl
 ec := by kernel_rfl
 eci := by kernel_rfl
 flds := by kernel_rfl
 eq := by kernel_rfl
 fn := by kernel_rfl
theorem zu : SeatOk Tryz.prog z0u.inlF z0u.prim z0u.mk' := z06i.seatOk
end Go.Proofs.YtpncgjcflkhemaaGreat
namespace Go.Proofs.YtpncgjcflkhemaaGreat
open Go Go.Proofs Clk
theorem ti0 : ti Tryz.prog 0 = some ⟨1, 0, .other, (.tup [])⟩ := by kernel_rfl
theorem ti1 : ti Tryz.prog 1 = some ⟨1, 8, .func, .nilFunc⟩ := by kernel_rfl
theorem ti2 : ti Tryz.prog 2 = some ⟨1, 8, (.int .i64), (.int .i64 0)⟩ := by kernel_rfl
theorem ti3 : ti Tryz.prog 3 = some ⟨1, 8, (.int .i64), (.int .i64 0)⟩ := by kernel_rfl
theorem ti4 : ti Tryz.prog 4 = some ⟨1, 1, .bool, (.bool false)⟩ := by kernel_rfl
theorem ti5 : ti Tryz.prog 5 = some ⟨1, 1, (.int .u8), (.int .u8 0)⟩ := by kernel_rfl
theorem ti6 : ti Tryz.prog 6 = some ⟨1, 1, (.int .u8), (.int .u8 0)⟩ := by kernel_rfl
theorem ti7 : ti Tryz.prog 7 = some ⟨4, 24, (.struct [(0, 2), (1, 3), (2, 4), (3, 6)]), (.agg [(.int .i64 0), (.int .i64 0), (.bool false), (.int .u8 0)])⟩ := by kernel_rfl
theorem ti8 : ti Tryz.prog 8 = some ⟨4, 24, (.struct [(0, 2), (1, 3), (2, 4), (3, 6)]), (.agg [(.int .i64 0), (.int .i64 0), (.bool false), (.int .u8 0)])⟩ := by kernel_rfl
theorem ti9 : ti Tryz.prog 9 = some ⟨1, 16, .string, (.str ⟨#[]⟩)⟩ := by kernel_rfl
theorem ti10 : ti Tryz.prog 10 = some ⟨1, 16, .string, (.str ⟨#[]⟩)⟩ := by kernel_rfl
theorem ti11 : ti Tryz.prog 11 = some ⟨1, 16, .string, (.str ⟨#[]⟩)⟩ := by kernel_rfl
theorem ti12 : ti Tryz.prog 12 = some ⟨1, 8, (.int .u64), (.int .u64 0)⟩ := by kernel_rfl
theorem ti13 : ti Tryz.prog 13 = some ⟨2, 24, (.struct [(0, 9), (1, 12)]), (.agg [(.str ⟨#[]⟩), (.int .u64 0)])⟩ := by kernel_rfl
theorem ti14 : ti Tryz.prog 14 = some ⟨2, 24, (.struct [(0, 9), (1, 12)]), (.agg [(.str ⟨#[]⟩), (.int .u64 0)])⟩ := by kernel_rfl
theorem ti15 : ti Tryz.prog 15 = some ⟨1, 8, (.pointer 177), .nilPtr⟩ := by kernel_rfl
theorem ti16 : ti Tryz.prog 16 = some ⟨1, 8, (.pointer 180), .nilPtr⟩ := by kernel_rfl
theorem ti17 : ti Tryz.prog 17 = some ⟨1, 8, (.pointer 189), .nilPtr⟩ := by kernel_rfl
theorem ti18 : ti Tryz.prog 18 = some ⟨1, 8, (.struct [(0, 17)]), (.agg [.nilPtr])⟩ := by kernel_rfl
theorem ti19 : ti Tryz.prog 19 = some ⟨1, 8, (.struct [(0, 17)]), (.agg [.nilPtr])⟩ := by kernel_rfl
theorem ti20 : ti Tryz.prog 20 = some ⟨1, 16, .iface, .nilIface⟩ := by kernel_rfl
theorem ti21 : ti Tryz.prog 21 = some ⟨1, 4, (.int .i32), (.int .i32 0)⟩ := by kernel_rfl
theorem ti22 : ti Tryz.prog 22 = some ⟨1, 24, (.slice 5), (.crows [])⟩ := by kernel_rfl
theorem ti23 : ti Tryz.prog 23 = some ⟨4, 32, (.struct [(0, 3), (1, 3), (2, 3), (3, 3)]), (.agg [(.int .i64 0), (.int .i64 0), (.int .i64 0), (.int .i64 0)])⟩ := by kernel_rfl
theorem ti24 : ti Tryz.prog 24 = some ⟨4, 32, (.struct [(0, 3), (1, 3), (2, 3), (3, 3)]), (.agg [(.int .i64 0), (.int .i64 0), (.int .i64 0), (.int .i64 0)])⟩ := by kernel_rfl
theorem ti25 : ti Tryz.prog 25 = some ⟨1, 24, (.slice 3), (.crows [])⟩ := by kernel_rfl
theorem ti26 : ti Tryz.prog 26 = some ⟨1, 24, (.slice 68), (.crows [])⟩ := by kernel_rfl
theorem ti27 : ti Tryz.prog 27 = some ⟨4, 40, (.struct [(0, 26), (1, 4), (2, 4), (3, 3)]), (.agg [(.crows []), (.bool false), (.bool false), (.int .i64 0)])⟩ := by kernel_rfl
theorem ti28 : ti Tryz.prog 28 = some ⟨4, 40, (.struct [(0, 26), (1, 4), (2, 4), (3, 3)]), (.agg [(.crows []), (.bool false), (.bool false), (.int .i64 0)])⟩ := by kernel_rfl
theorem ti29 : ti Tryz.prog 29 = some ⟨2, 48, (.struct [(0, 25), (1, 25)]), (.agg [(.crows []), (.crows [])])⟩ := by kernel_rfl
theorem ti30 : ti Tryz.prog 30 = some ⟨2, 48, (.struct [(0, 25), (1, 25)]), (.agg [(.crows []), (.crows [])])⟩ := by kernel_rfl
theorem ti31 : ti Tryz.prog 31 = some ⟨12, 136, (.struct [(0, 24), (4, 28), (8, 30), (10, 3), (11, 3)]), (.agg [(.int .i64 0), (.int .i64 0), (.int .i64 0), (.int .i64 0), (.crows []), (.bool false), (.bool false), (.int .i64 0), (.crows []), (.crows []), (.int .i64 0), (.int .i64 0)])⟩ := by kernel_rfl
theorem ti32 : ti Tryz.prog 32 = some ⟨12, 136, (.struct [(0, 24), (4, 28), (8, 30), (10, 3), (11, 3)]), (.agg [(.int .i64 0), (.int .i64 0), (.int .i64 0), (.int .i64 0), (.crows []), (.bool false), (.bool false), (.int .i64 0), (.crows []), (.crows []), (.int .i64 0), (.int .i64 0)])⟩ := by kernel_rfl
theorem ti33 : ti Tryz.prog 33 = some ⟨1, 8, (.int .i64), (.int .i64 0)⟩ := by kernel_rfl
theorem ti34 : ti Tryz.prog 34 = some ⟨1, 0, .other, .undef⟩ := by kernel_rfl
theorem ti35 : ti Tryz.prog 35 = some ⟨1, 8, .func, .nilFunc⟩ := by kernel_rfl
theorem ti36 : ti Tryz.prog 36 = some ⟨1, 8, .func, .nilFunc⟩ := by kernel_rfl
theorem ti37 : ti Tryz.prog 37 = some ⟨1, 8, .func, .nilFunc⟩ := by kernel_rfl
theorem ti38 : ti Tryz.prog 38 = some ⟨1, 8, .func, .nilFunc⟩ := by kernel_rfl
theorem ti39 : ti Tryz.prog 39 = some ⟨1, 8, .func, .nilFunc⟩ := by kernel_rfl
theorem ti40 : ti Tryz.prog 40 = some ⟨1, 24, (.slice 58), (.crows [])⟩ := by kernel_rfl
theorem ti41 : ti Tryz.prog 41 = some ⟨1, 8, .func, .nilFunc⟩ := by kernel_rfl
theorem ti42 : ti Tryz.prog 42 = some ⟨1, 8, .func, .nilFunc⟩ := by kernel_rfl
theorem ti43 : ti Tryz.prog 43 = some ⟨1, 8, .func, .nilFunc⟩ := by kernel_rfl
theorem ti44 : ti Tryz.prog 44 = some ⟨1, 8, .func, .nilFunc⟩ := by kernel_rfl
theorem ti45 : ti Tryz.prog 45 = some ⟨1, 24, (.slice 9), (.crows [])⟩ := by kernel_rfl
theorem ti46 : ti Tryz.prog 46 = some ⟨1, 8, .func, .nilFunc⟩ := by kernel_rfl
theorem ti47 : ti Tryz.prog 47 = some ⟨1, 8, .func, .nilFunc⟩ := by kernel_rfl
theorem ti48 : ti Tryz.prog 48 = some ⟨1, 8, .func, .nilFunc⟩ := by kernel_rfl
theorem ti49 : ti Tryz.prog 49 = some ⟨1, 8, .func, .nilFunc⟩ := by kernel_rfl
theorem ti50 : ti Tryz.prog 50 = some ⟨1, 8, .func, .nilFunc⟩ := by kernel_rfl
theorem ti51 : ti Tryz.prog 51 = some ⟨1, 0, .other, .undef⟩ := by kernel_rfl
theorem ti52 : ti Tryz.prog 52 = some ⟨1, 8, .func, .nilFunc⟩ := by kernel_rfl
theorem ti53 : ti Tryz.prog 53 = some ⟨1, 8, .func, .nilFunc⟩ := by kernel_rfl
theorem ti54 : ti Tryz.prog 54 = some ⟨1, 8, .func, .nilFunc⟩ := by kernel_rfl
theorem ti55 : ti Tryz.prog 55 = some ⟨1, 8, .func, .nilFunc⟩ := by kernel_rfl
theorem ti56 : ti Tryz.prog 56 = some ⟨1, 8, .func, .nilFunc⟩ := by kernel_rfl
theorem ti57 : ti Tryz.prog 57 = some ⟨1, 24, (.slice 24), (.crows [])⟩ := by kernel_rfl
theorem ti58 : ti Tryz.prog 58 = some ⟨1, 2, (.int .u16), (.int .u16 0)⟩ := by kernel_rfl
theorem ti59 : ti Tryz.prog 59 = some ⟨3, 40, (.struct [(0, 4), (1, 9), (2, 9)]), (.agg [(.bool false), (.str ⟨#[]⟩), (.str ⟨#[]⟩)])⟩ := by kernel_rfl
theorem ti60 : ti Tryz.prog 60 = some ⟨3, 40, (.struct [(0, 4), (1, 9), (2, 9)]), (.agg [(.bool false), (.str ⟨#[]⟩), (.str ⟨#[]⟩)])⟩ := by kernel_rfl
theorem ti61 : ti Tryz.prog 61 = some ⟨1, 8, .func, .nilFunc⟩ := by kernel_rfl
theorem ti62 : ti Tryz.prog 62 = some ⟨4, 48, (.struct [(0, 3), (1, 9), (2, 9), (3, 3)]), (.agg [(.int .i64 0), (.str ⟨#[]⟩), (.str ⟨#[]⟩), (.int .i64 0)])⟩ := by kernel_rfl
theorem ti63 : ti Tryz.prog 63 = some ⟨4, 48, (.struct [(0, 3), (1, 9), (2, 9), (3, 3)]), (.agg [(.int .i64 0), (.str ⟨#[]⟩), (.str ⟨#[]⟩), (.int .i64 0)])⟩ := by kernel_rfl
theorem ti64 : ti Tryz.prog 64 = some ⟨1, 8, .func, .nilFunc⟩ := by kernel_rfl
theorem ti65 : ti Tryz.prog 65 = some ⟨1, 8, .func, .nilFunc⟩ := by kernel_rfl
theorem ti66 : ti Tryz.prog 66 = some ⟨1, 24, (.slice 60), (.crows [])⟩ := by kernel_rfl
theorem ti67 : ti Tryz.prog 67 = some ⟨4, 48, (.struct [(0, 66), (1, 3), (2, 3), (3, 4)]), (.agg [(.crows []), (.int .i64 0), (.int .i64 0), (.bool false)])⟩ := by kernel_rfl
theorem ti68 : ti Tryz.prog 68 = some ⟨4, 48, (.struct [(0, 66), (1, 3), (2, 3), (3, 4)]), (.agg [(.crows []), (.int .i64 0), (.int .i64 0), (.bool false)])⟩ := by kernel_rfl
theorem ti69 : ti Tryz.prog 69 = some ⟨1, 8, .func, .nilFunc⟩ := by kernel_rfl
theorem ti70 : ti Tryz.prog 70 = some ⟨1, 8, .func, .nilFunc⟩ := by kernel_rfl
theorem ti71 : ti Tryz.prog 71 = some ⟨1, 8, .func, .nilFunc⟩ := by kernel_rfl
theorem ti72 : ti Tryz.prog 72 = some ⟨1, 0, .other, .undef⟩ := by kernel_rfl
theorem ti73 : ti Tryz.prog 73 = some ⟨1, 8, .func, .nilFunc⟩ := by kernel_rfl
theorem ti74 : ti Tryz.prog 74 = some ⟨1, 8, .func, .nilFunc⟩ := by kernel_rfl
theorem ti75 : ti Tryz.prog 75 = some ⟨1, 8, .func, .nilFunc⟩ := by kernel_rfl
theorem ti76 : ti Tryz.prog 76 = some ⟨1, 8, .func, .nilFunc⟩ := by kernel_rfl
theorem ti77 : ti Tryz.prog 77 = some ⟨1, 8, .func, .nilFunc⟩ := by kernel_rfl
theorem ti78 : ti Tryz.prog 78 = some ⟨1, 24, (.slice 4), (.crows [])⟩ := by kernel_rfl
theorem ti79 : ti Tryz.prog 79 = some ⟨1, 8, .func, .nilFunc⟩ := by kernel_rfl
theorem ti80 : ti Tryz.prog 80 = some ⟨4, 64, (.struct [(0, 3), (1, 3), (2, 25), (3, 25)]), (.agg [(.int .i64 0), (.int .i64 0), (.crows []), (.crows [])])⟩ := by kernel_rfl
theorem ti81 : ti Tryz.prog 81 = some ⟨4, 64, (.struct [(0, 3), (1, 3), (2, 25), (3, 25)]), (.agg [(.int .i64 0), (.int .i64 0), (.crows []), (.crows [])])⟩ := by kernel_rfl
theorem ti82 : ti Tryz.prog 82 = some ⟨1, 8, .func, .nilFunc⟩ := by kernel_rfl
theorem ti83 : ti Tryz.prog 83 = some ⟨1, 0, .other, .undef⟩ := by kernel_rfl
theorem ti84 : ti Tryz.prog 84 = some ⟨1, 8, .func, .nilFunc⟩ := by kernel_rfl
theorem ti85 : ti Tryz.prog 85 = some ⟨5, 80, (.struct [(0, 9), (1, 81)]), (.agg [(.str ⟨#[]⟩), (.int .i64 0), (.int .i64 0), (.crows []), (.crows [])])⟩ := by kernel_rfl
theorem ti86 : ti Tryz.prog 86 = some ⟨5, 80, (.struct [(0, 9), (1, 81)]), (.agg [(.str ⟨#[]⟩), (.int .i64 0), (.int .i64 0), (.crows []), (.crows [])])⟩ := by kernel_rfl
theorem ti87 : ti Tryz.prog 87 = some ⟨1, 8, .func, .nilFunc⟩ := by kernel_rfl
theorem ti88 : ti Tryz.prog 88 = some ⟨1, 8, (.pointer 68), .nilPtr⟩ := by kernel_rfl
theorem ti89 : ti Tryz.prog 89 = some ⟨1, 8, .func, .nilFunc⟩ := by kernel_rfl
theorem ti90 : ti Tryz.prog 90 = some ⟨1, 24, (.slice 93), (.crows [])⟩ := by kernel_rfl
theorem ti91 : ti Tryz.prog 91 = some ⟨1, 8, .func, .nilFunc⟩ := by kernel_rfl
theorem ti92 : ti Tryz.prog 92 = some ⟨5, 72, (.struct [(0, 3), (1, 81)]), (.agg [(.int .i64 0), (.int .i64 0), (.int .i64 0), (.crows []), (.crows [])])⟩ := by kernel_rfl
theorem ti93 : ti Tryz.prog 93 = some ⟨5, 72, (.struct [(0, 3), (1, 81)]), (.agg [(.int .i64 0), (.int .i64 0), (.int .i64 0), (.crows []), (.crows [])])⟩ := by kernel_rfl
theorem ti94 : ti Tryz.prog 94 = some ⟨1, 8, .func, .nilFunc⟩ := by kernel_rfl
theorem ti95 : ti Tryz.prog 95 = some ⟨1, 8, .func, .nilFunc⟩ := by kernel_rfl
theorem ti96 : ti Tryz.prog 96 = some ⟨1, 8, .func, .nilFunc⟩ := by kernel_rfl
theorem ti97 : ti Tryz.prog 97 = some ⟨1, 8, .func, .nilFunc⟩ := by kernel_rfl
theorem ti98 : ti Tryz.prog 98 = some ⟨1, 8, .func, .nilFunc⟩ := by kernel_rfl
theorem ti99 : ti Tryz.prog 99 = some ⟨1, 0, .other, .undef⟩ := by kernel_rfl
theorem ti100 : ti Tryz.prog 100 = some ⟨1, 8, .func, .nilFunc⟩ := by kernel_rfl
theorem ti101 : ti Tryz.prog 101 = some ⟨1, 8, .func, .nilFunc⟩ := by kernel_rfl
theorem ti102 : ti Tryz.prog 102 = some ⟨1, 8, .func, .nilFunc⟩ := by kernel_rfl
theorem ti103 : ti Tryz.prog 103 = some ⟨1, 8, .func, .nilFunc⟩ := by kernel_rfl
theorem ti104 : ti Tryz.prog 104 = some ⟨1, 0, .other, .undef⟩ := by kernel_rfl
theorem ti105 : ti Tryz.prog 105 = some ⟨1, 8, .func, .nilFunc⟩ := by kernel_rfl
theorem ti106 : ti Tryz.prog 106 = some ⟨1, 8, .func, .nilFunc⟩ := by kernel_rfl
theorem ti107 : ti Tryz.prog 107 = some ⟨1, 8, .func, .nilFunc⟩ := by kernel_rfl
theorem ti108 : ti Tryz.prog 108 = some ⟨1, 8, .func, .nilFunc⟩ := by kernel_rfl
theorem ti109 : ti Tryz.prog 109 = some ⟨1, 0, .other, .undef⟩ := by kernel_rfl
theorem ti110 : ti Tryz.prog 110 = some ⟨1, 8, .func, .nilFunc⟩ := by kernel_rfl
theorem ti111 : ti Tryz.prog 111 = some ⟨1, 8, .func, .nilFunc⟩ := by kernel_rfl
theorem ti112 : ti Tryz.prog 112 = some ⟨1, 8, .func, .nilFunc⟩ := by kernel_rfl
theorem ti113 : ti Tryz.prog 113 = some ⟨1, 8, .func, .nilFunc⟩ := by kernel_rfl
theorem ti114 : ti Tryz.prog 114 = some ⟨1, 8, .func, .nilFunc⟩ := by kernel_rfl
theorem ti115 : ti Tryz.prog 115 = some ⟨1, 8, .func, .nilFunc⟩ := by kernel_rfl
theorem ti116 : ti Tryz.prog 116 = some ⟨1, 8, .func, .nilFunc⟩ := by kernel_rfl
theorem ti117 : ti Tryz.prog 117 = some ⟨1, 0, .other, .undef⟩ := by kernel_rfl
theorem ti118 : ti Tryz.prog 118 = some ⟨1, 8, .func, .nilFunc⟩ := by kernel_rfl
theorem ti119 : ti Tryz.prog 119 = some ⟨1, 8, .func, .nilFunc⟩ := by kernel_rfl
theorem ti120 : ti Tryz.prog 120 = some ⟨1, 8, .func, .nilFunc⟩ := by kernel_rfl
theorem ti121 : ti Tryz.prog 121 = some ⟨1, 8, .func, .nilFunc⟩ := by kernel_rfl
theorem ti122 : ti Tryz.prog 122 = some ⟨1, 8, .func, .nilFunc⟩ := by kernel_rfl
theorem ti123 : ti Tryz.prog 123 = some ⟨1, 8, .func, .nilFunc⟩ := by kernel_rfl
theorem ti124 : ti Tryz.prog 124 = some ⟨1, 8, .func, .nilFunc⟩ := by kernel_rfl
theorem ti125 : ti Tryz.prog 125 = some ⟨1, 0, .other, .undef⟩ := by kernel_rfl
theorem ti126 : ti Tryz.prog 126 = some ⟨1, 8, .func, .nilFunc⟩ := by kernel_rfl
theorem ti127 : ti Tryz.prog 127 = some ⟨1, 8, .func, .nilFunc⟩ := by kernel_rfl
theorem ti128 : ti Tryz.prog 128 = some ⟨1, 8, .func, .nilFunc⟩ := by kernel_rfl
theorem ti129 : ti Tryz.prog 129 = some ⟨1, 8, (.int .u64), (.int .u64 0)⟩ := by kernel_rfl
theorem ti130 : ti Tryz.prog 130 = some ⟨1, 0, .other, .undef⟩ := by kernel_rfl
theorem ti131 : ti Tryz.prog 131 = some ⟨1, 8, .func, .nilFunc⟩ := by kernel_rfl
theorem ti132 : ti Tryz.prog 132 = some ⟨1, 8, .func, .nilFunc⟩ := by kernel_rfl
theorem ti133 : ti Tryz.prog 133 = some ⟨1, 8, .func, .nilFunc⟩ := by kernel_rfl
theorem ti134 : ti Tryz.prog 134 = some ⟨1, 8, .func, .nilFunc⟩ := by kernel_rfl
theorem ti135 : ti Tryz.prog 135 = some ⟨1, 8, .func, .nilFunc⟩ := by kernel_rfl
theorem ti136 : ti Tryz.prog 136 = some ⟨1, 8, .func, .nilFunc⟩ := by kernel_rfl
theorem ti137 : ti Tryz.prog 137 = some ⟨1, 8, (.int .i64), (.int .i64 0)⟩ := by kernel_rfl
theorem ti138 : ti Tryz.prog 138 = some ⟨1, 0, .other, .undef⟩ := by kernel_rfl
theorem ti139 : ti Tryz.prog 139 = some ⟨1, 8, .func, .nilFunc⟩ := by kernel_rfl
theorem ti140 : ti Tryz.prog 140 = some ⟨1, 8, .func, .nilFunc⟩ := by kernel_rfl
theorem ti141 : ti Tryz.prog 141 = some ⟨1, 8, .func, .nilFunc⟩ := by kernel_rfl
theorem ti142 : ti Tryz.prog 142 = some ⟨1, 8, .func, .nilFunc⟩ := by kernel_rfl
theorem ti143 : ti Tryz.prog 143 = some ⟨1, 8, .func, .nilFunc⟩ := by kernel_rfl
theorem ti144 : ti Tryz.prog 144 = some ⟨1, 4, (.int .u32), (.int .u32 0)⟩ := by kernel_rfl
theorem ti145 : ti Tryz.prog 145 = some ⟨1, 8, .func, .nilFunc⟩ := by kernel_rfl
theorem ti146 : ti Tryz.prog 146 = some ⟨1, 8, (.int .u64), (.int .u64 0)⟩ := by kernel_rfl
theorem ti147 : ti Tryz.prog 147 = some ⟨1, 0, .other, .undef⟩ := by kernel_rfl
theorem ti148 : ti Tryz.prog 148 = some ⟨1, 8, .func, .nilFunc⟩ := by kernel_rfl
theorem ti149 : ti Tryz.prog 149 = some ⟨1, 0, .other, .undef⟩ := by kernel_rfl
theorem ti150 : ti Tryz.prog 150 = some ⟨1, 8, .func, .nilFunc⟩ := by kernel_rfl
theorem ti151 : ti Tryz.prog 151 = some ⟨1, 0, .other, .undef⟩ := by kernel_rfl
theorem ti152 : ti Tryz.prog 152 = some ⟨1, 8, .func, .nilFunc⟩ := by kernel_rfl
theorem ti153 : ti Tryz.prog 153 = some ⟨1, 8, .func, .nilFunc⟩ := by kernel_rfl
theorem ti154 : ti Tryz.prog 154 = some ⟨1, 8, (.pointer 81), .nilPtr⟩ := by kernel_rfl
theorem ti155 : ti Tryz.prog 155 = some ⟨1, 8, (.pointer 33), .nilPtr⟩ := by kernel_rfl
theorem ti156 : ti Tryz.prog 156 = some ⟨1, 8, (.pointer 158), .nilPtr⟩ := by kernel_rfl
theorem ti157 : ti Tryz.prog 157 = some ⟨1, 16, (.struct [(0, 9)]), (.agg [(.str ⟨#[]⟩)])⟩ := by kernel_rfl
theorem ti158 : ti Tryz.prog 158 = some ⟨1, 16, (.struct [(0, 9)]), (.agg [(.str ⟨#[]⟩)])⟩ := by kernel_rfl
theorem ti159 : ti Tryz.prog 159 = some ⟨1, 8, .func, .nilFunc⟩ := by kernel_rfl
theorem ti160 : ti Tryz.prog 160 = some ⟨3, 72, (.array 3 25), (.agg [(.crows []), (.crows []), (.crows [])])⟩ := by kernel_rfl
theorem ti161 : ti Tryz.prog 161 = some ⟨1, 8, (.int .u64), (.int .u64 0)⟩ := by kernel_rfl
theorem ti162 : ti Tryz.prog 162 = some ⟨1, 8, .func, .nilFunc⟩ := by kernel_rfl
theorem ti163 : ti Tryz.prog 163 = some ⟨1, 8, .func, .nilFunc⟩ := by kernel_rfl
theorem ti164 : ti Tryz.prog 164 = some ⟨1, 8, .func, .nilFunc⟩ := by kernel_rfl
theorem ti165 : ti Tryz.prog 165 = some ⟨1, 8, (.pointer 3), .nilPtr⟩ := by kernel_rfl
theorem ti166 : ti Tryz.prog 166 = some ⟨1, 8, .func, .nilFunc⟩ := by kernel_rfl
theorem ti167 : ti Tryz.prog 167 = some ⟨1, 0, .other, .undef⟩ := by kernel_rfl
theorem ti168 : ti Tryz.prog 168 = some ⟨1, 8, .func, .nilFunc⟩ := by kernel_rfl
theorem ti169 : ti Tryz.prog 169 = some ⟨4, 4, (.array 4 5), (.agg [(.int .u8 0), (.int .u8 0), (.int .u8 0), (.int .u8 0)])⟩ := by kernel_rfl
theorem ti170 : ti Tryz.prog 170 = some ⟨1, 8, (.pointer 161), .nilPtr⟩ := by kernel_rfl
theorem ti171 : ti Tryz.prog 171 = some ⟨1, 0, .other, .undef⟩ := by kernel_rfl
theorem ti172 : ti Tryz.prog 172 = some ⟨1, 8, .func, .nilFunc⟩ := by kernel_rfl
theorem ti173 : ti Tryz.prog 173 = some ⟨1, 8, .func, .nilFunc⟩ := by kernel_rfl
theorem ti174 : ti Tryz.prog 174 = some ⟨1, 8, .func, .nilFunc⟩ := by kernel_rfl
theorem ti175 : ti Tryz.prog 175 = some ⟨1, 8, .func, .nilFunc⟩ := by kernel_rfl
theorem ti176 : ti Tryz.prog 176 = some ⟨4, 40, (.struct [(0, 17), (1, 17), (2, 17), (3, 9)]), (.agg [.nilPtr, .nilPtr, .nilPtr, (.str ⟨#[]⟩)])⟩ := by kernel_rfl
theorem ti177 : ti Tryz.prog 177 = some ⟨4, 40, (.struct [(0, 17), (1, 17), (2, 17), (3, 9)]), (.agg [.nilPtr, .nilPtr, .nilPtr, (.str ⟨#[]⟩)])⟩ := by kernel_rfl
theorem ti178 : ti Tryz.prog 178 = some ⟨0, 0, (.array 0 16), (.agg [])⟩ := by kernel_rfl
theorem ti179 : ti Tryz.prog 179 = some ⟨0, 0, (.struct [(0, 178)]), (.agg [])⟩ := by kernel_rfl
theorem ti180 : ti Tryz.prog 180 = some ⟨0, 0, (.struct [(0, 178)]), (.agg [])⟩ := by kernel_rfl
theorem ti181 : ti Tryz.prog 181 = some ⟨1, 8, .func, .nilFunc⟩ := by kernel_rfl
theorem ti182 : ti Tryz.prog 182 = some ⟨1, 1, (.int .u8), (.int .u8 0)⟩ := by kernel_rfl
theorem ti183 : ti Tryz.prog 183 = some ⟨1, 1, (.int .u8), (.int .u8 0)⟩ := by kernel_rfl
theorem ti184 : ti Tryz.prog 184 = some ⟨1, 8, .func, .nilFunc⟩ := by kernel_rfl
theorem ti185 : ti Tryz.prog 185 = some ⟨1, 8, (.pointer 5), .nilPtr⟩ := by kernel_rfl
theorem ti186 : ti Tryz.prog 186 = some ⟨1, 4, (.int .i32), (.int .i32 0)⟩ := by kernel_rfl
theorem ti187 : ti Tryz.prog 187 = some ⟨1, 4, (.int .i32), (.int .i32 0)⟩ := by kernel_rfl
theorem ti188 : ti Tryz.prog 188 = some ⟨11, 48, (.struct [(0, 12), (1, 12), (2, 144), (3, 182), (4, 5), (5, 5), (6, 183), (7, 184), (8, 185), (9, 186), (10, 187)]), (.agg [(.int .u64 0), (.int .u64 0), (.int .u32 0), (.int .u8 0), (.int .u8 0), (.int .u8 0), (.int .u8 0), .nilFunc, .nilPtr, (.int .i32 0), (.int .i32 0)])⟩ := by kernel_rfl
theorem ti189 : ti Tryz.prog 189 = some ⟨11, 48, (.struct [(0, 12), (1, 12), (2, 144), (3, 182), (4, 5), (5, 5), (6, 183), (7, 184), (8, 185), (9, 186), (10, 187)]), (.agg [(.int .u64 0), (.int .u64 0), (.int .u32 0), (.int .u8 0), (.int .u8 0), (.int .u8 0), (.int .u8 0), .nilFunc, .nilPtr, (.int .i32 0), (.int .i32 0)])⟩ := by kernel_rfl
theorem ti190 : ti Tryz.prog 190 = some ⟨1, 8, .other, .nilPtr⟩ := by kernel_rfl
attribute [go_sem] ti0 ti1 ti2 ti3 ti4 ti5 ti6 ti7 ti8 ti9 ti10 ti11 ti12 ti13 ti14 ti15 ti16 ti17 ti18 ti19 ti20 ti21 ti22 ti23 ti24 ti25 ti26 ti27 ti28 ti29 ti30 ti31 ti32 ti33 ti34 ti35 ti36 ti37 ti38 ti39 ti40 ti41 ti42 ti43 ti44 ti45 ti46 ti47 ti48 ti49 ti50 ti51 ti52 ti53 ti54 ti55 ti56 ti57 ti58 ti59 ti60 ti61 ti62 ti63 ti64 ti65 ti66 ti67 ti68 ti69 ti70 ti71 ti72 ti73 ti74 ti75 ti76 ti77 ti78 ti79 ti80 ti81 ti82 ti83 ti84 ti85 ti86 ti87 ti88 ti89 ti90 ti91 ti92 ti93 ti94 ti95 ti96 ti97 ti98 ti99 ti100 ti101 ti102 ti103 ti104 ti105 ti106 ti107 ti108 ti109 ti110 ti111 ti112 ti113 ti114 ti115 ti116 ti117 ti118 ti119 ti120 ti121 ti122 ti123 ti124 ti125 ti126 ti127 ti128 ti129 ti130 ti131 ti132 ti133 ti134 ti135 ti136 ti137 ti138 ti139 ti140 ti141 ti142 ti143 ti144 ti145 ti146 ti147 ti148 ti149 ti150 ti151 ti152 ti153 ti154 ti155 ti156 ti157 ti158 ti159 ti160 ti161 ti162 ti163 ti164 ti165 ti166 ti167 ti168 ti169 ti170 ti171 ti172 ti173 ti174 ti175 ti176 ti177 ti178 ti179 ti180 ti181 ti182 ti183 ti184 ti185 ti186 ti187 ti188 ti189 ti190
end Go.Proofs.YtpncgjcflkhemaaGreat
namespace Clk
open Go Go.Proofs Go.Shelf Go.Sort Go.RowKit Go.Lib
def cmpI (x y : Int) : Int := if x < y then -1 else if y < x then 1 else 0
def orI (x y : Int) : Int := if x = 0 then y else x
def cfK {α : Type} (key : α -> Int × Int) (x y : α) : Int := orI (cmpI (key x).1 (key y).1) (cmpI (key x).2 (key y).2)
theorem z022 {α : Type} (key : α -> Int × Int) (x y : α) : ltOf (cfK key) x y = true ↔ ((key x).1 < (key y).1 \/ ((key x).1 = (key y).1 /\ (key x).2 < (key y).2)) := by
 unfold ltOf cfK orI cmpI; rw [decide_eq_true_iff]; repeat' split
 all_goals (constructor <;> intro h <;> omega)
theorem zpi {α : Type} (key : α -> Int × Int) (x y : α) : ltOf (cfK key) x y = false ↔ ¬ ((key x).1 < (key y).1 \/ ((key x).1 = (key y).1 /\ (key x).2 < (key y).2)) := by
 rw [<- z022]; simp
theorem z023 {α : Type} (key : α -> Int × Int) : SWO (ltOf (cfK key)) where
 irrefl x := by rw [zpi]; omega
 trans x y z h1 h2 := by rw [z022] at *; omega
 ntrans x y z h1 h2 := by rw [zpi] at *; omega
theorem z04x {α : Type} (key : α -> Int × Int) (hd : ∀ x y, key x = key y -> x = y) (x y : α) (h1 : ltOf (cfK key) x y = false) (h2 : ltOf (cfK key) y x = false) : x = y := by
 rw [zpi] at *; exact hd x y (Prod.ext (by omega) (by omega))
theorem z040 {α : Type} (key : α -> Int × Int) (x y : α) : ltOf (cfK key) x y = aheadK (some (key x)) (some (key y)) := by
 rw [Bool.eq_iff_iff, z022]; simp [aheadK]
def insL {α : Type} (lt : α -> α -> Bool) : List α -> α -> List α
 | [], r => [r]
 | x :: l, r => if lt r x then r :: x :: l else x :: insL lt l r
theorem zlk {α : Type} (lt : α -> α -> Bool) : ∀ (l : List α) (r : α), (insL lt l r).Perm (r :: l)
 | [], r => List.Perm.refl _
 | x :: l, r => by
   rw [insL]; split
   · exact List.Perm.refl _
   · exact ((zlk lt l r).cons x).trans (List.Perm.swap r x l)
theorem zll {α : Type} {lt : α -> α -> Bool} (hS : SWO lt) : ∀ (l : List α) (r : α), l.Pairwise (fun x y => lt y x = false) -> (insL lt l r).Pairwise (fun x y => lt y x = false)
 | [], r, _ => by simp [insL]
 | x :: l, r, h => by
   rw [List.pairwise_cons] at h; rw [insL]; split
   · rename_i hlt; refine List.pairwise_cons.2 ⟨fun y hy => ?_, List.pairwise_cons.2 h⟩; rcases List.mem_cons.1 hy with rfl | hy
     · cases hc : lt y r with
       | false => rfl
       | true => have := hS.trans _ _ _ hc hlt; rw [hS.irrefl] at this; cases this
     · cases hc : lt y r with
       | false => rfl
       | true => have := hS.trans _ _ _ hc hlt; rw [h.1 y hy] at this; cases this
   · rename_i hlt; refine List.pairwise_cons.2 ⟨fun y hy => ?_, zll hS l r h.2⟩; rcases List.mem_cons.1 ((zlk lt l r).mem_iff.1 hy) with rfl | hy
     · simpa using hlt
     · exact h.1 y hy
theorem zhl {α : Type} {lt : α -> α -> Bool} (hS : SWO lt) : ∀ (l acc : List α), acc.Pairwise (fun x y => lt y x = false) -> (l.foldl (insL lt) acc).Pairwise (fun x y => lt y x = false) /\ (l.foldl (insL lt) acc).Perm (l ++ acc)
 | [], acc, h => ⟨h, List.Perm.refl _⟩
 | x :: l, acc, h => by
   obtain ⟨h1, h2⟩ := zhl hS l (insL lt acc x) (zll hS acc x h); refine ⟨h1, h2.trans ?_⟩; exact ((zlk lt acc x).append_left l).trans List.perm_middle
theorem z06j {α : Type} [Inhabited α] {lt : α -> α -> Bool} (hS : SWO lt) (hT : ∀ x y, lt x y = false -> lt y x = false -> x = y) (d : Array α) : d.toList.mergeSort (fun x y => !lt y x) = d.toList.foldl (insL lt) [] := by
 obtain ⟨h1, h2⟩ := zhl hS d.toList [] .nil; rw [List.append_nil] at h2; refine List.Perm.eq_of_pairwise (le := fun x y => (!lt y x) = true) ?_ ?_ ?_ ((List.mergeSort_perm _ _).trans h2.symm)
 · intro a b _ _ h3 h4; exact hT a b (by simpa using h4) (by simpa using h3)
 · refine List.pairwise_mergeSort ?_ ?_ _
   · intro a b c h3 h4; simp only [Bool.not_eq_true'] at *; exact hS.ntrans _ _ _ h4 h3
   · intro a b; cases hc : lt b a with
     | false => simp
     | true =>
       cases hc2 : lt a b with
       | false => simp
       | true => have := hS.trans _ _ _ hc hc2; rw [hS.irrefl] at this; cases this
 · exact h1.imp fun h => by simp [h]
end Clk
namespace Clk
open Go Go.Proofs Go.Shelf Go.Sort Go.RowKit Go.Lib
theorem z06k {w : World} {N : Nat -> Prop} {β : z0c} {f : FuncId} {u : Value} (h : Rel w N β (.fn f [] []) u) : u = .func (.func f) #[] #[] := by
 cases h with
 | imm h => cases h with | fn h _ h' _ => simp at h h'; subst h; subst h'; rfl
 | fn h _ h' _ => simp at h h'; subst h; subst h'; rfl
theorem zyn {row : List AV} (h : (rowKey row).isSome = true) : ∃ p k s a b, row = [.int .i64 p, .int .i64 k, .int .i64 s, a, b] /\ rowKey row = some (s, p) := by
 unfold rowKey at h; split at h
 · exact ⟨_, _, _, _, _, rfl, rfl⟩
 · cases h
theorem zsf : ∀ {l : List (List AV)}, distA l = true -> (∀ (i : Nat) row, l[i]? = some row -> (rowKey row).isSome = true /\ row.all AV.leaf = true) /\ ∀ (i j : Nat) r s, l[i]? = some r -> l[j]? = some s -> rowKey r = rowKey s -> i = j
 | [], _ => ⟨fun i row h => by simp at h, fun i j r s h => by simp at h⟩
 | x :: l, h => by
   simp only [distA, Bool.and_eq_true] at h; obtain ⟨h1, h2⟩ := zsf h.2; have hne : ∀ y ∈ l, rowKey x ≠ rowKey y := fun y hy e => by
    have := List.all_eq_true.1 h.1.2 y hy; simp [e] at this
   refine ⟨fun i row hi => ?_, fun i j r s hi hj e => ?_⟩
   · cases i with
     | zero => simp at hi; subst hi; exact h.1.1
     | succ i => exact h1 i row (by simpa using hi)
   · cases i with
     | zero =>
       cases j with
       | zero => rfl
       | succ j =>
         simp at hi hj; subst hi; exact absurd e (hne s (List.mem_of_getElem? hj))
     | succ i =>
       cases j with
       | zero =>
         simp at hi hj; subst hj; exact absurd e.symm (hne r (List.mem_of_getElem? hi))
       | succ j =>
         rw [h2 i j r s (by simpa using hi) (by simpa using hj) e]
theorem zmt (w : World) (blk : Nat) (f : Array Value -> Array Value) : (mapBlock w blk f).heap.size = w.heap.size := by simp [mapBlock]
theorem zux {w : World} {blk : Nat} {f : Array Value -> Array Value} {c : Array Value} {e : TypeId} {fr : Nat × Nat} (h : w.heap[blk]? = some (.cells c e fr)) : (mapBlock w blk f).heap[blk]? = some (.cells (f c) e fr) := by
 show (w.heap.modify blk (onCells f))[blk]? = _; rw [Array.getElem?_modify, if_pos rfl, h]; rfl
theorem zuy {w : World} {blk r : Nat} {f : Array Value -> Array Value} (h : r ≠ blk) : (mapBlock w blk f).heap[r]? = w.heap[r]? := by
 show (w.heap.modify blk (onCells f))[r]? = _; rw [Array.getElem?_modify, if_neg fun e => h e.symm]
structure SortAt (P : Program) (f g : Nat) : Prop where
 none : ∀ (p : Option Addr) (cap : Nat) (fv : Value) (w : World), Calls P f #[.slice p 0 cap, fv] w fun e w' => e = .returned (.tuple #[]) /\ w' = w
 sort : ∀ (m : Nat) (enc : Fin (m + 1) -> List Value), (∀ x, (enc x).length = 5) -> (∀ x, ∀ v ∈ enc x, v.oneCell' = true) -> ∀ (cf : Fin (m + 1) -> Fin (m + 1) -> Int), SWO (ltOf cf) -> ∀ (blk off cap : Nat) (d : Array (Fin (m + 1))) (w : World),
  CmpLays P g #[] enc 5 cf blk off d.size w -> HoldsK enc 5 w blk off d -> blk < w.heap.size -> d.size < 4611686018427387904 -> (∀ x y, (ltOf cf) x y = false -> (ltOf cf) y x = false -> x = y) ->
  Calls P f #[.slice (some ⟨blk, off, .none⟩) d.size cap, .func (.func g) #[] #[]] w fun e w' => e = .returned (.tuple #[]) /\ ∃ n os, w' = sortWorldK enc 5 w blk off n (d.toList.mergeSort fun x y => !(ltOf cf) y x).toArray os
 cmp : ∀ (p k s : Int) (u v : Value) (p' k' s' : Int) (u' v' : Value), u.oneCell' = true -> v.oneCell' = true -> u'.oneCell' = true -> v'.oneCell' = true -> ∀ W : World,
  Calls P g #[.agg #[.int .i64 p, .int .i64 k, .int .i64 s, u, v], .agg #[.int .i64 p', .int .i64 k', .int .i64 s', u', v']] W fun e w' => e = .returned (.int .i64 (orI (cmpI s s') (cmpI p p'))) /\ ∃ q os', w' = grow (W.drewN q) os'
theorem z024 {P : Program} {f g : Nat} (S : SortAt P f g) : ∀ args H v ch, sortA g H.length args H = some (v, ch) -> ∀ (w : World) (X : Nat -> Prop) (β : z0c) (vs : Array Value), HRel w X β H -> ARel w (NN X β H) β args vs -> CallsIn (WF none) 0 P f vs w (Ends w X β H v (ze H ch)) := by
 intro args H v ch h w X β vs hr ha; have stay : ∀ (p : Option Addr) (cap : Nat) (fv : Value), CallsIn (WF none) 0 P f #[.slice p 0 cap, fv] w (Ends w X β H (.tup []) H) := fun p cap fv =>
  callsIn_wide.2 ((S.none p cap fv w).mono fun e w' ⟨h1, h2⟩ => by
   subst h2; exact ⟨.tuple #[], β, h1, Post.refl hr, .imm (.tup rfl fun i a v h => by simp at h)⟩)
 unfold sortA at h; split at h
 · rename_i x f'; split at h
   · rename_i hf; subst hf; obtain ⟨hs, hc⟩ := ha; obtain ⟨u0, u1, rfl⟩ : ∃ u0 u1, vs = #[u0, u1] := by
      obtain ⟨l⟩ := vs; match l, hs with
      | [a, b], _ => exact ⟨a, b, rfl⟩
     have r0 := hc 0 x u0 rfl rfl; have r1 := z06k (hc 1 _ u1 rfl rfl); subst r1; split at h
     · cases h; cases r0 with | imm r0 => cases r0 with
        | crows hk ha' hu hr' => exact stay _ _ _
     · rename_i b vv n; split at h
       · rename_i k v' rows hH; split at h
         · rename_i hcond; obtain ⟨rfl, rfl, rfl, hdist, hlen⟩ := hcond; cases h; cases r0 with
           | imm r0 => cases r0
           | @ref _ _ _ _ c bi a hb hv hc' hcur =>
             have hbl : b < H.length := by
              rcases Nat.lt_or_ge b H.length with h | h
              · exact h
              · rw [zI, List.getElem?_eq_none h] at hH; cases hH
             have hob := hr.obj b bi hb; rw [hH] at hob; obtain ⟨hbk, hbv, _, _, cs, T, hcs, hfit, hrow, hcell⟩ := hob; cases hn : rows.length with
             | zero =>
               have hnil : rows = [] := List.eq_nil_of_length_eq_zero hn; subst hnil; have : ze H (some (b, .blk 5 vv true (List.foldl insA [] []))) = H := by
                show (if b < H.length then H.set b _ else _) = H; rw [if_pos hbl]; exact zvy hH
               rw [this]; exact stay _ _ _
             | succ m =>
               obtain ⟨ha0, _⟩ := hcur hbv.symm; have ha1 := ha0 (by omega); rw [Nat.zero_mul] at ha1; subst ha1; obtain ⟨d1, d2⟩ := zsf hdist; let row := fun i : Fin (m + 1) => rows.getD i.val []
               have hrowi : ∀ i : Fin (m + 1), rows[i.val]? = some (row i) := fun i => by
                have : i.val < rows.length := by rw [hn]; exact i.isLt
                simp only [row, zI, zH this]; rfl
               let enc := fun i : Fin (m + 1) => (List.range 5).map fun j => cs[i.val * 5 + j]!
               let key := fun i : Fin (m + 1) => (rowKey (row i)).getD (0, 0)
               have hin : ∀ (i : Fin (m + 1)) j, j < 5 -> cs[i.val * 5 + j]? = some cs[i.val * 5 + j]! := fun i j hj => by
                have hlt : i.val * 5 + j < cs.size := by have := i.isLt; rw [hn] at hfit; omega
                rw [Array.getElem?_eq_getElem hlt, getElem!_pos cs _ hlt]
               have hkey : ∀ i : Fin (m + 1), rowKey (row i) = some (key i) := fun i => by
                have := (d1 i.val (row i) (hrowi i)).1; obtain ⟨x, hx⟩ := Option.isSome_iff_exists.1 this; simp only [key, hx]; rfl
               have hinv : ∀ i : Fin (m + 1), ∃ k a b, row i = [.int .i64 (key i).2, .int .i64 k, .int .i64 (key i).1, a, b] := fun i => by
                obtain ⟨p, k, s, a, b, e1, e2⟩ := zyn (d1 i.val (row i) (hrowi i)).1; rw [hkey i] at e2; injection e2 with e2
                exact ⟨k, a, b, by rw [e1, e2]⟩
               have hrel : ∀ (i : Fin (m + 1)) j x, (row i)[j]? = some x -> Rel w (NN X β H) β x cs[i.val * 5 + j]! := fun i j x hx => by
                have hj : j < 5 := by have := (zG.1 hx).1; rw [hrow _ _ (hrowi i)] at this; exact this
                exact hcell i.val (row i) j x _ (hrowi i) hx (hin i j hj)
               have hone : ∀ (i : Fin (m + 1)) j, j < 5 -> (cs[i.val * 5 + j]!).oneCell' = true := fun i j hj => by
                have hl := hrow _ _ (hrowi i); have hx := zH (show j < (row i).length by rw [hl]; exact hj); exact (z6e (hrel i j _ hx) (List.all_eq_true.1 (d1 i.val (row i) (hrowi i)).2 _ (List.getElem_mem _))).1
               have henc : ∀ i : Fin (m + 1), ∃ k, enc i = [.int .i64 (key i).2, .int .i64 k, .int .i64 (key i).1, cs[i.val * 5 + 3]!, cs[i.val * 5 + 4]!] := fun i => by
                obtain ⟨k, a, b, e⟩ := hinv i; refine ⟨k, ?_⟩; have e0 := z0a (hrel i 0 _ (by rw [e]; rfl)); have e1 := z0a (hrel i 1 _ (by rw [e]; rfl)); have e2 := z0a (hrel i 2 _ (by rw [e]; rfl)); show [cs[i.val * 5 + 0]!, cs[i.val * 5 + 1]!, cs[i.val * 5 + 2]!, cs[i.val * 5 + 3]!, cs[i.val * 5 + 4]!] = _; rw [e0, e1, e2]
               have hdk : ∀ x y : Fin (m + 1), key x = key y -> x = y := fun x y e => Fin.ext (d2 x.val y.val _ _ (hrowi x) (hrowi y) (by rw [hkey, hkey, e]))
               let d : Array (Fin (m + 1)) := Array.ofFn fun i => i
               have hds : d.size = m + 1 := by simp [d]
               have hblk : bi.r < w.heap.size := (Array.getElem?_eq_some_iff.1 hcs).1; have hH5 : HoldsK enc 5 w bi.r 0 d := by
                intro j hj; have hj' : j < (m + 1) * 5 := by simpa [hds] using hj
                have hjd : j / 5 < m + 1 := by omega
                have hlt : j < cs.size := by rw [hn] at hfit; omega
                have hjm : j % 5 < 5 := Nat.mod_lt _ (by omega); have e5 : (flatK enc 5 d)[j]! = cs[j]! := by
                 rw [get_flatK enc 5 d j (by rw [hds]; exact hj')]; have : d[j / 5]! = (⟨j / 5, hjd⟩ : Fin (m + 1)) := by
                  rw [getElem!_pos d _ (by rw [hds]; exact hjd)]; simp [d]
                 rw [this]; show ((List.range 5).map fun q => cs[j / 5 * 5 + q]!)[j % 5]! = _; rw [getElem!_pos _ _ (by simpa using hjm)]; simp only [List.getElem_map, List.getElem_range]; rw [show j / 5 * 5 + j % 5 = j by omega]
                rw [e5, Nat.zero_add]; refine ⟨?_, ?_⟩
                · unfold World.cell?; rw [hcs]; show cs[j]? = _; rw [Array.getElem?_eq_getElem hlt, getElem!_pos cs _ hlt]; rfl
                · unfold World.frozen?; rw [hcs]; simp
               have hcmp : CmpLays P f' #[] enc 5 (cfK key) bi.r 0 d.size w := fun mm os dk hsz x y => by
                obtain ⟨k, ex⟩ := henc x; obtain ⟨k', ey⟩ := henc y; have := S.cmp (key x).2 k (key x).1 _ _ (key y).2 k' (key y).1 _ _ (hone x 3 (by omega)) (hone x 4 (by omega)) (hone y 3 (by omega)) (hone y 4 (by omega)) (sortWorldK enc 5 w bi.r 0 mm dk os); rw [ex, ey]; exact this
               have call := S.sort m enc (fun x => by simp [enc]) (fun x v hv => by
                obtain ⟨j, hj, rfl⟩ := List.mem_map.1 hv; exact hone x j (List.mem_range.1 hj)) (cfK key) (z023 key) bi.r 0 c d w hcmp hH5 hblk (by rw [hds]; omega) (z04x key hdk)
               rw [hds] at call; refine callsIn_wide.2 (call.mono fun e w' ⟨he, q, os, hw⟩ => ?_); rw [z06j (z023 key) (z04x key hdk)] at hw; generalize hl : d.toList.foldl (insL (ltOf (cfK key))) [] = l at hw; have hlp : l.Perm d.toList := by
                have := (zhl (z023 key) d.toList [] .nil).2; rw [List.append_nil, hl] at this; exact this
               have hll : l.length = m + 1 := by rw [hlp.length_eq]; simp [d]
               have hrows : rows.foldl insA [] = l.map row := by
                have h1 : rows = d.toList.map row := by
                 apply List.ext_getElem?
                 intro i; simp only [d, Array.toList_ofFn, List.getElem?_map, List.getElem?_ofFn]; by_cases hi : i < m + 1
                 · rw [dif_pos hi]; exact hrowi ⟨i, hi⟩
                 · rw [dif_neg hi, List.getElem?_eq_none (by omega)]; rfl
                have h2 : ∀ (a b : List (Fin (m + 1))), (a.map row).foldl insA (b.map row) = (a.foldl (insL (ltOf (cfK key))) b).map row := by
                 intro a; induction a with
                 | nil => intro b; rfl
                 | cons x a ih =>
                   intro b; rw [List.map_cons, List.foldl_cons, List.foldl_cons, <- ih]; congr 1
                   exact (zwd (f := row) (ins := insL (ltOf (cfK key))) (ah := ltOf (cfK key)) (fun _ => rfl) (fun _ _ _ => rfl) (fun a b => by rw [z040, hkey, hkey]) b x).symm
                rw [<- hl]; have := h2 d.toList []; rw [<- h1] at this; exact this
               have hat : (Sort.ahead w q).heap[bi.r]? = some (.cells cs T (0, 0)) := hcs; let cs' := putCells id 0 (flatK enc 5 l.toArray) cs
               have hget : ∀ (i j : Nat) (x : Fin (m + 1)), l[i]? = some x -> j < 5 -> cs'[i * 5 + j]? = some cs[x.val * 5 + j]! := fun i j x hx hj => by
                have hi : i < m + 1 := by have := (zG.1 hx).1; omega
                have hlt : i * 5 + j < cs.size := by rw [hn] at hfit; omega
                have hlt2 : i * 5 + j < (m + 1) * 5 := by omega
                simp only [cs', putCells, Array.getElem?_mapIdx, Array.getElem?_eq_getElem hlt, Option.map_some, size_flatK, List.size_toArray, hll]; rw [if_pos ⟨Nat.zero_le _, by omega⟩, Nat.sub_zero, get_flatK enc 5 l.toArray _ (by simpa [hll] using hlt2), show (i * 5 + j) / 5 = i by omega, show (i * 5 + j) % 5 = j by omega]; have : l.toArray[i]! = x := by
                 have hil : i < l.toArray.size := by simpa [hll] using hi
                 rw [getElem!_pos l.toArray i hil]; have h9 := (zG.1 hx).2; simpa using h9
                rw [this]; show some (((List.range 5).map fun q => cs[x.val * 5 + q]!)[j]!) = _; rw [getElem!_pos ((List.range 5).map fun q => cs[x.val * 5 + q]!) j (by simpa using hj)]; simp
               have wr := hr.write (w' := putRowK enc 5 (Sort.ahead w q) bi.r 0 l.toArray) (rows' := rows.foldl insA []) (cs' := cs') hb hH rfl rfl rfl (zmt _ _ _) hcs (zux hat) (fun r hne => zuy hne) (by simp [cs', putCells]) (by rw [hrows]; simp [hll]; rw [hn] at hfit; omega)
                (fun i rw' hi => by
                  rw [hrows, List.getElem?_map, Option.map_eq_some_iff] at hi; obtain ⟨x, hx, rfl⟩ := hi; exact hrow _ _ (hrowi x))
                (fun i rw' j y u hi hj hu => by
                  rw [hrows, List.getElem?_map, Option.map_eq_some_iff] at hi; obtain ⟨x, hx, rfl⟩ := hi; have hj5 : j < 5 := by have := (zG.1 hj).1; rw [hrow _ _ (hrowi x)] at this; exact this
                  rw [hget i j x hx hj5] at hu; cases hu; exact hrel x j y hj)
               obtain ⟨wr1, wr2⟩ := wr; obtain ⟨g1, g2⟩ := wr1.ext (w' := w') (by rw [hw]; show _ <= (_ ++ os).size; rw [Array.size_append]; exact Nat.le_add_right _ _) (fun r hlt => by
                rw [hw]; show ((putRowK enc 5 (Sort.ahead w q) bi.r 0 l.toArray).heap ++ os)[r]? = _; rw [Array.getElem?_append_left hlt]) (by rw [hw]; rfl) (by rw [hw]; rfl) (by rw [hw]; rfl)
               have hap : ze H (some (b, .blk 5 vv true (rows.foldl insA []))) = H.set b (.blk 5 vv true (rows.foldl insA [])) := by
                show (if b < H.length then H.set b _ else _) = _; rw [if_pos hbl]
               rw [hap]; exact ⟨.tuple #[], β, he, ⟨g1, wr2.trans g2, fun _ _ h => h, by simp⟩, .imm (.tup rfl fun i a v h => by simp at h)⟩
         · cases h
       · cases h
     · cases h
   · cases h
 · cases h
end Clk
namespace Go.Proofs
open Go.Shelf
def Tryz.sortL_ren : Go.Shelf.Ren := ⟨fun | 6 => 67 | 15 => 85 | 14 => 84 | 28 => 103 | 29 => 104 | 20 => 95 | 21 => 96 | 22 => 97 | 23 => 98 | 24 => 99 | 25 => 100 | 26 => 101 | 27 => 102 | 46 => 116 | 47 => 117 | 48 => 118 | 49 => 119 | 50 => 120 | 57 => 126 | n => n, fun | 22 => 90 | 24 => 93 | 25 => 114 | 3 => 3 | 39 => 129 | 0 => 0 | 53 => 144 | 55 => 146 | 4 => 4 | 46 => 138 | 45 => 137 | 50 => 117 | 5 => 5 | 9 => 9 | 66 => 161 | 70 => 165 | 76 => 170 | 77 => 171 | n => n, fun | n => n⟩
theorem Tryz.sortL : Go.Proofs.SlLaysF0.n6 Tryz.prog Tryz.sortL_ren := {
 mixed := by kernel_rfl
 f6 := ⟨Tryz.f67.name, by decide, Tryz.func67.trans (congrArg some (by kernel_rfl))⟩
 f14 := ⟨Tryz.f84.name, by decide, Tryz.func84.trans (congrArg some (by kernel_rfl))⟩
 f15 := Tryz.func85.trans (congrArg some (by kernel_rfl))
 f20 := ⟨Tryz.f95.name, by decide, Tryz.func95.trans (congrArg some (by kernel_rfl))⟩
 f21 := ⟨Tryz.f96.name, by decide, Tryz.func96.trans (congrArg some (by kernel_rfl))⟩
 f22 := ⟨Tryz.f97.name, by decide, Tryz.func97.trans (congrArg some (by kernel_rfl))⟩
 f23 := ⟨Tryz.f98.name, by decide, Tryz.func98.trans (congrArg some (by kernel_rfl))⟩
 f24 := ⟨Tryz.f99.name, by decide, Tryz.func99.trans (congrArg some (by kernel_rfl))⟩
 f25 := ⟨Tryz.f100.name, by decide, Tryz.func100.trans (congrArg some (by kernel_rfl))⟩
 f26 := ⟨Tryz.f101.name, by decide, Tryz.func101.trans (congrArg some (by kernel_rfl))⟩
 f27 := ⟨Tryz.f102.name, by decide, Tryz.func102.trans (congrArg some (by kernel_rfl))⟩
 f28 := Tryz.func103.trans (congrArg some (by kernel_rfl))
 f29 := Tryz.func104.trans (congrArg some (by kernel_rfl))
 f46 := ⟨Tryz.f116.name, by decide, Tryz.func116.trans (congrArg some (by kernel_rfl))⟩
 f47 := Tryz.func117.trans (congrArg some (by kernel_rfl))
 f48 := Tryz.func118.trans (congrArg some (by kernel_rfl))
 f49 := ⟨Tryz.f119.name, by decide, Tryz.func119.trans (congrArg some (by kernel_rfl))⟩
 f50 := ⟨Tryz.f120.name, by decide, Tryz.func120.trans (congrArg some (by kernel_rfl))⟩
 f57 := ⟨Tryz.f126.name, by decide, Tryz.func126.trans (congrArg some (by kernel_rfl))⟩
 t0 := Tryz.underlying0
 a0 := Tryz.isAgg0
 z0 := Tryz.sizeOf0
 v0 := Tryz.zeroValue0
 t3 := Tryz.underlying3
 a3 := Tryz.isAgg3
 z3 := Tryz.sizeOf3
 v3 := Tryz.zeroValue3
 t4 := Tryz.underlying4
 a4 := Tryz.isAgg4
 z4 := Tryz.sizeOf4
 v4 := Tryz.zeroValue4
 t5 := Tryz.underlying5
 a5 := Tryz.isAgg5
 z5 := Tryz.sizeOf5
 v5 := Tryz.zeroValue5
 t9 := Tryz.underlying9
 a9 := Tryz.isAgg9
 z9 := Tryz.sizeOf9
 v9 := Tryz.zeroValue9
 t22 := Tryz.underlying90
 a22 := Tryz.isAgg90
 z22 := Tryz.sizeOf90
 v22 := Tryz.zeroValue90
 t25 := Tryz.underlying114
 a25 := Tryz.isAgg114
 z25 := Tryz.sizeOf114
 v25 := Tryz.zeroValue114
 t39 := Tryz.underlying129
 a39 := Tryz.isAgg129
 z39 := Tryz.sizeOf129
 v39 := Tryz.zeroValue129
 t45 := Tryz.underlying137
 a45 := Tryz.isAgg137
 z45 := Tryz.sizeOf137
 v45 := Tryz.zeroValue137
 t46 := Tryz.underlying138
 a46 := Tryz.isAgg138
 z46 := Tryz.sizeOf138
 v46 := Tryz.zeroValue138
 t50 := Tryz.underlying117
 a50 := Tryz.isAgg117
 z50 := Tryz.sizeOf117
 v50 := Tryz.zeroValue117
 t53 := Tryz.underlying144
 a53 := Tryz.isAgg144
 z53 := Tryz.sizeOf144
 v53 := Tryz.zeroValue144
 t55 := Tryz.underlying146
 a55 := Tryz.isAgg146
 z55 := Tryz.sizeOf146
 v55 := Tryz.zeroValue146
 t66 := Tryz.underlying161
 a66 := Tryz.isAgg161
 z66 := Tryz.sizeOf161
 v66 := Tryz.zeroValue161
 t70 := Tryz.underlying165
 a70 := Tryz.isAgg165
 z70 := Tryz.sizeOf165
 v70 := Tryz.zeroValue165
 t76 := Tryz.underlying170
 a76 := Tryz.isAgg170
 z76 := Tryz.sizeOf170
 v76 := Tryz.zeroValue170
 t77 := Tryz.underlying171
 a77 := Tryz.isAgg171
 z77 := Tryz.sizeOf171
 v77 := Tryz.zeroValue171 }
end Go.Proofs
namespace Go.Proofs.YtpncgjcflkhemaaGreat
open Clk Go Go.Proofs Go.Shelf Go.RowKit Go.Lib Go.Sort
theorem nan86 (x : Int) (W : World) : Calls Tryz.prog 86 #[.int .i64 x] W fun e w' => e = .returned (.bool false) /\ w' = W := by
 go_enter Tryz.func86, Tryz.ntmps86
 go_wp2
 go_ret
 simp
set_option maxHeartbeats 1000000 in
theorem cmp70 (x y : Int) (W : World) : Calls Tryz.prog 70 #[.int .i64 x, .int .i64 y] W fun e w' => e = .returned (.int .i64 (cmpI x y)) /\ w' = W := by
 have hn := nan86; unfold cmpI; go_enter Tryz.func70, Tryz.ntmps70
 go_wp2_with (go_at_call 86; refine (hn _ _).mono ?_; rintro e w' ⟨rfl, rfl⟩)
 all_goals go_ret
 all_goals refine ⟨?_, rfl⟩
 all_goals first
  | rfl
  | rw [if_pos (by assumption)]
  | rw [if_neg (by omega), if_pos (by assumption)]
  | rw [if_neg (by omega), if_neg (by omega)]
set_option maxHeartbeats 2000000 in
theorem or69 (b o c : Nat) (x y : Int) (W : World) (h0 : W.cell? ⟨b, o, none⟩ = some (.int .i64 x)) (h1 : W.cell? ⟨b, o + 1, none⟩ = some (.int .i64 y)) :
 Calls Tryz.prog 69 #[.slice (some ⟨b, o, none⟩) 2 c] W fun e w' => e = .returned (.int .i64 (orI x y)) /\ w' = W := by
 by_cases hx : x = 0
 · subst hx; have e : orI 0 y = y := rfl; rw [e]; go_enter Tryz.func69, Tryz.ntmps69
   go_wp2
   refine wp_loop_rounds 3 ?_; rw [rounds_succ]; go_wp2
   all_goals rw [rounds_succ]
   go_wp2
   all_goals try (go_ret; exact ⟨rfl, rfl⟩)
   rename_i hy; have hy : y = 0 := by simpa using hy
   subst hy; rw [rounds_succ]; go_wp2
   go_ret
   exact ⟨rfl, rfl⟩
 · have e : orI x y = x := if_neg hx; rw [e]; have hx2 : (x != 0) = true := by simpa using hx
   go_enter Tryz.func69, Tryz.ntmps69
   go_wp2
   refine wp_loop_rounds 3 ?_; rw [rounds_succ]; go_wp2
   all_goals try (go_ret; exact ⟨rfl, rfl⟩)
theorem zoa {W W3 : World} {o1 o2 : Obj} {c1 : Array Value} {t1 : TypeId} {fz : Nat × Nat} (h : W3.heap = (W.heap.push o1).push o2) (e : o1 = .cells c1 t1 fz) (i : Nat) : W3.cell? ⟨W.heap.size, i, none⟩ = c1[i]? := by
 subst e; have : W3.heap[W.heap.size]? = some (.cells c1 t1 fz) := by rw [h, Array.getElem?_push, if_neg (by simp), Array.getElem?_push, if_pos rfl]
 unfold World.cell?; rw [this]; rfl
theorem zob {W W3 : World} {o1 o2 : Obj} {c1 : Array Value} {t1 : TypeId} {fz : Nat × Nat} (h : W3.heap = (W.heap.push o1).push o2) (e : o2 = .cells c1 t1 fz) (i : Nat) : W3.cell? ⟨W.heap.size + 1, i, none⟩ = c1[i]? := by
 subst e; have : W3.heap[W.heap.size + 1]? = some (.cells c1 t1 fz) := by rw [h, Array.getElem?_push, if_pos (by simp)]
 unfold World.cell?; rw [this]; rfl
theorem or69n (x y : Int) (W : World) : Calls Tryz.prog 69 #[.slice (some ⟨W.heap.size, 0, none⟩) 2 2] (W.alloc (.cells #[.int .i64 x, .int .i64 y] 3)) fun e w' => e = .returned (.int .i64 (orI x y)) /\ w' = W.alloc (.cells #[.int .i64 x, .int .i64 y] 3) := by
 have h : (W.alloc (.cells #[.int .i64 x, .int .i64 y] 3)).heap[W.heap.size]? = some (.cells #[.int .i64 x, .int .i64 y] 3) := by
  show (W.heap.push _)[W.heap.size]? = _; rw [Array.getElem?_push, if_pos rfl]
 exact or69 W.heap.size 0 2 x y _ (by unfold World.cell?; rw [h]; rfl) (by unfold World.cell?; rw [h]; rfl)
set_option maxHeartbeats 4000000 in
theorem cmp68 (p k s : Int) (u v : Value) (p' k' s' : Int) (u' v' : Value) (hu : u.oneCell' = true) (hv : v.oneCell' = true) (hu' : u'.oneCell' = true) (hv' : v'.oneCell' = true) (W : World) :
 Calls Tryz.prog 68 #[.agg #[.int .i64 p, .int .i64 k, .int .i64 s, u, v], .agg #[.int .i64 p', .int .i64 k', .int .i64 s', u', v']] W fun e w' => e = .returned (.int .i64 (orI (cmpI s s') (cmpI p p'))) /\ ∃ q os', w' = grow (W.drewN q) os' := by
 have hc := cmp70; have ho := or69n; go_enter Tryz.func68, Tryz.ntmps68
 go_wp2
 refine wp_region_still_tail 12 (by kernel_rfl) (by kernel_rfl) ?_; simp only [List.take_succ_cons, List.take_zero, List.drop_succ_cons, List.drop_zero]; generalize hW3 : ({ (W.alloc _).alloc _ with drawn := _ } : World) = W3; have hh : W3.heap = (W.heap.push (.cells #[.int .i64 p, .int .i64 k, .int .i64 s, u, v] 93)).push (.cells #[.int .i64 p', .int .i64 k', .int .i64 s', u', v'] 93) := by rw [<- hW3]; rfl
 have hq : W3 = grow (W.drewN 1) #[.cells #[.int .i64 p, .int .i64 k, .int .i64 s, u, v] 93, .cells #[.int .i64 p', .int .i64 k', .int .i64 s', u', v'] 93] := by rw [<- hW3]; rfl
 have f1 : W3.cell? ⟨W.heap.size, 2, none⟩ = some (.int .i64 s) := zoa hh rfl 2; have f2 : W3.cell? ⟨W.heap.size, 0, none⟩ = some (.int .i64 p) := zoa hh rfl 0; have f3 : W3.cell? ⟨W.heap.size + 1, 2, none⟩ = some (.int .i64 s') := zob hh rfl 2; have f4 : W3.cell? ⟨W.heap.size + 1, 0, none⟩ = some (.int .i64 p') := zob hh rfl 0; have hg : ∃ os, W3 = grow (W.drewN 1) os := ⟨_, hq⟩; clear hW3 hh hq; repeat still_step
 still_call (hc _ _ _)
 repeat still_step
 still_call (hc _ _ _)
 refine wpStill_nil ?_; go_wp2_with (go_at_call 69; refine (ho _ _ _).mono ?_; rintro e w' ⟨rfl, rfl⟩)
 obtain ⟨os, rfl⟩ := hg; go_ret
 exact ⟨rfl, 1, os ++ #[.cells #[.int .i64 (cmpI s s'), .int .i64 (cmpI p p')] 3], by rw [alloc_eq_grow, grow_grow]⟩
theorem sortAt : SortAt Tryz.prog 67 68 where
 none p cap fv w := AnyF.slices_SortFunc_none (P := Tryz.prog) (ρ := Tryz.sortL_ren) Tryz.sortL p cap fv w
 sort m enc hk h1 cf hO blk off cap d w hcmp hH hblk hsz hT := AnyQ.slices_SortFunc_total Tryz.sortL 5 Tryz.isAgg93 Tryz.sizeOf93 enc hk h1 cf hO 68 #[] blk off cap d w (enters_of Tryz.func68 (by kernel_rfl) rfl) hcmp hH hblk hsz hT
 cmp := cmp68
end Go.Proofs.YtpncgjcflkhemaaGreat
namespace Go.Proofs.YtpncgjcflkhemaaGreat
open Go Go.Proofs Clk
theorem zoc {H : List AO} {te : TI} {x : AV} {rs : List (List AV)} (h : z0b H x = some rs) : newRows H te x = some rs := by
 cases x <;> first | exact h | (simp [z0b] at h)
theorem z1c : Clk.Good Tryz.prog := ⟨by kernel_rfl, fun f fn h hn => by
 have : Tryz.prog.funcs.all (fun fn => fn.name != "runtime.NumGoroutine") = true := by kernel_rfl
 rw [Array.all_eq_true] at this; obtain ⟨hi, h'⟩ := Array.getElem?_eq_some_iff.1 h; have := this f hi; rw [h', hn] at this; simp at this⟩
theorem clone72 : ∀ args H v ch, cloneA 1 8 H.length args H = some (v, ch) -> ∀ (w : World) (X : Nat -> Prop) (β : z0c) (vs : Array Value), HRel w X β H -> ARel w (NN X β H) β args vs -> CallsIn (WF none) 0 Tryz.prog 72 vs w (Clk.Ends w X β H v (ze H ch)) := by
 refine z00h z1c Tryz.func72 (by rfl) (by rfl) (by rfl) (by rfl) (by rfl) (by rfl) (by rfl) (by rfl) (by rfl) Tryz.underlying25 (fun x H => ⟨20, ?_⟩) (fun x H => ⟨20, ?_⟩) (fun x H v ch h => ?_)
 · simp (config := {dsimp := false}) only [go_sem]
 · simp (config := {dsimp := false}) only [go_sem]
 · unfold cloneA at h; simp only at h; split at h
   · rename_i hrs; cases h; have hnr : ∀ te, newRows H te x = some [] := fun te => zoc hrs
     refine ⟨20, ?_⟩; simp (config := {dsimp := false}) only [go_sem, hnr, reduceIte, Nat.reduceEqDiff, reduceCtorEq, Nat.zero_mul, Nat.not_lt_zero, gt_iff_lt, or_self, Nat.zero_le]; refine ⟨_, rfl, ?_⟩; rfl
   · rename_i rs hne hrs; split at h
     · rename_i hc; cases h; simp only [Bool.and_eq_true, decide_eq_true_eq] at hc; have hnr : ∀ te, newRows H te x = some rs := fun te => zoc hrs
       have h1 : ¬ (zy < rs.length * 8) := Nat.not_lt.2 hc.1.2; have h2 : ¬ (zy < rs.length) := Nat.not_lt.2 hc.2; have h3 : rs.all (fun r => r.length == 1) = true := hc.1.1; have h4 : rs.length ≠ 0 := fun e => hne (List.eq_nil_of_length_eq_zero e)
       refine ⟨20, ?_⟩; simp (config := {dsimp := false}) only [go_sem, hnr, reduceIte, Nat.reduceEqDiff, reduceCtorEq, gt_iff_lt, h1, h2, h3, h4, or_self, Bool.and_self]; refine ⟨_, rfl, ?_⟩; rfl
     · cases h
   · cases h
def primW : FuncId -> Option (Nat -> List AV -> List AO -> Res) := fun f => if f = 72 then some (cloneA 1 8) else if f = 67 then some (sortA 68) else none
theorem z041 : PrimOk Tryz.prog primW := by
 intro f h e; unfold primW at e; split at e
 · rename_i hf; subst hf; cases e; exact ⟨⟨_, Tryz.func72, by rfl⟩, clone72⟩
 · split at e
   · rename_i hf; subst hf; cases e; exact ⟨⟨_, Tryz.func67, by rfl⟩, z024 sortAt⟩
   · cases e
end Go.Proofs.YtpncgjcflkhemaaGreat
namespace Go.Proofs.YtpncgjcflkhemaaGreat
open Clk Go.Proofs
theorem z06l : z0u.prim = primW := by
 funext f
 by_cases h : f < 149
 · have key : (List.range 149).map z0u.prim = (List.range 149).map primW := by kernel_rfl
   have := congrArg (fun l => l[f]?) key; simp only [List.getElem?_map, List.getElem?_range h, Option.map_some] at this; exact Option.some.inj this
 · have h' : 149 <= f := Nat.le_of_not_lt h; have hl : z0u.cl.length = 149 := by kernel_rfl
   have h1 : z0u.cl.length <= f := Nat.le_trans (Nat.le_of_eq hl) h'; have n1 : f ≠ 72 := fun e => absurd (e ▸ h') (by decide)
   have n2 : f ≠ 67 := fun e => absurd (e ▸ h') (by decide)
   unfold Seat.prim primW; rw [zI, List.getElem?_eq_none h1, if_neg n1, if_neg n2]; rfl
theorem zi : PrimOk Tryz.prog z0u.prim := by rw [z06l]; exact z041
end Go.Proofs.YtpncgjcflkhemaaGreat
namespace Go.Proofs.YtpncgjcflkhemaaGreat
open Clk Go Go.Proofs
theorem zpj {W : World} {b : Nat} {s : ByteArray} {t : TypeId} (h : W.heap[b]? = some (.cells #[.string s] t (0, 0))) : W.cell? ⟨b, 0, none⟩ = some (.string s) /\ W.frozen? ⟨b, 0, none⟩ = false := by
 constructor
 · unfold World.cell?; rw [h]; rfl
 · unfold World.frozen?; rw [h]; simp
set_option maxHeartbeats 1000000 in
theorem zpk {U : Str -> Option (List Int × Str × Int)} (hU : zal Tryz.prog 122 U) {s r : Str} {l : List Int} (h : U s = some (l, r, 0)) (b : Nat) (t : TypeId) (w : World) (N : Nat -> Prop) (hN : ∀ x, N x -> x < w.heap.size) (hb : w.heap[b]? = some (.cells #[.string ⟨s.toArray⟩] t (0, 0))) (hNb : N b) :
 Calls Tryz.prog 110 #[.pointer (some ⟨b, 0, none⟩)] w fun en w' => ∃ v, en = .returned v /\ Gr (fun x => x = b) w w' /\ RelI w' N (eInts l) v /\ w'.heap[b]? = some (.cells #[.string ⟨r.toArray⟩] t (0, 0)) := by
 obtain ⟨c1, c2⟩ := zpj hb; have hc := hU s l r 0 h w N hN; have hbl : b < w.heap.size := (Array.getElem?_eq_some_iff.1 hb).1; go_enter Tryz.func110, Tryz.ntmps110
 go_wp2_with (go_at_call 122; refine hc.mono ?_; rintro e w' ⟨v, rfl, hg, hv⟩; obtain ⟨c3, c4⟩ := zpj ((hg.same b hbl id).trans hb))
 go_ret
 have hs := (hg.wider (L' := fun x => x = b) fun _ h => h.elim).trans (Gr.setCell (L := fun x => x = b) w' b 0 (.string ⟨r.toArray⟩) rfl); refine ⟨v, rfl, hs, (Gr.setCell (L := fun x => x = b) w' b 0 (.string ⟨r.toArray⟩) rfl).rel' (fun x e => by subst e; exact hNb) hv, ?_⟩; rw [z2x, if_pos rfl, (hg.same b hbl id).trans hb]; rfl
set_option maxHeartbeats 1000000 in
theorem zx5 {U : Str -> Option (List Int × Str × Int)} (hU : zal Tryz.prog 122 U) {s r : Str} {l : List Int} {e : Int} (h : U s = some (l, r, e)) (he : e ≠ 0) (b : Nat) (t : TypeId) (w : World) (hb : w.heap[b]? = some (.cells #[.string ⟨s.toArray⟩] t (0, 0))) :
 Calls Tryz.prog 110 #[.pointer (some ⟨b, 0, none⟩)] w fun en w' => en = .panicked [{ v := .iface 33 (.int .i64 30), recovered := false }] /\ Gr (fun _ => False) w w' := by
 obtain ⟨c1, c2⟩ := zpj hb; have hc := hU s l r e h w (fun _ => False) (fun _ h => h.elim); have hd : (e != 0) = true := by simpa using he
 go_enter Tryz.func110, Tryz.ntmps110
 go_wp2_with (go_at_call 122; refine hc.mono ?_; rintro e w' ⟨v, rfl, hg, hv⟩)
 exact ⟨rfl, rfl, hg⟩
set_option maxHeartbeats 2000000 in
theorem zis (p q : Nat) (pc : Array Value) (qc : Value) (older : List PanicEntry) (w : World) (hp : w.heap[p]? = some (.cells pc 81 (0, 0))) (hps : pc.size = 4) (hq : w.heap[q]? = some (.cells #[qc] 33 (0, 0))) (hpq : p ≠ q) :
 CallsD Tryz.prog 109 #[.pointer (some ⟨p, 0, none⟩), .pointer (some ⟨q, 0, none⟩)] (.panicking ({ v := .iface 33 (.int .i64 30), recovered := false } :: older)) w fun e u' w' =>
  e = .returned (.tuple #[]) /\ u' = .panicking ({ v := .iface 33 (.int .i64 30), recovered := true } :: older) /\ Gr (fun x => x = p \/ x = q) w w' /\
  w'.heap[p]? = some (.cells #[.int .i64 0, .int .i64 0, .slice none 0 0, .slice none 0 0] 81 (0, 0)) /\ w'.heap[q]? = some (.cells #[.int .i64 30] 33 (0, 0)) := by
 refine callsD_of_wpS Tryz.func109 rfl fun c₀ cs hu => ?_
 apply wpS_seq
 apply wpS_region
 simp [wpOpsS, go_sem, recoverD, hu, Tryz.ntmps109, Exit.thenS]; apply wpS_seq
 apply wpS_region
 simp [wpOpsS, go_sem, Exit.thenS]; refine wpS_cond (t := true) (by simp [Act.eval, Array.replicate]) ?_; simp only [if_true]; refine wpS_of_wp ?_; change Code.wp Tryz.prog _ _ { tmps := #[.pointer (some ⟨p, 0, none⟩), .pointer (some ⟨q, 0, none⟩), undef, undef, .iface 33 (.int .i64 30), .iface 33 (.int .i64 30), .iface 33 (.int .i64 30), .bool true, undef, undef, undef, undef, undef, undef, undef], defers := [] } w
 have hf : ∀ i, w.frozen? ⟨p, i, none⟩ = false := fun i => by unfold World.frozen?; rw [hp]; simp
 have hcl : ∀ i, i < 4 -> ∃ v, w.cell? ⟨p, i, none⟩ = some v := fun i hi => by
  unfold World.cell?; rw [hp]; exact ⟨pc[i]'(by omega), by show pc[i]? = _; rw [Array.getElem?_eq_getElem]⟩
 obtain ⟨p0, c0⟩ := hcl 0 (by omega); obtain ⟨p1, c1⟩ := hcl 1 (by omega); obtain ⟨p2, c2⟩ := hcl 2 (by omega); obtain ⟨p3, c3⟩ := hcl 3 (by omega); have f0 := hf 0; have f1 := hf 1; have f2 := hf 2; have f3 := hf 3; have d0 : w.cell? ⟨q, 0, none⟩ = some qc := by unfold World.cell?; rw [hq]; rfl
 have g0 : w.frozen? ⟨q, 0, none⟩ = false := by unfold World.frozen?; rw [hq]; simp
 have hT : ∀ W : World, (Instr.typeAssert (.iface 33 (.int .i64 30)) 20 33 false).run Tryz.prog W = .ok (.int .i64 30) W := fun W => by kernel_rfl
 go_region
 cases c₀; simp only [bodyPostS, results, Tryz.results109]; obtain ⟨s1, s2⟩ := store4 w hp hps (.int .i64 0) (.int .i64 0) (.slice none 0 0) (.slice none 0 0); obtain ⟨s3, s4⟩ := store1 _ ((s1.same q (Array.getElem?_eq_some_iff.1 hq).1 fun e => hpq e.symm).trans hq) (.int .i64 30); refine ⟨trivial, _, rfl, .tuple #[], by simp [go_sem], rfl, rfl, (((s1.wider (L' := fun x => x = p \/ x = q) fun _ h => .inl h).trans (s3.wider fun _ h => .inr h))).drew, ?_, s4⟩; exact (s3.same p (Nat.lt_of_lt_of_le (Array.getElem?_eq_some_iff.1 hp).1 s1.size) hpq).trans s2
set_option maxHeartbeats 2000000 in
theorem zlm (p q : Value) (w : World) :
 CallsD Tryz.prog 109 #[p, q] .returning w fun e u' w' => e = .returned (.tuple #[]) /\ u' = .returning /\ w' = w := by
 refine callsD_of_wpS Tryz.func109 rfl fun c₀ cs hu => ?_
 apply wpS_seq
 apply wpS_region
 simp [wpOpsS, go_sem, recoverD, hu, Tryz.ntmps109, Exit.thenS]; apply wpS_seq
 apply wpS_region
 simp [wpOpsS, go_sem, Exit.thenS]; refine wpS_cond (t := false) (by simp [Act.eval, Array.replicate]) ?_; simp only [Bool.false_eq_true, if_false]; refine wpS_of_wp (wp_skip ?_); cases c₀; simp_all [bodyPostS, results, Tryz.results109]
set_option maxHeartbeats 4000000 in
theorem z025 {U : Str -> Option (List Int × Str × Int)} (hU : zal Tryz.prog 122 U) {s r : Str} {l : List Int} {e : Int} (h : U s = some (l, r, e)) (he : e ≠ 0) (w : World) :
 Calls Tryz.prog 93 #[.string ⟨s.toArray⟩] w fun en w' => en = .returned (.tuple #[.agg #[.int .i64 0, .int .i64 0, .slice none 0 0, .slice none 0 0], .int .i64 30]) /\ Gr (fun _ => False) w w' := by
 obtain ⟨z1, z2, z3, z4, z5⟩ := alloc3 w (.cells #[.int .i64 0, .int .i64 0, .slice none 0 0, .slice none 0 0] 81) (.cells #[.int .i64 0] 33) (.cells #[.string ⟨s.toArray⟩] 158); go_enter_defers Tryz.func93, Tryz.ntmps93
 go_wp2_with (go_at_call 110; refine (zx5 hU h he _ 158 _ z4).mono ?_; rintro e w' ⟨rfl, hg⟩)
 refine leaves_cons (f := 109) (args := #[.pointer (some ⟨w.heap.size, 0, none⟩), .pointer (some ⟨w.heap.size + 1, 0, none⟩)]) (by simp) (by simp [go_sem]) ?_; refine (zis w.heap.size (w.heap.size + 1) _ _ [] _ ((hg.same _ (by omega) id).trans z2) rfl ((hg.same _ (by omega) id).trans z3) (by omega)).mono ?_; rintro e u' w'' ⟨rfl, rfl, k1, k2, k3⟩
 obtain ⟨q0, q1, q2, q3, _⟩ := cells4 k2; obtain ⟨q4, _⟩ := cells1 k3; simp [Leaves, settle, results, Tryz.results93, go_sem, q0, q1, q2, q3, q4]; exact (z1.trans hg).hide k1 (fun r h => by omega)
set_option maxHeartbeats 4000000 in
theorem z042 {U : Str -> Option (List Int × Str × Int)} (hU : zal Tryz.prog 122 U) {s r : Str} {l : List Int} (h : U s = some (l, r, 0)) (hl : l.length ≠ 2) (w : World) :
 Calls Tryz.prog 93 #[.string ⟨s.toArray⟩] w fun en w' => en = .returned (.tuple #[.agg #[.int .i64 0, .int .i64 0, .slice none 0 0, .slice none 0 0], .int .i64 30]) /\ Gr (fun _ => False) w w' := by
 obtain ⟨z1, z2, z3, z4, z5⟩ := alloc3 w (.cells #[.int .i64 0, .int .i64 0, .slice none 0 0, .slice none 0 0] 81) (.cells #[.int .i64 0] 33) (.cells #[.string ⟨s.toArray⟩] 158); have hd : ((l.length : Int) != 2) = true := by simp; omega
 go_enter_defers Tryz.func93, Tryz.ntmps93
 go_wp2_with (go_at_call 110; refine (zpk hU h _ 158 _ (fun x => x = w.heap.size + 1 + 1) (fun x hx => by omega) z4 rfl).mono ?_; rintro e w' ⟨v, rfl, hg, hv, hb⟩; obtain ⟨a, c, rfl, hv⟩ := zjp hv; have y2 := (hg.same w.heap.size (by omega) (by omega)).trans z2; have y3 := (hg.same (w.heap.size + 1) (by omega) (by omega)).trans z3; obtain ⟨q0, q1, q2, q3, q4, q5, q6, q7⟩ := cells4 y2; obtain ⟨q8, q9⟩ := cells1 y3)
 obtain ⟨s1, s2⟩ := store4 w' y2 rfl (.int .i64 0) (.int .i64 0) (.slice none 0 0) (.slice none 0 0); have y3' := (s1.same (w.heap.size + 1) (Nat.lt_of_lt_of_le (by omega) hg.size) (by omega)).trans y3; obtain ⟨s3, s4⟩ := store1 _ y3' (.int .i64 30); have s5 := (s3.same w.heap.size (Nat.lt_of_lt_of_le (by omega) (Nat.le_trans hg.size s1.size)) (by omega)).trans s2; refine leaves_cons (f := 109) (args := #[.pointer (some ⟨w.heap.size, 0, none⟩), .pointer (some ⟨w.heap.size + 1, 0, none⟩)]) (by simp) (by simp [go_sem]) ?_; refine (zlm _ _ _).mono ?_; rintro e u' w'' ⟨rfl, rfl, rfl⟩
 obtain ⟨q0, q1, q2, q3, _⟩ := cells4 s5; obtain ⟨q4, _⟩ := cells1 s4; simp [Leaves, settle, results, Tryz.results93, go_sem, q0, q1, q2, q3, q4]; exact ((z1.hide hg (fun r h => by omega)).hide s1 (fun r h => by omega)).hide s3 (fun r h => by omega)
set_option maxHeartbeats 4000000 in
theorem zsg {U : Str -> Option (List Int × Str × Int)} (hU : zal Tryz.prog 122 U) {M : List Int -> Option (List Int)} (hM : MovedAt Tryz.prog 111 M) {s r1 r2 r3 : Str} {l1 l2 l3 l4 : List Int} {e3 : Int} (h1 : U s = some (l1, r1, 0)) (hl : l1.length = 2) (h2 : U r1 = some (l2, r2, 0)) (h3 : U r2 = some (l3, r3, e3)) (h4 : e3 = 0 -> M l3 = some l4) (w : World) :
 Calls Tryz.prog 93 #[.string ⟨s.toArray⟩] w fun en w' => ∃ v, en = .returned (.tuple #[v, .int .i64 (if e3 = 0 then 0 else 30)]) /\ Gr (fun _ => False) w w' /\ RelI w' (fun x => x < w.heap.size) (.agg (eRecord (if e3 = 0 then ⟨l1[0], l1[1], l2, l4⟩ else ⟨0, 0, [], []⟩))) v := by
 obtain ⟨z1, z2, z3, z4, z5⟩ := alloc3 w (.cells #[.int .i64 0, .int .i64 0, .slice none 0 0, .slice none 0 0] 81) (.cells #[.int .i64 0] 33) (.cells #[.string ⟨s.toArray⟩] 158); have hd : ((2 : Int) != 2) = false := rfl; go_enter_defers Tryz.func93, Tryz.ntmps93
 go_wp2_with (go_at_call 110; refine (zpk hU h1 _ 158 _ (fun x => x < w.heap.size + 3) (fun x hx => by omega) z4 (by omega)).mono ?_; rintro e w' ⟨v, rfl, hg, hv, hb⟩; obtain ⟨a, c, rfl, hvc⟩ := zjp hv; have y2 := (hg.same w.heap.size (by omega) (by omega)).trans z2; have y3 := (hg.same (w.heap.size + 1) (by omega) (by omega)).trans z3; obtain ⟨q0, q1, q2, q3, q4, q5, q6, q7⟩ := cells4 y2; obtain ⟨q8, q9⟩ := cells1 y3; obtain ⟨ad, rfl, g1, g2, g3, g4⟩ := hvc 0 (by omega); obtain ⟨ad', e', g1', g2', g3', g4'⟩ := hvc 1 (by omega); cases e'; rw [hl])
 obtain ⟨ab, ao, sp⟩ := ad; simp only at g1 g3 g4 g4' g2; subst g1; rw [Nat.add_zero] at g4; have n2 : ab ≠ w.heap.size + 1 + 1 := by omega
 have n3 : ab ≠ w.heap.size := by omega
 have hz := hg.size; go_region_held3 (fun W : World => W.cell? ⟨ab, ao, none⟩ = some (.int .i64 l1[0]) /\ W.cell? ⟨ab, ao + 1, none⟩ = some (.int .i64 l1[1])) (first | exact ⟨g4, g4'⟩ | exact ⟨kk1, kk2⟩ | (refine ⟨?_, ?_⟩ <;> simp only [zlh _ _ _ _ _ _ n3, kk1, kk2])) (first | (go_at_call 110; refine (zpk hU h2 _ 158 w'.drew (fun x => x < w.heap.size + 3) (fun x hx => Nat.lt_of_lt_of_le hx (by show w.heap.size + 3 <= w'.heap.size; omega)) hb (by omega)).mono ?_; rintro e w2 ⟨v2, rfl, hg2, hv2, hb2⟩; obtain ⟨a2, c2, hve, _⟩ := zjp hv2; subst hve; have yy2 := (hg2.same w.heap.size (by show w.heap.size < w'.heap.size; omega) (by omega)).trans y2; obtain ⟨Q0, Q1, Q2, Q3, Q4, Q5, Q6, Q7⟩ := cells4 yy2; have kk0 := hg2.same ab g3 n2; have kk1 := (z2s kk0).trans g4; have kk2 := (z2s kk0).trans g4'))
 obtain ⟨s1, s2⟩ := store4 w2 yy2 rfl (.int .i64 l1[0]) (.int .i64 l1[1]) (.slice a2 l2.length c2) (.slice none 0 0); have tz : Gr (fun _ => False) w ((((w2.setCell ⟨w.heap.size, 0, none⟩ (.int .i64 l1[0])).setCell ⟨w.heap.size, 1, none⟩ (.int .i64 l1[1])).setCell ⟨w.heap.size, 2, none⟩ (.slice a2 l2.length c2)).setCell ⟨w.heap.size, 3, none⟩ (.slice none 0 0)) :=
  (((z1.hide hg (fun r h => by omega)).drew).hide hg2 (fun r h => by omega)).hide s1 (fun r h => by omega)
 have hz2 : w.heap.size + 3 <= w2.heap.size := Nat.le_trans (by show _ <= w'.heap.size; omega) hg2.size; have t4 := (s1.same (w.heap.size + 1 + 1) (by omega) (by omega)).trans hb2; have t3 := (s1.same (w.heap.size + 1) (by omega) (by omega)).trans ((hg2.same (w.heap.size + 1) (by show _ < w'.heap.size; omega) (by omega)).trans y3); have tv := s1.rel' (N := fun x => x < w.heap.size + 3) (fun x e => by omega) hv2; have hz3 := Nat.le_trans hz2 s1.size; generalize ((((w2.setCell ⟨w.heap.size, 0, none⟩ (.int .i64 l1[0])).setCell ⟨w.heap.size, 1, none⟩ (.int .i64 l1[1])).setCell ⟨w.heap.size, 2, none⟩ (.slice a2 l2.length c2)).setCell ⟨w.heap.size, 3, none⟩ (.slice none 0 0)) = w3 at s1 s2 tz t4 t3 tv hz3 ⊢; clear q0 q1 q2 q3 q4 q5 q6 q7 q8 q9 Q0 Q1 Q2 Q3 Q4 Q5 Q6 Q7 kk0 kk1 kk2 g4 g4'; by_cases he : e3 = 0
 · subst he; have hm : M l3 = some l4 := h4 rfl; go_wp2_with (go_at_call 110; refine (zpk hU h3 _ 158 w3 (fun x => x < w.heap.size + 3) (fun x hx => Nat.lt_of_lt_of_le hx hz3) t4 (by omega)).mono ?_; rintro e w4 ⟨v3, rfl, hg3, hv3, hb3⟩; have u2 := (hg3.same w.heap.size (by omega) (by omega)).trans s2; have u1 := (hg3.same (w.heap.size + 1) (by omega) (by omega)).trans t3; have hz4 := Nat.le_trans hz3 hg3.size)
   refine (hM l3 l4 hm w4 (fun x => x < w.heap.size + 3) v3 (fun x hx => Nat.lt_of_lt_of_le hx hz4) hv3).mono ?_; rintro e w5 ⟨v4, rfl, hg4, hv4⟩
   obtain ⟨a4, c4, hve4, _⟩ := zjp hv4; subst hve4; have x2 := (hg4.same w.heap.size (by omega) id).trans u2; have x1 := (hg4.same (w.heap.size + 1) (by omega) id).trans u1; obtain ⟨Q0, Q1, Q2, Q3, Q4, Q5, Q6, Q7⟩ := cells4 x2; obtain ⟨Q8, Q9⟩ := cells1 x1; go_wp2
   obtain ⟨a1, a2'⟩ := store3 w5 x2 (.slice a4 l4.length c4); obtain ⟨b1, b2⟩ := store4 _ a2' rfl (.int .i64 l1[0]) (.int .i64 l1[1]) (.slice a2 l2.length c2) (.slice a4 l4.length c4); have hz5 := Nat.le_trans hz4 hg4.size; have b3 := (b1.same (w.heap.size + 1) (Nat.lt_of_lt_of_le (by omega) a1.size) (by omega)).trans ((a1.same (w.heap.size + 1) (by omega) (by omega)).trans x1); obtain ⟨d1, d2⟩ := store1 _ b3 (.int .i64 0); have d3 := (d1.same w.heap.size (Nat.lt_of_lt_of_le (by omega) (Nat.le_trans a1.size b1.size)) (by omega)).trans b2; have gAll : Gr (fun x => x < w.heap.size + 3) w3 _ := ((((hg3.wider fun _ h => by omega).trans (hg4.wider fun _ h => h.elim)).trans (a1.wider fun _ h => by omega)).trans (b1.wider fun _ h => by omega)).trans (d1.wider fun _ h => by omega); have gTail : Gr (fun x => x < w.heap.size + 3) w5 _ := ((a1.wider fun _ h => by omega).trans (b1.wider fun _ h => by omega)).trans (d1.wider fun _ h => by omega); refine leaves_cons (f := 109) (args := #[.pointer (some ⟨w.heap.size, 0, none⟩), .pointer (some ⟨w.heap.size + 1, 0, none⟩)]) (by simp) (by simp [go_sem]) ?_; refine (zlm _ _ _).mono ?_; rintro e u' w'' ⟨rfl, rfl, rfl⟩
   obtain ⟨q0, q1, q2, q3, _⟩ := cells4 d3; obtain ⟨q4, _⟩ := cells1 d2; have fin1 := ((((tz.hide hg3 (fun r h => by omega)).hide hg4 (fun r h => h.elim)).hide a1 (fun r h => by omega)).hide b1 (fun r h => by omega)).hide d1 (fun r h => by omega); have fin2 := zph (a := l1[0]) (b := l1[1]) (gAll.rel (N' := fun x => x < w.heap.size) (fun _ h => h) (fun _ h => by omega) tv) (gTail.rel (N' := fun x => x < w.heap.size) (fun _ h => h) (fun _ h => by omega) hv4); simp [Leaves, settle, results, Tryz.results93, go_sem, q0, q1, q2, q3, q4]; exact ⟨fin1, fin2⟩
 · go_wp2_with (go_at_call 110; refine (zx5 hU h3 he _ 158 w3 t4).mono ?_; rintro e w4 ⟨rfl, hg3⟩)
   refine leaves_cons (f := 109) (args := #[.pointer (some ⟨w.heap.size, 0, none⟩), .pointer (some ⟨w.heap.size + 1, 0, none⟩)]) (by simp) (by simp [go_sem]) ?_; refine (zis w.heap.size (w.heap.size + 1) _ _ [] _ ((hg3.same _ (by omega) id).trans s2) rfl ((hg3.same _ (by omega) id).trans t3) (by omega)).mono ?_; rintro e u' w'' ⟨rfl, rfl, k1, k2, k3⟩
   obtain ⟨q0, q1, q2, q3, _⟩ := cells4 k2; obtain ⟨q4, _⟩ := cells1 k3; have fin1 := (tz.hide hg3 (fun r h => h.elim)).hide k1 (fun r h => by omega); have fin2 := zph (w := w'') (N := fun x => x < w.heap.size) (a := 0) (b := 0) zhe zhe; simp [Leaves, settle, results, Tryz.results93, go_sem, q0, q1, q2, q3, q4, he]; exact ⟨fin1, fin2⟩
theorem z06m {U : Str -> Option (List Int × Str × Int)} (hU : zal Tryz.prog 122 U) {M : List Int -> Option (List Int)} (hM : MovedAt Tryz.prog 111 M) : ReadAt Tryz.prog 93 U M := by
 intro s r e h w; unfold readF at h; split at h
 · cases h
 · rename_i l1 r1 e1 h1; by_cases he1 : e1 = 0
   · subst he1; rw [zT rfl, zC] at h; by_cases hl : l1.length = 2
     · rw [zT hl, zC] at h; split at h
       · cases h
       · rename_i l2 r2 e2 h2; by_cases he2 : e2 = 0
         · subst he2; rw [zT rfl, zC] at h; split at h
           · cases h
           · rename_i l3 r3 e3 h3; by_cases he3 : e3 = 0
             · rw [zT he3, zC] at h; split at h
               · cases h
               · rename_i l4 h4; cases h; have := zsg hU hM h1 hl h2 h3 (fun _ => h4) w; rw [if_pos he3, if_pos he3] at this; rw [show l1.getD 0 0 = l1[0] by simp [zI, zH (show 0 < l1.length by omega)], show l1.getD 1 0 = l1[1] by simp [zI, zH (show 1 < l1.length by omega)]]; exact this
             · rw [zF he3, zD] at h; cases h; have := zsg hU hM (l4 := []) h1 hl h2 h3 (fun e => absurd e he3) w; rw [if_neg he3, if_neg he3] at this; exact this
         · rw [zF he2, zD] at h; cases h
     · rw [zF hl, zD] at h; cases h; exact (z042 hU h1 hl w).mono fun en w' ⟨k1, k2⟩ => ⟨_, k1, k2, zph zhe zhe⟩
   · rw [zF he1, zD] at h; cases h; exact (z025 hU h1 he1 w).mono fun en w' ⟨k1, k2⟩ => ⟨_, k1, k2, zph zhe zhe⟩
end Go.Proofs.YtpncgjcflkhemaaGreat
namespace Clk.YtpncgjcflkhemaaGreat
open Go Go.Proofs Go.Proofs.YtpncgjcflkhemaaGreat
noncomputable def LN : List (FuncId × Spec) := []
theorem ok_N : zm Tryz.prog (zo LN) := z01a
noncomputable def zcp : Nat -> Option Tmpl := fun cx => cond (Nat.beq cx 1) (some ⟨[], [], 19, [], ([.var (.list .bool), .var .bool, J, J, J, J, J, .var .i, .var .i] ++ jN 10), [], []⟩) <| none
noncomputable def zcq : Nat -> Nat -> Option (Nat × Nat) := fun _ _ => none
theorem zmu (N : Nat) (a0 : (List Bool)) (a1 : Bool) : z18 (z0u.mk' (z0r LN) zcp zcq) N 400 62 [(.list .bool), .bool] [.i] (a0, a1) = ze1 N a0 a1 := by kernel_rfl
noncomputable def z90 : List (FuncId × Spec) := (62, ⟨[(.list .bool), .bool], [.i], z8x⟩) :: LN
theorem zln : zm Tryz.prog (zo z90) := z8 zu z1c zi ok_N (by kernel_rfl) ⟨_, Tryz.func62, by rfl⟩ (tm := zcp) (gh := zcq) fun x y h => by obtain ⟨N, h⟩ := zk h; exact ⟨N, 400, (zmu N x.1 x.2).trans h⟩
noncomputable def z8a : Nat -> Option Tmpl := fun _ => none
theorem zhm (N : Nat) (a0 : (List Bool)) (a1 : Bool) : z18 (z0u.mk' (z0r z90) z8a zcq) N 400 44 [(.list .bool), .bool] [.bool] (a0, a1) = z1z a0 a1 := by kernel_rfl
noncomputable def z43 : List (FuncId × Spec) := (44, ⟨[(.list .bool), .bool], [.bool], z42⟩) :: z90
theorem zg9 : zm Tryz.prog (zo z43) := z8 zu z1c zi zln (by kernel_rfl) ⟨_, Tryz.func44, by rfl⟩ (tm := z8a) (gh := zcq) fun x y h => ⟨0, 400, (zhm 0 x.1 x.2).trans h⟩
theorem zyo (N : Nat) (a0 : (List Bool)) : z18 (z0u.mk' (z0r z43) z8a zcq) N 400 26 [(.list .bool)] [.bool] a0 = zds a0 := by kernel_rfl
noncomputable def zhn : List (FuncId × Spec) := (26, ⟨[(.list .bool)], [.bool], zhh⟩) :: z43
theorem zuz : zm Tryz.prog (zo zhn) := z8 zu z1c zi zg9 (by kernel_rfl) ⟨_, Tryz.func26, by rfl⟩ (tm := z8a) (gh := zcq) fun x y h => ⟨0, 400, (zyo 0 x).trans h⟩
theorem zpl (N : Nat) (a0 : Int) (a1 : Int) (a2 : Int) : z18 (z0u.mk' (z0r zhn) z8a zcq) N 400 27 [.i, .i, .i] [.bool] (a0, a1, a2) = z67 a0 a1 a2 := by kernel_rfl
noncomputable def zaw : List (FuncId × Spec) := (27, ⟨[.i, .i, .i], [.bool], z20⟩) :: zhn
theorem zmv : zm Tryz.prog (zo zaw) := z8 zu z1c zi zuz (by kernel_rfl) ⟨_, Tryz.func27, by rfl⟩ (tm := z8a) (gh := zcq) fun x y h => ⟨0, 400, (zpl 0 x.1 x.2.1 x.2.2).trans h⟩
theorem zv0 (N : Nat) (a0 : Geometry) : z18 (z0u.mk' (z0r zaw) z8a zcq) N 400 9 [.geometry] [.bool] a0 = zar a0 := by kernel_rfl
noncomputable def zey : List (FuncId × Spec) := (9, ⟨[.geometry], [.bool], z0w⟩) :: zaw
theorem zsh : zm Tryz.prog (zo zey) := z8 zu z1c zi zmv (by kernel_rfl) ⟨_, Tryz.func9, by rfl⟩ (tm := z8a) (gh := zcq) fun x y h => ⟨0, 400, (zv0 0 x).trans h⟩
theorem z026 (N : Nat) (a0 : Chip) : z18 (z0u.mk' (z0r zey) z8a zcq) N 400 34 [.chip] [.chip] a0 = zse a0 := by kernel_rfl
noncomputable def zlo : List (FuncId × Spec) := (34, ⟨[.chip], [.chip], zco⟩) :: zey
theorem zyp : zm Tryz.prog (zo zlo) := z8 zu z1c zi zsh (by kernel_rfl) ⟨_, Tryz.func34, by rfl⟩ (tm := z8a) (gh := zcq) fun x y h => ⟨0, 400, (z026 0 x).trans h⟩
theorem zpm (N : Nat) (a0 : Int) (a1 : Str) (a2 : Bool) : z18 (z0u.mk' (z0r zlo) z8a zcq) N 400 131 [.i, .str, .bool] [.i, .str, .bool] (a0, a1, a2) = z61 a0 a1 a2 := by kernel_rfl
noncomputable def zax : List (FuncId × Spec) := (131, ⟨[.i, .str, .bool], [.i, .str, .bool], z62⟩) :: zlo
theorem zmw : zm Tryz.prog (zo zax) := z8 zu z1c zi zyp (by kernel_rfl) ⟨_, Tryz.func131, by rfl⟩ (tm := z8a) (gh := zcq) fun x y h => ⟨0, 400, (zpm 0 x.1 x.2.1 x.2.2).trans h⟩
noncomputable def zit : Nat -> Option Tmpl := fun cx => cond (Nat.beq cx 1) (some ⟨[], [], 42, [], ([.var .str, J, .var .i] ++ jN 6 ++ [.var .i, .var .i] ++ jN 31), [], []⟩) <| none
theorem zv1 (N : Nat) (a0 : Str) : z18 (z0u.mk' (z0r zax) zit zcq) N 400 127 [.str] [.i, .str, .bool] a0 = zli N a0 := by kernel_rfl
noncomputable def zez : List (FuncId × Spec) := (127, ⟨[.str], [.i, .str, .bool], zam⟩) :: zax
theorem zsi : zm Tryz.prog (zo zez) := z8 zu z1c zi zmw (by kernel_rfl) ⟨_, Tryz.func127, by rfl⟩ (tm := zit) (gh := zcq) fun x y h => by obtain ⟨N, h⟩ := zk h; exact ⟨N, 400, (zv1 N x).trans h⟩
noncomputable def ze2 : Nat -> Option Tmpl := fun cx => cond (Nat.beq cx 6) (some ⟨[.tmp 2 .i], [(0, .i)], 40, [.dead, .blk .i 0 true], ([J, J, .fix (.bref 1 0), .var .str] ++ jN 18 ++ [.var .i, .var .i] ++ jN 16 ++ [.var (.list .i)]), [], []⟩) <| none
theorem zpn (N : Nat) (a0 : Str) : z18 (z0u.mk' (z0r zez) ze2 zcq) N 400 122 [.str] [(.list .i), .str, .i] a0 = z63 N a0 := by kernel_rfl
noncomputable def zay : List (FuncId × Spec) := (122, ⟨[.str], [(.list .i), .str, .i], z3g⟩) :: zez
theorem zmx : zm Tryz.prog (zo zay) := z8 zu z1c zi zsi (by kernel_rfl) ⟨_, Tryz.func122, by rfl⟩ (tm := ze2) (gh := zcq) fun x y h => by obtain ⟨N, h⟩ := zk h; exact ⟨N, 400, (zpn N x).trans h⟩
noncomputable def ziu : Nat -> Option Tmpl := fun cx => cond (Nat.beq cx 1) (some ⟨[], [], 22, [.blk .i 0 false], ([.fix (.bref 0 0), .var .i, J, J, J, J, J, .fix (.bref 0 0), .fix (.bref 0 0), .var .i, .var .i] ++ jN 11 ++ [.var (.list .i)]), [], []⟩) <| none
theorem zv2 (N : Nat) (a0 : (List Int)) (a1 : Int) : z18 (z0u.mk' (z0r zay) ziu zcq) N 400 111 [(.list .i), .i] [(.list .i)] (a0, a1) = zaj N a0 a1 := by kernel_rfl
noncomputable def zlp : List (FuncId × Spec) := (111, ⟨[(.list .i), .i], [(.list .i)], z2p⟩) :: zay
theorem zcr : zm Tryz.prog (zo zlp) := z8 zu z1c zi zmx (by kernel_rfl) ⟨_, Tryz.func111, by rfl⟩ (tm := ziu) (gh := zcq) fun x y h => by obtain ⟨N, h⟩ := zk h; exact ⟨N, 400, (zv2 N x.1 x.2).trans h⟩
noncomputable def zho : List (FuncId × Spec) := (93, ⟨[.str], [.record, .i], zhf⟩) :: zlp
theorem zv3 : zm Tryz.prog (zo zho) := z021 (U := z3g) (M := fun l => z2p (l, -1)) zcr ⟨_, Tryz.func93, by rfl⟩ (z06m (z020 zcr (by kernel_rfl)) (z03z (h := z2p) zcr (by kernel_rfl)))
theorem zv4 (N : Nat) (a0 : Int) : z18 (z0u.mk' (z0r zho) z8a zcq) N 400 86 [.i] [.bool] a0 = zeo a0 := by kernel_rfl
noncomputable def zf0 : List (FuncId × Spec) := (86, ⟨[.i], [.bool], zac⟩) :: zho
theorem zsj : zm Tryz.prog (zo zf0) := z8 zu z1c zi zv3 (by kernel_rfl) ⟨_, Tryz.func86, by rfl⟩ (tm := z8a) (gh := zcq) fun x y h => ⟨0, 400, (zv4 0 x).trans h⟩
theorem zyq (N : Nat) (a0 : Int) (a1 : Int) : z18 (z0u.mk' (z0r zf0) z8a zcq) N 400 132 [.i, .i] [.bool] (a0, a1) = zdm a0 a1 := by kernel_rfl
noncomputable def zhp : List (FuncId × Spec) := (132, ⟨[.i, .i], [.bool], zh6⟩) :: zf0
theorem zv5 : zm Tryz.prog (zo zhp) := z8 zu z1c zi zsj (by kernel_rfl) ⟨_, Tryz.func132, by rfl⟩ (tm := z8a) (gh := zcq) fun x y h => ⟨0, 400, (zyq 0 x.1 x.2).trans h⟩
noncomputable def z8b : Nat -> Option Tmpl := fun cx => cond (Nat.beq cx 1) (some ⟨[], [], 21, [], ([.var (.list .i), J, J, .var .i] ++ jN 17), [], []⟩) <| none
theorem zhq (N : Nat) (a0 : (List Int)) : z18 (z0u.mk' (z0r zhp) z8b zcq) N 400 129 [(.list .i)] [.bool] a0 = z3z N a0 := by kernel_rfl
noncomputable def z44 : List (FuncId × Spec) := (129, ⟨[(.list .i)], [.bool], z40⟩) :: zhp
theorem zga : zm Tryz.prog (zo z44) := z8 zu z1c zi zv5 (by kernel_rfl) ⟨_, Tryz.func129, by rfl⟩ (tm := z8b) (gh := zcq) fun x y h => by obtain ⟨N, h⟩ := zk h; exact ⟨N, 400, (zhq N x).trans h⟩
noncomputable def zlq : Nat -> Option Tmpl := fun cx => cond (Nat.beq cx 1) (some ⟨[], [], 19, [], ([.var (.list .i), .fix (.fn 128 [] []), J, J, J, J, J, .var .i, .var .i] ++ jN 10), [], []⟩) <| cond (Nat.beq cx 5) (some ⟨[], [], 19, [.blk .i 0 false], ([.var (.list .i), .fix (.fn 128 [] []), J, J, J, J, J, .var .i, .var .i] ++ jN 10 ++ [.var (.list .i)]), [], []⟩) <| cond (Nat.beq cx 6) (some ⟨[], [], 61, [.blk .i 0 false], ([.fix (.bref 0 0), J, J, .var .i, J, J, .fix (.bref 0 0)] ++ jN 54 ++ [.var (.list .i)]), [], []⟩) <| cond (Nat.beq cx 110) (some ⟨[], [], 19, [.blk .i 0 false], ([.var (.list .i), .fix (.fn 128 [] []), J, J, J, J, J, .var .i, .var .i] ++ jN 10 ++ [.var (.list .i)]), [], []⟩) <| cond (Nat.beq cx 437) (some ⟨[], [], 61, [.blk .i 0 false, .dead, .dead, .dead, .dead, .dead, .dead, .dead, .dead, .dead, .dead], ([.fix (.bref 0 0), J, J, .var .i, .sub 0 0, .var .i, .fix (.bref 0 0), J, J, J, J, .fix (.bref 0 0), J, J, J, J, .fix (.bref 0 0), J, J, J, .fix (.bref 0 0), J, J, J, J, J, .fix (.bref 0 0)] ++ jN 34 ++ [.var (.list .i)]), [], []⟩) <| cond (Nat.beq cx 7006) (some ⟨[], [], 19, [.blk .i 0 false, .dead, .dead, .dead, .dead, .dead, .dead, .dead, .dead, .dead, .dead], ([.var (.list .i), .fix (.fn 128 [] []), J, J, J, J, J, .var .i, .var .i] ++ jN 10 ++ [.var (.list .i)]), [], []⟩) <| none
theorem zyr (N : Nat) (a0 : (List Int)) : z18 (z0u.mk' (z0r z44) zlq zcq) N 400 124 [(.list .i)] [.bool] a0 = zh7 N a0 := by kernel_rfl
noncomputable def zhr : List (FuncId × Spec) := (124, ⟨[(.list .i)], [.bool], zh8⟩) :: z44
theorem zv6 : zm Tryz.prog (zo zhr) := z8 zu z1c zi zga (by kernel_rfl) ⟨_, Tryz.func124, by rfl⟩ (tm := zlq) (gh := zcq) fun x y h => by obtain ⟨N, h⟩ := zk h; exact ⟨N, 400, (zyr N x).trans h⟩
noncomputable def ziv : Nat -> Option Tmpl := fun cx => cond (Nat.beq cx 106) (some ⟨[], [], 19, [.st .record], ([.var (.list .i), .fix (.fn 123 [] []), J, J, J, J, J, .var .i, .var .i] ++ jN 10 ++ [.agg .record]), [], []⟩) <| none
theorem zv7 (N : Nat) (a0 : Record) : z18 (z0u.mk' (z0r zhr) ziv zcq) N 400 112 [.record] [.bool] a0 = zep N a0 := by kernel_rfl
noncomputable def zf1 : List (FuncId × Spec) := (112, ⟨[.record], [.bool], zeq⟩) :: zhr
theorem zsk : zm Tryz.prog (zo zf1) := z8 zu z1c zi zv6 (by kernel_rfl) ⟨_, Tryz.func112, by rfl⟩ (tm := ziv) (gh := zcq) fun x y h => by obtain ⟨N, h⟩ := zk h; exact ⟨N, 400, (zv7 N x).trans h⟩
noncomputable def zlr : Nat -> Option Tmpl := fun cx => cond (Nat.beq cx 6) (some ⟨[.tmp 3 (.int .u8)], [(0, (.int .u8))], 26, [.dead, .blk (.int .u8) 0 true], ([.var .i, J, J, .fix (.bref 1 0)] ++ jN 22 ++ [.var (.list (.int .u8))]), [], []⟩) <| none
theorem zys (N : Nat) (a0 : Int) : z18 (z0u.mk' (z0r zf1) zlr zcq) N 400 125 [.i] [.str] a0 = zh9 N a0 := by kernel_rfl
noncomputable def zhs : List (FuncId × Spec) := (125, ⟨[.i], [.str], zdn⟩) :: zf1
theorem zv8 : zm Tryz.prog (zo zhs) := z8 zu z1c zi zsk (by kernel_rfl) ⟨_, Tryz.func125, by rfl⟩ (tm := zlr) (gh := zcq) fun x y h => by obtain ⟨N, h⟩ := zk h; exact ⟨N, 400, (zys N x).trans h⟩
noncomputable def ziw : Nat -> Option Tmpl := fun cx => cond (Nat.beq cx 1) (some ⟨[], [], 26, [], ([J, J, J, J, .var .str] ++ jN 6 ++ [.var (.list .i), .var .i, .var .i] ++ jN 12), [], []⟩) <| none
theorem zv9 (N : Nat) (a0 : (List Int)) : z18 (z0u.mk' (z0r zhs) ziw zcq) N 400 113 [(.list .i)] [.str, .i] a0 = zer N a0 := by kernel_rfl
noncomputable def zf2 : List (FuncId × Spec) := (113, ⟨[(.list .i)], [.str, .i], z6z⟩) :: zhs
theorem zsl : zm Tryz.prog (zo zf2) := z8 zu z1c zi zv8 (by kernel_rfl) ⟨_, Tryz.func113, by rfl⟩ (tm := ziw) (gh := zcq) fun x y h => by obtain ⟨N, h⟩ := zk h; exact ⟨N, 400, (zv9 N x).trans h⟩
noncomputable def zix : Nat -> Option Tmpl := fun cx => cond (Nat.beq cx 6) (some ⟨[], [], 23, [.blk (.int .u8) 0 false], ([.var .i, J, J, .fix (.ptr 0 0 0 0)] ++ jN 6 ++ [.var .i] ++ jN 12 ++ [.var (.list (.int .u8))]), [], []⟩) <| none
theorem zva (N : Nat) (a0 : Int) : z18 (z0u.mk' (z0r zf2) zix zcq) N 400 114 [.i] [.str] a0 = zes N a0 := by kernel_rfl
noncomputable def zf3 : List (FuncId × Spec) := (114, ⟨[.i], [.str], zet⟩) :: zf2
theorem zsm : zm Tryz.prog (zo zf3) := z8 zu z1c zi zsl (by kernel_rfl) ⟨_, Tryz.func114, by rfl⟩ (tm := zix) (gh := zcq) fun x y h => by obtain ⟨N, h⟩ := zk h; exact ⟨N, 400, (zva N x).trans h⟩
noncomputable def zod : Nat -> Option Tmpl := fun cx => cond (Nat.beq cx 1) (some ⟨[], [], 32, [], ([.var .str, J, J, .var (.int .u32), J, J, J, .var .i, .var .i] ++ jN 23), [], []⟩) <| cond (Nat.beq cx 29) (some ⟨[], [], 32, [], ([.var .str, J, J, .var (.int .u32), J, J, J, .var .i, .var .i] ++ jN 8 ++ [.var .i] ++ jN 14), [], []⟩) <| none
theorem z027 (N : Nat) (a0 : Str) : z18 (z0u.mk' (z0r zf3) zod zcq) N 400 115 [.str] [.i] a0 = zru N a0 := by kernel_rfl
noncomputable def zls : List (FuncId × Spec) := (115, ⟨[.str], [.i], zl7⟩) :: zf3
theorem zyt : zm Tryz.prog (zo zls) := z8 zu z1c zi zsm (by kernel_rfl) ⟨_, Tryz.func115, by rfl⟩ (tm := zod) (gh := zcq) fun x y h => by obtain ⟨N, h⟩ := zk h; exact ⟨N, 400, (z027 N x).trans h⟩
theorem zsn (N : Nat) (a0 : Record) (a1 : Str) : z18 (z0u.mk' (z0r zls) z8a zcq) N 400 94 [.record, .str] [.str, .i] (a0, a1) = z7v a0 a1 := by kernel_rfl
noncomputable def zcs : List (FuncId × Spec) := (94, ⟨[.record, .str], [.str, .i], zcc⟩) :: zls
theorem zpo : zm Tryz.prog (zo zcs) := z8 zu z1c zi zyt (by kernel_rfl) ⟨_, Tryz.func94, by rfl⟩ (tm := z8a) (gh := zcq) fun x y h => ⟨0, 400, (zsn 0 x.1 x.2).trans h⟩
theorem zso (N : Nat) (a0 : Str) (a1 : Str) : z18 (z0u.mk' (z0r zcs) z8a zcq) N 400 83 [.str, .str] [.record, .i] (a0, a1) = z85 a0 a1 := by kernel_rfl
noncomputable def zct : List (FuncId × Spec) := (83, ⟨[.str, .str], [.record, .i], zcn⟩) :: zcs
theorem zpp : zm Tryz.prog (zo zct) := z8 zu z1c zi zpo (by kernel_rfl) ⟨_, Tryz.func83, by rfl⟩ (tm := z8a) (gh := zcq) fun x y h => ⟨0, 400, (zso 0 x.1 x.2).trans h⟩
theorem zvb (N : Nat) (a0 : Page) : z18 (z0u.mk' (z0r zct) z8a zcq) N 400 66 [.page] [.i, .record] a0 = zan a0 := by kernel_rfl
noncomputable def zf4 : List (FuncId × Spec) := (66, ⟨[.page], [.i, .record], zew⟩) :: zct
theorem zsp : zm Tryz.prog (zo zf4) := z8 zu z1c zi zpp (by kernel_rfl) ⟨_, Tryz.func66, by rfl⟩ (tm := z8a) (gh := zcq) fun x y h => ⟨0, 400, (zvb 0 x).trans h⟩
theorem zsq (N : Nat) (a0 : Int) (a1 : Int) : z18 (z0u.mk' (z0r zf4) z8a zcq) N 400 82 [.i, .i] [.i] (a0, a1) = zij a0 a1 := by kernel_rfl
noncomputable def zcu : List (FuncId × Spec) := (82, ⟨[.i, .i], [.i], zcd⟩) :: zf4
theorem zpq : zm Tryz.prog (zo zcu) := z8 zu z1c zi zsp (by kernel_rfl) ⟨_, Tryz.func82, by rfl⟩ (tm := z8a) (gh := zcq) fun x y h => ⟨0, 400, (zsq 0 x.1 x.2).trans h⟩
noncomputable def zlt : Nat -> Option Tmpl := fun cx => cond (Nat.beq cx 1) (some ⟨[.cell 1 0 0 .found], [(5, .found)], 38, [.raw 4 1, .raw 1 1, .raw 4 1, .dfr, .loop 27, .dead, .blk .found 0 true], ([.fix (.yield 4), .fix (.ptr 2 0 0 0)] ++ jN 6 ++ [.fix (.ptr 2 0 0 0), .var (.list .block), .var .i, .var .i] ++ jN 30 ++ [.fix (.bref 6 0), J, J, J, J, J, .fix (.ptr 0 0 0 0), .fix (.ptr 1 0 0 0), J, J, J, J, J, .fix (.fn 81 [] [(.ptr 2 0 0 0)])] ++ jN 18 ++ [.var (.list .found)]), [], [.bk 8 6]⟩) <| cond (Nat.beq cx 29) (some ⟨[], [(6, .found)], 38, [.raw 4 1, .raw 1 1, .raw 4 1, .dfr, .loop 27, .dead, .dead, .raw 4 1, .blk .found 0 true], ([.fix (.yield 4), .fix (.ptr 2 0 0 0), J, .var .i, .fix (.ptr 7 0 0 0), J, J, J, .fix (.ptr 2 0 0 0), .var (.list .block), .var .i, .var .i, J, J, J, J, .fix (.ptr 7 0 0 0), .var (.list .page), .var .i, .var .i] ++ jN 22 ++ [.fix (.bref 8 0), J, J, J, J, J, .fix (.ptr 0 0 0 0), .fix (.ptr 1 0 0 0), J, J, J, J, J, .fix (.fn 81 [] [(.ptr 2 0 0 0)])] ++ jN 22 ++ [.var (.list .found)]), [], []⟩) <| none
theorem zyu (N : Nat) (a0 : Chip) : z18 (z0u.mk' (z0r zcu) zlt zcq) N 400 50 [.chip] [(.list .found)] a0 = zdr N a0 := by kernel_rfl
noncomputable def zht : List (FuncId × Spec) := (50, ⟨[.chip], [(.list .found)], zhg⟩) :: zcu
theorem zvc : zm Tryz.prog (zo zht) := z8 zu z1c zi zpq (by kernel_rfl) ⟨_, Tryz.func50, by rfl⟩ (tm := zlt) (gh := zcq) fun x y h => by obtain ⟨N, h⟩ := zk h; exact ⟨N, 400, (zyu N x).trans h⟩
end Clk.YtpncgjcflkhemaaGreat
namespace Clk.YtpncgjcflkhemaaGreat
open Go Go.Proofs Go.Proofs.YtpncgjcflkhemaaGreat
theorem zhu (N : Nat) (a0 : Int) (a1 : Int) : z18 (z0u.mk' (z0r zht) z8a zcq) N 400 106 [(.int .u64), (.int .u64)] [(.int .u64), (.int .u64)] (a0, a1) = z9r a0 a1 := by kernel_rfl
noncomputable def z47 : List (FuncId × Spec) := (106, ⟨[(.int .u64), (.int .u64)], [(.int .u64), (.int .u64)], z9s⟩) :: zht
theorem zgb : zm Tryz.prog (zo z47) := z8 zu z1c zi zvc (by kernel_rfl) ⟨_, Tryz.func106, by rfl⟩ (tm := z8a) (gh := zcq) fun x y h => ⟨0, 400, (zhu 0 x.1 x.2).trans h⟩
theorem zlu (N : Nat) (a0 : Int) (a1 : Int) : z18 (z0u.mk' (z0r z47) z8a zcq) N 400 87 [(.int .u64), (.int .u64)] [(.int .u64), (.int .u64)] (a0, a1) = zck a0 a1 := by kernel_rfl
noncomputable def z7a : List (FuncId × Spec) := (87, ⟨[(.int .u64), (.int .u64)], [(.int .u64), (.int .u64)], zcl⟩) :: z47
theorem zja : zm Tryz.prog (zo z7a) := z8 zu z1c zi zgb (by kernel_rfl) ⟨_, Tryz.func87, by rfl⟩ (tm := z8a) (gh := zcq) fun x y h => ⟨0, 400, (zlu 0 x.1 x.2).trans h⟩
noncomputable def zbq : Nat -> Option Tmpl := fun cx => cond (Nat.beq cx 26) (some ⟨[], [], 48, [.blk .i 0 false], (jN 7 ++ [.fix (.bref 0 0), .var .i] ++ jN 21 ++ [.fix (.bref 0 0), .fix (.bref 0 0)] ++ jN 16 ++ [.var (.list .i)]), [], []⟩) <| none
theorem zlv (N : Nat) (a0 : (List Int)) (a1 : Int) : z18 (z0u.mk' (z0r z7a) zbq zcq) N 400 71 [(.list .i), .i] [(.list .i)] (a0, a1) = z75 N a0 a1 := by kernel_rfl
noncomputable def z7b : List (FuncId × Spec) := (71, ⟨[(.list .i), .i], [(.list .i)], z3f⟩) :: z7a
theorem zjb : zm Tryz.prog (zo z7b) := z8 zu z1c zi zja (by kernel_rfl) ⟨_, Tryz.func71, by rfl⟩ (tm := zbq) (gh := zcq) fun x y h => by obtain ⟨N, h⟩ := zk h; exact ⟨N, 400, (zlv N x.1 x.2).trans h⟩
theorem zsr (N : Nat) (a0 : Int) : z18 (z0u.mk' (z0r z7b) z8a zcq) N 400 53 [.i] [.table] a0 = z84 a0 := by kernel_rfl
noncomputable def zcv : List (FuncId × Spec) := (53, ⟨[.i], [.table], zcm⟩) :: z7b
theorem zpr : zm Tryz.prog (zo zcv) := z8 zu z1c zi zjb (by kernel_rfl) ⟨_, Tryz.func53, by rfl⟩ (tm := z8a) (gh := zcq) fun x y h => ⟨0, 400, (zsr 0 x).trans h⟩
theorem zmy (N : Nat) (a0 : Found) (a1 : Int) : z18 (z0u.mk' (z0r zcv) z8a zcq) N 400 73 [.found, .i] [.i, .bool] (a0, a1) = z4p a0 a1 := by kernel_rfl
noncomputable def z91 : List (FuncId × Spec) := (73, ⟨[.found, .i], [.i, .bool], z8t⟩) :: zcv
theorem zlw : zm Tryz.prog (zo z91) := z8 zu z1c zi zpr (by kernel_rfl) ⟨_, Tryz.func73, by rfl⟩ (tm := z8a) (gh := zcq) fun x y h => ⟨0, 400, (zmy 0 x.1 x.2).trans h⟩
noncomputable def zcw : Nat -> Option Tmpl := fun cx => cond (Nat.beq cx 1) (some ⟨[], [], 62, [.raw 2 1, .st .found, .raw 2 1, .dead, .dead, .dead, .dead, .dead, .dead, .dead, .dead, .dead, .dead, .blk .i 0 false, .blk .i 0 false], ([J, J, .fix (.ptr 0 0 0 0), .fix (.ptr 1 0 0 0), .fix (.ptr 2 0 0 0), J, J, J, J, .fix (.ptr 0 0 0 0), J, .fix (.bref 13 0), .fix (.ptr 0 0 0 1), J, .fix (.bref 14 0), .fix (.ptr 0 0 0 0), .fix (.ptr 0 0 0 1), .fix (.ptr 1 0 0 1), .fix (.ptr 1 0 0 3), .var (.list .i), .var .i, .var .i] ++ jN 40 ++ [.fix (.bref 13 0), .fix (.bref 14 0), .agg .found, J, J, .var (.list .i), .var (.list .i)]), [], []⟩) <| none
theorem zmz (N : Nat) (a0 : Table) (a1 : Found) : z18 (z0u.mk' (z0r z91) zcw zcq) N 400 54 [.table, .found] [.table] (a0, a1) = z4q N a0 a1 := by kernel_rfl
noncomputable def z92 : List (FuncId × Spec) := (54, ⟨[.table, .found], [.table], z8u⟩) :: z91
theorem zlx : zm Tryz.prog (zo z92) := z8 zu z1c zi zlw (by kernel_rfl) ⟨_, Tryz.func54, by rfl⟩ (tm := zcw) (gh := zcq) fun x y h => by obtain ⟨N, h⟩ := zk h; exact ⟨N, 400, (zmz N x.1 x.2).trans h⟩
noncomputable def zbr : Nat -> Option Tmpl := fun cx => cond (Nat.beq cx 1) (some ⟨[], [], 21, [.raw 4 1, .raw 2 1, .st .table, .raw 2 1], ([J, J, .fix (.fn 54 [] []), J, .fix (.ptr 2 0 0 0), J, .fix (.ptr 3 0 0 0), J, J, .var (.list .found), .var .i, .var .i] ++ jN 15 ++ [.agg .table, J, J]), [], []⟩) <| cond (Nat.beq cx 30) (some ⟨[], [], 21, [.raw 4 1, .raw 2 1, .raw 2 1, .raw 2 1], ([J, .var .i, .fix (.fn 51 [] [])] ++ jN 6 ++ [.var (.list .found), .var .i, .var .i] ++ jN 19), [], []⟩) <| none
theorem zly (N : Nat) (a0 : Chip) (a1 : Int) : z18 (z0u.mk' (z0r z92) zbr zcq) N 400 35 [.chip, .i] [.table, .i] (a0, a1) = z3j N a0 a1 := by kernel_rfl
noncomputable def z7c : List (FuncId × Spec) := (35, ⟨[.chip, .i], [.table, .i], z1l⟩) :: z92
theorem zjc : zm Tryz.prog (zo z7c) := z8 zu z1c zi zlx (by kernel_rfl) ⟨_, Tryz.func35, by rfl⟩ (tm := zbr) (gh := zcq) fun x y h => by obtain ⟨N, h⟩ := zk h; exact ⟨N, 400, (zly N x.1 x.2).trans h⟩
noncomputable def zgc : Nat -> Option Tmpl := fun cx => cond (Nat.beq cx 1) (some ⟨[], [], 19, [.st .geometry, .st .chip, .raw 12 1], ([.var (.list .block), .fix (.fn 32 [] [(.ptr 0 0 0 0)]), J, J, J, J, J, .var .i, .var .i] ++ jN 10 ++ [.agg .geometry, .agg .chip] ++ jN 12), [], []⟩) <| cond (Nat.beq cx 122) (some ⟨[], [], 19, [.st .geometry, .raw 4 1, .raw 12 1, .dead, .dead, .dead, .dead, .st .device, .dead], ([.var (.list .block), .fix (.fn 37 [] [(.ptr 0 0 0 0)]), J, J, J, J, J, .var .i, .var .i] ++ jN 10 ++ [.agg .geometry] ++ jN 16 ++ [.agg .device]), [], []⟩) <| cond (Nat.beq cx 470) (some ⟨[], [], 19, [.st .geometry, .raw 4 1, .raw 12 1, .raw 4 1, .dead, .dead, .dead, .dead, .st .device, .dead], ([.var (.list .block), .fix (.fn 37 [] [(.ptr 0 0 0 0)]), J, J, J, J, J, .var .i, .var .i] ++ jN 10 ++ [.agg .geometry] ++ jN 20 ++ [.agg .device]), [], []⟩) <| none
theorem zss (N : Nat) (a0 : Geometry) (a1 : Chip) : z18 (z0u.mk' (z0r z7c) zgc zcq) N 400 14 [.geometry, .chip] [.device, .i] (a0, a1) = z88 N a0 a1 := by kernel_rfl
noncomputable def zcx : List (FuncId × Spec) := (14, ⟨[.geometry, .chip], [.device, .i], z89⟩) :: z7c
theorem zps : zm Tryz.prog (zo zcx) := z8 zu z1c zi zjc (by kernel_rfl) ⟨_, Tryz.func14, by rfl⟩ (tm := zgc) (gh := zcq) fun x y h => by obtain ⟨N, h⟩ := zk h; exact ⟨N, 400, (zss N x.1 x.2).trans h⟩
noncomputable def zlz : Nat -> Option Tmpl := fun cx => cond (Nat.beq cx 1) (some ⟨[], [], 19, [.raw 1 1, .raw 4 1], ([.var (.list .i), .fix (.fn 42 [] [(.ptr 0 0 0 0)]), J, J, J, J, J, .var .i, .var .i] ++ jN 10 ++ [.var .i, J, J, J, J]), [], []⟩) <| cond (Nat.beq cx 122) (some ⟨[], [], 64, [.raw 1 1, .raw 4 1, .nst false 0 false, .raw 4 1], ([J, .var .i, .var (.list .i), .fix (.ptr 0 0 0 0), J, J, .fix (.ptr 1 0 0 0), J, .fix (.fn 42 [] [(.ptr 0 0 0 0)]), .fix (.ptr 3 0 0 0), J, J, J, .fix (.fn 42 [] [(.ptr 0 0 0 0)])] ++ jN 16 ++ [.fix (.fn 42 [] [(.ptr 0 0 0 0)]), J, J, J, J, .fix (.bref 2 0), J, .fix (.ptr 3 0 0 0), .fix (.bref 2 0), .var .i, .var .i] ++ jN 28 ++ [.var (.list .block), .fix (.bref 2 0), .var .bool, .var .bool, .var .i]), [.nest 2 false], [.abs 2]⟩) <| cond (Nat.beq cx 470) (some ⟨[], [], 64, [.raw 1 1, .raw 4 1, .nst false 0 false, .raw 4 1], ([J, .var .i, .var (.list .i), .fix (.ptr 0 0 0 0), J, J, .fix (.ptr 1 0 0 0), J, .fix (.fn 42 [] [(.ptr 0 0 0 0)]), .fix (.ptr 3 0 0 0), J, J, J, .fix (.fn 42 [] [(.ptr 0 0 0 0)])] ++ jN 16 ++ [.fix (.fn 42 [] [(.ptr 0 0 0 0)]), J, J, J, J, .fix (.bref 2 0), J, .fix (.ptr 3 0 0 0), .fix (.bref 2 0), .var .i, .var .i] ++ jN 28 ++ [.var (.list .block), .fix (.bref 2 0), .var .bool, .var .bool, .var .i]), [.nest 2 false], [.abs 2]⟩) <| cond (Nat.beq cx 1966) (some ⟨[], [], 64, [.raw 1 1, .raw 4 1, .nst false 0 false, .raw 4 1], ([J, J, J, .fix (.ptr 0 0 0 0), J, J, .fix (.ptr 1 0 0 0), J, .fix (.fn 42 [] [(.ptr 0 0 0 0)]), .fix (.ptr 3 0 0 0), J, J, J, .fix (.fn 42 [] [(.ptr 0 0 0 0)])] ++ jN 16 ++ [.fix (.fn 42 [] [(.ptr 0 0 0 0)]), J, J, J, J, .fix (.bref 2 0), J, .fix (.ptr 3 0 0 0), .fix (.bref 2 0)] ++ jN 12 ++ [.var (.list .i), .var .i, .var .i] ++ jN 15 ++ [.var (.list .block), .fix (.bref 2 0), .var .bool, .var .bool, .var .i]), [], []⟩) <| cond (Nat.beq cx 7534) (some ⟨[], [], 64, [.raw 1 1, .raw 4 1, .nst false 0 false, .raw 4 1], ([J, J, J, .fix (.ptr 0 0 0 0), J, J, .fix (.ptr 1 0 0 0), J, .fix (.fn 42 [] [(.ptr 0 0 0 0)]), .fix (.ptr 3 0 0 0), J, J, J, .fix (.fn 42 [] [(.ptr 0 0 0 0)])] ++ jN 16 ++ [.fix (.fn 42 [] [(.ptr 0 0 0 0)]), J, J, J, J, .fix (.bref 2 0), J, .fix (.ptr 3 0 0 0), .fix (.bref 2 0)] ++ jN 12 ++ [.var (.list .i), .var .i, .var .i] ++ jN 15 ++ [.var (.list .block), .fix (.bref 2 0), .var .bool, .var .bool, .var .i]), [], []⟩) <| none
theorem zyv (N : Nat) (a0 : Int) (a1 : Int) (a2 : (List Int)) : z18 (z0u.mk' (z0r zcx) zlz zcq) N 400 22 [.i, .i, (.list .i)] [.chip, .i] (a0, a1, a2) = zdt N a0 a1 a2 := by kernel_rfl
noncomputable def zhv : List (FuncId × Spec) := (22, ⟨[.i, .i, (.list .i)], [.chip, .i], zhi⟩) :: zcx
theorem zvd : zm Tryz.prog (zo zhv) := z8 zu z1c zi zps (by kernel_rfl) ⟨_, Tryz.func22, by rfl⟩ (tm := zlz) (gh := zcq) fun x y h => by obtain ⟨N, h⟩ := zk h; exact ⟨N, 400, (zyv N x.1 x.2.1 x.2.2).trans h⟩
noncomputable def ziy : Nat -> Option Tmpl := fun cx => cond (Nat.beq cx 1) (some ⟨[], [], 18, [.raw 4 1], ([J, .fix (.ptr 0 0 0 0), .var .i, J, J, .fix (.ptr 0 0 0 0), .var (.list .block), .var .i, .var .i] ++ jN 13), [], []⟩) <| none
theorem zve (N : Nat) (a0 : Chip) : z18 (z0u.mk' (z0r zhv) ziy zcq) N 400 23 [.chip] [.i] a0 = zlj N a0 := by kernel_rfl
noncomputable def zf5 : List (FuncId × Spec) := (23, ⟨[.chip], [.i], zau⟩) :: zhv
theorem zst : zm Tryz.prog (zo zf5) := z8 zu z1c zi zvd (by kernel_rfl) ⟨_, Tryz.func23, by rfl⟩ (tm := ziy) (gh := zcq) fun x y h => by obtain ⟨N, h⟩ := zk h; exact ⟨N, 400, (zve N x).trans h⟩
theorem zpt (N : Nat) (a0 : Geometry) (a1 : (List Int)) : z18 (z0u.mk' (z0r zf5) z8a zcq) N 400 6 [.geometry, (.list .i)] [.device, .i] (a0, a1) = z6b a0 a1 := by kernel_rfl
noncomputable def zaz : List (FuncId × Spec) := (6, ⟨[.geometry, (.list .i)], [.device, .i], z0x⟩) :: zf5
theorem zn0 : zm Tryz.prog (zo zaz) := z8 zu z1c zi zst (by kernel_rfl) ⟨_, Tryz.func6, by rfl⟩ (tm := z8a) (gh := zcq) fun x y h => ⟨0, 400, (zpt 0 x.1 x.2).trans h⟩
theorem zsu (N : Nat) (a0 : Geometry) : z18 (z0u.mk' (z0r zaz) z8a zcq) N 400 10 [.geometry] [.bool] a0 = z2w a0 := by kernel_rfl
noncomputable def zcy : List (FuncId × Spec) := (10, ⟨[.geometry], [.bool], z1j⟩) :: zaz
theorem zpu : zm Tryz.prog (zo zcy) := z8 zu z1c zi zn0 (by kernel_rfl) ⟨_, Tryz.func10, by rfl⟩ (tm := z8a) (gh := zcq) fun x y h => ⟨0, 400, (zsu 0 x).trans h⟩
noncomputable def ziz : Nat -> Option Tmpl := fun cx => cond (Nat.beq cx 1) (some ⟨[.cell 1 0 0 .i, .cell 1 0 1 .i], [(2, .i), (3, .i)], 25, [.raw 2 1, .raw 2 1, .dead, .dead, .blk .i 0 true, .blk .i 0 true], ([.var .i, J, .fix (.ptr 0 0 0 0), .fix (.ptr 1 0 0 0), .var .i] ++ jN 22 ++ [.fix (.bref 4 0), .fix (.bref 5 0), .var (.list .i), .var (.list .i)]), [], []⟩) <| none
theorem zvf (N : Nat) (a0 : Int) : z18 (z0u.mk' (z0r zcy) ziz zcq) N 400 56 [.i] [.table] a0 = zl3 N a0 := by kernel_rfl
noncomputable def zf6 : List (FuncId × Spec) := (56, ⟨[.i], [.table], zei⟩) :: zcy
theorem zsv : zm Tryz.prog (zo zf6) := z8 zu z1c zi zpu (by kernel_rfl) ⟨_, Tryz.func56, by rfl⟩ (tm := ziz) (gh := zcq) fun x y h => by obtain ⟨N, h⟩ := zk h; exact ⟨N, 400, (zvf N x).trans h⟩
noncomputable def zgd : Nat -> Option Tmpl := fun cx => cond (Nat.beq cx 1) (some ⟨[], [], 46, [], ([.var (.list .i), J, J, .var .i] ++ jN 42), [], []⟩) <| none
theorem zsw (N : Nat) (a0 : (List Int)) : z18 (z0u.mk' (z0r zf6) zgd zcq) N 400 90 [(.list .i)] [.bool] a0 = zig N a0 := by kernel_rfl
noncomputable def zcz : List (FuncId × Spec) := (90, ⟨[(.list .i)], [.bool], zc5⟩) :: zf6
theorem zpv : zm Tryz.prog (zo zcz) := z8 zu z1c zi zsv (by kernel_rfl) ⟨_, Tryz.func90, by rfl⟩ (tm := zgd) (gh := zcq) fun x y h => by obtain ⟨N, h⟩ := zk h; exact ⟨N, 400, (zsw N x).trans h⟩
noncomputable def ze3 : Nat -> Option Tmpl := fun cx => cond (Nat.beq cx 26) (some ⟨[], [], 58, [.st .record], ([J, .fix (.ptr 0 0 0 0), J, .var .i, .fix (.ptr 0 0 0 1), J, J, J, .fix (.ptr 0 0 0 1), J, J, J, J, .fix (.ptr 0 0 0 2), J, J, J, J, .fix (.ptr 0 0 0 0)] ++ jN 39 ++ [.agg .record]), [], []⟩) <| none
theorem zpw (N : Nat) (a0 : Record) : z18 (z0u.mk' (z0r zcz) ze3 zcq) N 400 77 [.record] [.bool] a0 = za3 N a0 := by kernel_rfl
noncomputable def zb0 : List (FuncId × Spec) := (77, ⟨[.record], [.bool], za4⟩) :: zcz
theorem zn1 : zm Tryz.prog (zo zb0) := z8 zu z1c zi zpv (by kernel_rfl) ⟨_, Tryz.func77, by rfl⟩ (tm := ze3) (gh := zcq) fun x y h => by obtain ⟨N, h⟩ := zk h; exact ⟨N, 400, (zpw N x).trans h⟩
noncomputable def zj0 : Nat -> Option Tmpl := fun cx => cond (Nat.beq cx 6) (some ⟨[], [], 28, [], ([.var .i, J, J, .var .str] ++ jN 24), [], []⟩) <| none
theorem zvg (N : Nat) (a0 : Int) : z18 (z0u.mk' (z0r zb0) zj0 zcq) N 400 108 [.i] [.str] a0 = zej N a0 := by kernel_rfl
noncomputable def zf7 : List (FuncId × Spec) := (108, ⟨[.i], [.str], za5⟩) :: zb0
theorem zsx : zm Tryz.prog (zo zf7) := z8 zu z1c zi zn1 (by kernel_rfl) ⟨_, Tryz.func108, by rfl⟩ (tm := zj0) (gh := zcq) fun x y h => by obtain ⟨N, h⟩ := zk h; exact ⟨N, 400, (zvg N x).trans h⟩
noncomputable def zge : Nat -> Option Tmpl := fun cx => cond (Nat.beq cx 1) (some ⟨[], [], 27, [], ([.var (.list .i), J, J, J, .var .str, .var .i] ++ jN 21), [], []⟩) <| none
theorem zsy (N : Nat) (a0 : (List Int)) : z18 (z0u.mk' (z0r zf7) zge zcq) N 400 91 [(.list .i)] [.str, .i] a0 = zc6 N a0 := by kernel_rfl
noncomputable def zd0 : List (FuncId × Spec) := (91, ⟨[(.list .i)], [.str, .i], z4w⟩) :: zf7
theorem zpx : zm Tryz.prog (zo zd0) := z8 zu z1c zi zsx (by kernel_rfl) ⟨_, Tryz.func91, by rfl⟩ (tm := zge) (gh := zcq) fun x y h => by obtain ⟨N, h⟩ := zk h; exact ⟨N, 400, (zsy N x).trans h⟩
noncomputable def zgf : Nat -> Option Tmpl := fun cx => cond (Nat.beq cx 1) (some ⟨[.tmp 4 .i], [(2, .i)], 54, [.st .record, .blk .i 0 false, .dead, .blk .i 0 true], ([J, .fix (.ptr 0 0 0 0), J, .fix (.bref 1 0), .fix (.bref 3 0), .var .i] ++ jN 6 ++ [.fix (.ptr 0 0 0 0), J, .fix (.ptr 0 0 0 1), J, .fix (.bref 1 0)] ++ jN 37 ++ [.agg .record, .var (.list .i), .var (.list .i)]), [], []⟩) <| none
theorem zsz (N : Nat) (a0 : Record) : z18 (z0u.mk' (z0r zd0) zgf zcq) N 400 78 [.record] [.str] a0 = zih N a0 := by kernel_rfl
noncomputable def zd1 : List (FuncId × Spec) := (78, ⟨[.record], [.str], zc7⟩) :: zd0
theorem zpy : zm Tryz.prog (zo zd1) := z8 zu z1c zi zpx (by kernel_rfl) ⟨_, Tryz.func78, by rfl⟩ (tm := zgf) (gh := zcq) fun x y h => by obtain ⟨N, h⟩ := zk h; exact ⟨N, 400, (zsz N x).trans h⟩
theorem zpz (N : Nat) (a0 : Int) : z18 (z0u.mk' (z0r zd1) z8a zcq) N 400 79 [.i] [.str] a0 = za6 a0 := by kernel_rfl
noncomputable def zb1 : List (FuncId × Spec) := (79, ⟨[.i], [.str], z5m⟩) :: zd1
theorem zn2 : zm Tryz.prog (zo zb1) := z8 zu z1c zi zpy (by kernel_rfl) ⟨_, Tryz.func79, by rfl⟩ (tm := z8a) (gh := zcq) fun x y h => ⟨0, 400, (zpz 0 x).trans h⟩
theorem zt0 (N : Nat) (a0 : Int) : z18 (z0u.mk' (z0r zb1) z8a zcq) N 400 92 [.i] [.i] a0 = zc8 a0 := by kernel_rfl
noncomputable def zd2 : List (FuncId × Spec) := (92, ⟨[.i], [.i], z7q⟩) :: zb1
theorem zq0 : zm Tryz.prog (zo zd2) := z8 zu z1c zi zn2 (by kernel_rfl) ⟨_, Tryz.func92, by rfl⟩ (tm := z8a) (gh := zcq) fun x y h => ⟨0, 400, (zt0 0 x).trans h⟩
noncomputable def zj1 : Nat -> Option Tmpl := fun cx => cond (Nat.beq cx 1) (some ⟨[], [], 26, [], ([.var .str, J, J, .var .i, .var .i] ++ jN 21), [], []⟩) <| cond (Nat.beq cx 29) (some ⟨[], [], 26, [], ([.var .str, J, J, .var .i, .var .i, .var .i] ++ jN 20), [], []⟩) <| none
theorem zvh (N : Nat) (a0 : Str) : z18 (z0u.mk' (z0r zd2) zj1 zcq) N 400 80 [.str] [.i] a0 = zl4 N a0 := by kernel_rfl
noncomputable def zf8 : List (FuncId × Spec) := (80, ⟨[.str], [.i], zek⟩) :: zd2
theorem zt1 : zm Tryz.prog (zo zf8) := z8 zu z1c zi zq0 (by kernel_rfl) ⟨_, Tryz.func80, by rfl⟩ (tm := zj1) (gh := zcq) fun x y h => by obtain ⟨N, h⟩ := zk h; exact ⟨N, 400, (zvh N x).trans h⟩
theorem zn3 (N : Nat) (a0 : Record) (a1 : Str) : z18 (z0u.mk' (z0r zf8) z8a zcq) N 400 64 [.record, .str] [.str, .i] (a0, a1) = z4e a0 a1 := by kernel_rfl
noncomputable def z93 : List (FuncId × Spec) := (64, ⟨[.record, .str], [.str, .i], z8i⟩) :: zf8
theorem zm0 : zm Tryz.prog (zo z93) := z8 zu z1c zi zt1 (by kernel_rfl) ⟨_, Tryz.func64, by rfl⟩ (tm := z8a) (gh := zcq) fun x y h => ⟨0, 400, (zn3 0 x.1 x.2).trans h⟩
noncomputable def zgg : Nat -> Option Tmpl := fun cx => cond (Nat.beq cx 1) (some ⟨[], [], 48, [], ([.var .str, J, J, J, J, .var .i, .var .i, .var .i] ++ jN 40), [], []⟩) <| none
theorem zt2 (N : Nat) (a0 : Str) : z18 (z0u.mk' (z0r z93) zgg zcq) N 400 121 [.str] [.i, .str, .bool] a0 = zii N a0 := by kernel_rfl
noncomputable def zd3 : List (FuncId × Spec) := (121, ⟨[.str], [.i, .str, .bool], z7r⟩) :: z93
theorem zq1 : zm Tryz.prog (zo zd3) := z8 zu z1c zi zm0 (by kernel_rfl) ⟨_, Tryz.func121, by rfl⟩ (tm := zgg) (gh := zcq) fun x y h => by obtain ⟨N, h⟩ := zk h; exact ⟨N, 400, (zt2 N x).trans h⟩
noncomputable def zd4 : Nat -> Option Tmpl := fun cx => cond (Nat.beq cx 6) (some ⟨[.tmp 8 .i], [(0, .i)], 47, [.dead, .blk .i 0 true], ([J, J, J, J, J, .var .i, .var .str, J, .fix (.bref 1 0), .var .i] ++ jN 37 ++ [.var (.list .i)]), [], []⟩) <| none
theorem zn4 (N : Nat) (a0 : Str) : z18 (z0u.mk' (z0r zd3) zd4 zcq) N 400 107 [.str] [(.list .i), .str, .i] a0 = z8j N a0 := by kernel_rfl
noncomputable def z94 : List (FuncId × Spec) := (107, ⟨[.str], [(.list .i), .str, .i], z2d⟩) :: zd3
theorem zm1 : zm Tryz.prog (zo z94) := z8 zu z1c zi zq1 (by kernel_rfl) ⟨_, Tryz.func107, by rfl⟩ (tm := zd4) (gh := zcq) fun x y h => by obtain ⟨N, h⟩ := zk h; exact ⟨N, 400, (zn4 N x).trans h⟩
noncomputable def zd5 : Nat -> Option Tmpl := fun cx => cond (Nat.beq cx 6) (some ⟨[.cell 9 0 3 .i], [(11, .i)], 91, [.raw 4 1, .dead, .dead, .dead, .dead, .dead, .dead, .dead, .dead, .raw 4 1, .dead, .dead, .blk .i 0 true], ([.var .str, .var .str, J, J, .fix (.ptr 0 0 0 0)] ++ jN 6 ++ [.var (.list .i), J, J, .fix (.ptr 9 0 0 0), .var .i] ++ jN 79 ++ [.var .i, .var .i, .var (.list .i), .fix (.bref 12 0), .var (.list .i)]), [], []⟩) <| none
theorem zn5 (N : Nat) (a0 : Str) (a1 : Str) : z18 (z0u.mk' (z0r z94) zd5 zcq) N 400 88 [.str, .str] [.record, .i] (a0, a1) = z4f N a0 a1 := by kernel_rfl
noncomputable def z95 : List (FuncId × Spec) := (88, ⟨[.str, .str], [.record, .i], z8k⟩) :: z94
theorem zm2 : zm Tryz.prog (zo z95) := z8 zu z1c zi zm1 (by kernel_rfl) ⟨_, Tryz.func88, by rfl⟩ (tm := zd5) (gh := zcq) fun x y h => by obtain ⟨N, h⟩ := zk h; exact ⟨N, 400, (zn5 N x.1 x.2).trans h⟩
end Clk.YtpncgjcflkhemaaGreat
namespace Clk.YtpncgjcflkhemaaGreat
open Go Go.Proofs Go.Proofs.YtpncgjcflkhemaaGreat
theorem zt3 (N : Nat) (a0 : Page) : z18 (z0u.mk' (z0r z95) z8a zcq) N 400 74 [.page] [.i, .record] a0 = z7s a0 := by kernel_rfl
noncomputable def zd6 : List (FuncId × Spec) := (74, ⟨[.page], [.i, .record], zc9⟩) :: z95
theorem zq2 : zm Tryz.prog (zo zd6) := z8 zu z1c zi zm2 (by kernel_rfl) ⟨_, Tryz.func74, by rfl⟩ (tm := z8a) (gh := zcq) fun x y h => ⟨0, 400, (zt3 0 x).trans h⟩
theorem zq3 (N : Nat) (a0 : Int) (a1 : Int) : z18 (z0u.mk' (z0r zd6) z8a zcq) N 400 75 [.i, .i] [.i] (a0, a1) = z5n a0 a1 := by kernel_rfl
noncomputable def zb2 : List (FuncId × Spec) := (75, ⟨[.i, .i], [.i], za7⟩) :: zd6
theorem zn6 : zm Tryz.prog (zo zb2) := z8 zu z1c zi zq2 (by kernel_rfl) ⟨_, Tryz.func75, by rfl⟩ (tm := z8a) (gh := zcq) fun x y h => ⟨0, 400, (zq3 0 x.1 x.2).trans h⟩
theorem zq4 (N : Nat) (a0 : Found) (a1 : Found) : z18 (z0u.mk' (z0r zb2) z8a zcq) N 400 89 [.found, .found] [.bool] (a0, a1) = z5o a0 a1 := by kernel_rfl
noncomputable def zb3 : List (FuncId × Spec) := (89, ⟨[.found, .found], [.bool], za8⟩) :: zb2
theorem zn7 : zm Tryz.prog (zo zb3) := z8 zu z1c zi zn6 (by kernel_rfl) ⟨_, Tryz.func89, by rfl⟩ (tm := z8a) (gh := zcq) fun x y h => ⟨0, 400, (zq4 0 x.1 x.2).trans h⟩
noncomputable def zj2 : Nat -> Option Tmpl := fun cx => cond (Nat.beq cx 1) (some ⟨[.tmp 5 .found], [(1, .found)], 42, [.st .found, .dead, .blk .found 0 true], ([.var (.list .found), J, J, .fix (.ptr 0 0 0 0), J, .fix (.bref 2 0), .var .bool, .var .i] ++ jN 34 ++ [.agg .found, .var (.list .found)]), [], []⟩) <| none
theorem zvi (N : Nat) (a0 : (List Found)) (a1 : Found) : z18 (z0u.mk' (z0r zb3) zj2 zcq) N 400 76 [(.list .found), .found] [(.list .found)] (a0, a1) = zl5 N a0 a1 := by kernel_rfl
noncomputable def zf9 : List (FuncId × Spec) := (76, ⟨[(.list .found), .found], [(.list .found)], zel⟩) :: zb3
theorem zt4 : zm Tryz.prog (zo zf9) := z8 zu z1c zi zn7 (by kernel_rfl) ⟨_, Tryz.func76, by rfl⟩ (tm := zj2) (gh := zcq) fun x y h => by obtain ⟨N, h⟩ := zk h; exact ⟨N, 400, (zvi N x.1 x.2).trans h⟩
noncomputable def zj3 : Nat -> Option Tmpl := fun cx => cond (Nat.beq cx 1) (some ⟨[], [], 55, [.st .chip], ([J, .fix (.ptr 0 0 0 0), J, .var (.list .found), .var .i] ++ jN 50 ++ [.agg .chip]), [], []⟩) <| cond (Nat.beq cx 29) (some ⟨[], [], 55, [.st .chip], ([J, .fix (.ptr 0 0 0 0), J, .var (.list .found), .var .i, .var .i, J, J, J, J, .fix (.ptr 0 0 0 0)] ++ jN 44 ++ [.agg .chip]), [], []⟩) <| none
theorem zvj (N : Nat) (a0 : Chip) : z18 (z0u.mk' (z0r zf9) zj3 zcq) N 400 57 [.chip] [(.list .found)] a0 = zl6 N a0 := by kernel_rfl
noncomputable def zfa : List (FuncId × Spec) := (57, ⟨[.chip], [(.list .found)], zem⟩) :: zf9
theorem zt5 : zm Tryz.prog (zo zfa) := z8 zu z1c zi zt4 (by kernel_rfl) ⟨_, Tryz.func57, by rfl⟩ (tm := zj3) (gh := zcq) fun x y h => by obtain ⟨N, h⟩ := zk h; exact ⟨N, 400, (zvj N x).trans h⟩
noncomputable def ze4 : Nat -> Option Tmpl := fun cx => cond (Nat.beq cx 1) (some ⟨[], [], 92, [.raw 2 1, .st .found, .raw 2 1, .dead, .dead, .blk .i 0 false, .dead, .dead, .blk .i 0 false, .dead, .raw 2 1, .dead], ([J, J, .fix (.ptr 0 0 0 0), .fix (.ptr 1 0 0 0), .fix (.ptr 2 0 0 0), .fix (.ptr 10 0 0 0), .var .i, J, .fix (.ptr 0 0 0 0), J, .fix (.bref 5 0), .fix (.ptr 0 0 0 1), J, .fix (.bref 8 0)] ++ jN 80 ++ [.agg .found, J, J, .var (.list .i), .var (.list .i), .fix (.bref 5 0), .fix (.bref 8 0)]), [], []⟩) <| none
theorem zq5 (N : Nat) (a0 : Table) (a1 : Found) : z18 (z0u.mk' (z0r zfa) ze4 zcq) N 400 58 [.table, .found] [.table] (a0, a1) = z5l N a0 a1 := by kernel_rfl
noncomputable def zb4 : List (FuncId × Spec) := (58, ⟨[.table, .found], [.table], za2⟩) :: zfa
theorem zn8 : zm Tryz.prog (zo zb4) := z8 zu z1c zi zt5 (by kernel_rfl) ⟨_, Tryz.func58, by rfl⟩ (tm := ze4) (gh := zcq) fun x y h => by obtain ⟨N, h⟩ := zk h; exact ⟨N, 400, (zq5 N x.1 x.2).trans h⟩
noncomputable def zd7 : Nat -> Option Tmpl := fun cx => cond (Nat.beq cx 1) (some ⟨[], [], 37, [.raw 4 1, .raw 2 1, .st .table], ([J, J, .fix (.ptr 0 0 0 0), J, .fix (.ptr 1 0 0 0), J, .fix (.ptr 2 0 0 0), .var (.list .found), .var .i, .var .i] ++ jN 33 ++ [.agg .table]), [], []⟩) <| none
theorem zn9 (N : Nat) (a0 : Chip) (a1 : Int) : z18 (z0u.mk' (z0r zb4) zd7 zcq) N 400 38 [.chip, .i] [.table, .i] (a0, a1) = z4j N a0 a1 := by kernel_rfl
noncomputable def z96 : List (FuncId × Spec) := (38, ⟨[.chip, .i], [.table, .i], z8n⟩) :: zb4
theorem zm3 : zm Tryz.prog (zo z96) := z8 zu z1c zi zn8 (by kernel_rfl) ⟨_, Tryz.func38, by rfl⟩ (tm := zd7) (gh := zcq) fun x y h => by obtain ⟨N, h⟩ := zk h; exact ⟨N, 400, (zn9 N x.1 x.2).trans h⟩
noncomputable def zm4 : Nat -> Option Tmpl := fun cx => cond (Nat.beq cx 1) (some ⟨[.tmp 3 .block], [(4, .block)], 29, [.raw 4 1, .raw 4 1, .st .chip, .raw 4 1, .dead, .nst true 0 true], ([J, .fix (.ptr 2 0 0 0), .fix (.ptr 3 0 0 0), .fix (.bref 5 0), .var .i] ++ jN 32 ++ [.agg .chip, J, J, J, J, .var (.list .block)]), [.nest 5 true], [.abs 5]⟩) <| none
theorem zyw (N : Nat) (a0 : Chip) : z18 (z0u.mk' (z0r z96) zm4 zcq) N 400 39 [.chip] [.chip] a0 = zo1 N a0 := by kernel_rfl
noncomputable def zhw : List (FuncId × Spec) := (39, ⟨[.chip], [.chip], zh5⟩) :: z96
theorem zvk : zm Tryz.prog (zo zhw) := z8 zu z1c zi zm3 (by kernel_rfl) ⟨_, Tryz.func39, by rfl⟩ (tm := zm4) (gh := zcq) fun x y h => by obtain ⟨N, h⟩ := zk h; exact ⟨N, 400, (zyw N x).trans h⟩
noncomputable def ze5 : Nat -> Option Tmpl := fun cx => cond (Nat.beq cx 6) (some ⟨[], [], 76, [.st .geometry, .st .chip, .raw 12 1], ([J, J, .fix (.ptr 0 0 0 0), .fix (.ptr 1 0 0 0), .fix (.ptr 2 0 0 0), J, .var .i, .var .i] ++ jN 7 ++ [.fix (.ptr 1 0 0 0), J, J, .fix (.ptr 0 0 0 0)] ++ jN 57 ++ [.agg .geometry, .agg .chip] ++ jN 12), [], []⟩) <| none
theorem zq6 (N : Nat) (a0 : Geometry) (a1 : Chip) : z18 (z0u.mk' (z0r zhw) ze5 zcq) N 400 15 [.geometry, .chip] [.device, .i] (a0, a1) = z5r N a0 a1 := by kernel_rfl
noncomputable def zb5 : List (FuncId × Spec) := (15, ⟨[.geometry, .chip], [.device, .i], za9⟩) :: zhw
theorem zna : zm Tryz.prog (zo zb5) := z8 zu z1c zi zvk (by kernel_rfl) ⟨_, Tryz.func15, by rfl⟩ (tm := ze5) (gh := zcq) fun x y h => by obtain ⟨N, h⟩ := zk h; exact ⟨N, 400, (zq6 N x.1 x.2).trans h⟩
noncomputable def zj4 : Nat -> Option Tmpl := fun cx => cond (Nat.beq cx 6) (some ⟨[.cell 1 0 0 .block], [(2, .block)], 68, [.raw 4 1, .raw 4 1, .dead, .nst true 0 true], ([.var .i, .var .i, .var (.list .i), J, J, J, .fix (.ptr 0 0 0 0), J, .fix (.ptr 1 0 0 0), .var .i] ++ jN 62 ++ [.fix (.bref 3 0), .var .bool, .var .bool, .var .i, .var (.list .block)]), [.nest 3 true], [.abs 3]⟩) <| cond (Nat.beq cx 110) (some ⟨[], [], 68, [.raw 4 1, .raw 4 1, .dead, .nst true 0 false], ([.var .i, J, .var (.list .i), J, J, J, .fix (.ptr 0 0 0 0), J, .fix (.ptr 1 0 0 0), J, .var .i] ++ jN 61 ++ [.fix (.bref 3 0), .var .bool, .var .bool, .var .i, .var (.list .block)]), [], []⟩) <| none
theorem zvl (N : Nat) (a0 : Int) (a1 : Int) (a2 : (List Int)) : z18 (z0u.mk' (z0r zb5) zj4 zcq) N 400 24 [.i, .i, (.list .i)] [.chip, .i] (a0, a1, a2) = zab N a0 a1 a2 := by kernel_rfl
noncomputable def zfb : List (FuncId × Spec) := (24, ⟨[.i, .i, (.list .i)], [.chip, .i], zen⟩) :: zb5
theorem zt6 : zm Tryz.prog (zo zfb) := z8 zu z1c zi zna (by kernel_rfl) ⟨_, Tryz.func24, by rfl⟩ (tm := zj4) (gh := zcq) fun x y h => by obtain ⟨N, h⟩ := zk h; exact ⟨N, 400, (zvl N x.1 x.2.1 x.2.2).trans h⟩
noncomputable def zgh : Nat -> Option Tmpl := fun cx => cond (Nat.beq cx 1) (some ⟨[], [], 21, [.st .chip], ([J, .fix (.ptr 0 0 0 0), J, .var .i, .var .i] ++ jN 16 ++ [.agg .chip]), [], []⟩) <| none
theorem zt7 (N : Nat) (a0 : Chip) : z18 (z0u.mk' (z0r zfb) zgh zcq) N 400 25 [.chip] [.i] a0 = zik N a0 := by kernel_rfl
noncomputable def zd8 : List (FuncId × Spec) := (25, ⟨[.chip], [.i], zcf⟩) :: zfb
theorem zq7 : zm Tryz.prog (zo zd8) := z8 zu z1c zi zt6 (by kernel_rfl) ⟨_, Tryz.func25, by rfl⟩ (tm := zgh) (gh := zcq) fun x y h => by obtain ⟨N, h⟩ := zk h; exact ⟨N, 400, (zt7 N x).trans h⟩
theorem znb (N : Nat) (a0 : Geometry) (a1 : (List Int)) : z18 (z0u.mk' (z0r zd8) z8a zcq) N 400 7 [.geometry, (.list .i)] [.device, .i] (a0, a1) = z4r a0 a1 := by kernel_rfl
noncomputable def z97 : List (FuncId × Spec) := (7, ⟨[.geometry, (.list .i)], [.device, .i], z2e⟩) :: zd8
theorem zm5 : zm Tryz.prog (zo z97) := z8 zu z1c zi zq7 (by kernel_rfl) ⟨_, Tryz.func7, by rfl⟩ (tm := z8a) (gh := zcq) fun x y h => ⟨0, 400, (znb 0 x.1 x.2).trans h⟩
theorem zq8 (N : Nat) (a0 : Int) : z18 (z0u.mk' (z0r z97) z8a zcq) N 400 12 [(.int .u8)] [.geometry] a0 = z5s a0 := by kernel_rfl
noncomputable def zb6 : List (FuncId × Spec) := (12, ⟨[(.int .u8)], [.geometry], zaa⟩) :: z97
theorem znc : zm Tryz.prog (zo zb6) := z8 zu z1c zi zm5 (by kernel_rfl) ⟨_, Tryz.func12, by rfl⟩ (tm := z8a) (gh := zcq) fun x y h => ⟨0, 400, (zq8 0 x).trans h⟩
theorem zvm (N : Nat) (a0 : Chip) (a1 : Int) : z18 (z0u.mk' (z0r zb6) z8a zcq) N 400 59 [.chip, .i] [.page, .bool] (a0, a1) = zaq a0 a1 := by kernel_rfl
noncomputable def zfc : List (FuncId × Spec) := (59, ⟨[.chip, .i], [.page, .bool], zex⟩) :: zb6
theorem zt8 : zm Tryz.prog (zo zfc) := z8 zu z1c zi znc (by kernel_rfl) ⟨_, Tryz.func59, by rfl⟩ (tm := z8a) (gh := zcq) fun x y h => ⟨0, 400, (zvm 0 x.1 x.2).trans h⟩
theorem zyx (N : Nat) (a0 : Chip) (a1 : Table) (a2 : Int) : z18 (z0u.mk' (z0r zfc) z8a zcq) N 400 40 [.chip, .table, .i] [.str] (a0, a1, a2) = zdu a0 a1 a2 := by kernel_rfl
noncomputable def zhx : List (FuncId × Spec) := (40, ⟨[.chip, .table, .i], [.str], zhj⟩) :: zfc
theorem zvn : zm Tryz.prog (zo zhx) := z8 zu z1c zi zt8 (by kernel_rfl) ⟨_, Tryz.func40, by rfl⟩ (tm := z8a) (gh := zcq) fun x y h => ⟨0, 400, (zyx 0 x.1 x.2.1 x.2.2).trans h⟩
noncomputable def zm6 : Nat -> Option Tmpl := fun cx => cond (Nat.beq cx 1) (some ⟨[], [], 26, [.st .device, .blk .str 0 false], ([J, .fix (.ptr 0 0 0 0), J, .fix (.bref 1 0), J, .fix (.ptr 0 0 0 8), .fix (.ptr 0 0 0 8), J, J, .fix (.bref 1 0), .fix (.bref 1 0), .var .i, .var .i] ++ jN 13 ++ [.agg .device, .var (.list .str)]), [], []⟩) <| none
theorem zyy (N : Nat) (a0 : Device) : z18 (z0u.mk' (z0r zhx) zm6 zcq) N 400 17 [.device] [(.list .str)] a0 = zdv N a0 := by kernel_rfl
noncomputable def zhy : List (FuncId × Spec) := (17, ⟨[.device], [(.list .str)], zhk⟩) :: zhx
theorem zvo : zm Tryz.prog (zo zhy) := z8 zu z1c zi zvn (by kernel_rfl) ⟨_, Tryz.func17, by rfl⟩ (tm := zm6) (gh := zcq) fun x y h => by obtain ⟨N, h⟩ := zk h; exact ⟨N, 400, (zyy N x).trans h⟩
theorem znd (N : Nat) (a0 : Device) : z18 (z0u.mk' (z0r zhy) z8a zcq) N 400 19 [.device] [.i] a0 = z4t a0 := by kernel_rfl
noncomputable def z98 : List (FuncId × Spec) := (19, ⟨[.device], [.i], z8z⟩) :: zhy
theorem zm7 : zm Tryz.prog (zo z98) := z8 zu z1c zi zvo (by kernel_rfl) ⟨_, Tryz.func19, by rfl⟩ (tm := z8a) (gh := zcq) fun x y h => ⟨0, 400, (znd 0 x).trans h⟩
theorem zq9 (N : Nat) : z18 (z0u.mk' (z0r z98) z8a zcq) N 400 8 [] [.bool] () = z6d := by kernel_rfl
noncomputable def zb7 : List (FuncId × Spec) := (8, ⟨[], [.bool], z3n⟩) :: z98
theorem zne : zm Tryz.prog (zo zb7) := z8 zu z1c zi zm7 (by kernel_rfl) ⟨_, Tryz.func8, by rfl⟩ (tm := z8a) (gh := zcq) fun x y h => ⟨0, 400, (zq9 0 ).trans h⟩
noncomputable def zgi : Nat -> Option Tmpl := fun cx => cond (Nat.beq cx 6) (some ⟨[], [], 100, [.st .chip, .st .chip], ([J, J, .fix (.ptr 0 0 0 0), .fix (.ptr 1 0 0 0), J, .var .i, J, J, J, .fix (.ptr 0 0 0 0), J, J, .fix (.ptr 1 0 0 0), J, J, J, J, .fix (.ptr 0 0 0 1), J, .fix (.ptr 1 0 0 1), J, J, J, J, .fix (.ptr 0 0 0 2), J, .fix (.ptr 1 0 0 2), J, J, J, J, .fix (.ptr 0 0 0 3), J, .fix (.ptr 1 0 0 3)] ++ jN 66 ++ [.agg .chip, .agg .chip]), [], []⟩) <| cond (Nat.beq cx 438) (some ⟨[], [], 100, [.st .chip, .st .chip, .dead, .dead, .dead, .dead, .dead, .dead, .dead, .dead, .dead, .dead, .st .block, .st .block, .dead, .dead], ([J, J, .fix (.ptr 0 0 0 0), .fix (.ptr 1 0 0 0), J, .var .i, .fix (.ptr 12 0 0 0), .fix (.ptr 13 0 0 0), .var .i, .fix (.ptr 0 0 0 0), J, J, .fix (.ptr 1 0 0 0), J, J, J, J, .fix (.ptr 0 0 0 1), J, .fix (.ptr 1 0 0 1), J, J, J, J, .fix (.ptr 0 0 0 2), J, .fix (.ptr 1 0 0 2), J, J, J, J, .fix (.ptr 0 0 0 3), J, .fix (.ptr 1 0 0 3), J, J, J, J, .fix (.ptr 0 0 0 0), J, J, J, J, J, .fix (.ptr 0 0 0 0), J, J, J, J, .fix (.ptr 1 0 0 0), J, J, J, J, .fix (.ptr 12 0 0 1), J, .fix (.ptr 13 0 0 1), J, J, J, .fix (.ptr 12 0 0 2), J, .fix (.ptr 13 0 0 2), J, J, J, J, .fix (.ptr 12 0 0 3), J, .fix (.ptr 13 0 0 3), J, J, J, J, .fix (.ptr 12 0 0 0), J, J, .fix (.ptr 13 0 0 0)] ++ jN 22 ++ [.agg .chip, .agg .chip, .agg .block, .agg .block]), [], []⟩) <| none
theorem zt9 (N : Nat) (a0 : Chip) (a1 : Chip) : z18 (z0u.mk' (z0r zb7) zgi zcq) N 400 21 [.chip, .chip] [.bool] (a0, a1) = z81 N a0 a1 := by kernel_rfl
noncomputable def zd9 : List (FuncId × Spec) := (21, ⟨[.chip, .chip], [.bool], zce⟩) :: zb7
theorem zqa : zm Tryz.prog (zo zd9) := z8 zu z1c zi zne (by kernel_rfl) ⟨_, Tryz.func21, by rfl⟩ (tm := zgi) (gh := zcq) fun x y h => by obtain ⟨N, h⟩ := zk h; exact ⟨N, 400, (zt9 N x.1 x.2).trans h⟩
noncomputable def zgj : Nat -> Option Tmpl := fun cx => cond (Nat.beq cx 6) (some ⟨[], [], 26, [], ([.var (.list .i), .var (.list .i), J, J, J, .var .i] ++ jN 20), [], []⟩) <| none
theorem zta (N : Nat) (a0 : (List Int)) (a1 : (List Int)) : z18 (z0u.mk' (z0r zd9) zgj zcq) N 400 28 [(.list .i), (.list .i)] [.bool] (a0, a1) = z7x N a0 a1 := by kernel_rfl
noncomputable def zda : List (FuncId × Spec) := (28, ⟨[(.list .i), (.list .i)], [.bool], z7y⟩) :: zd9
theorem zqb : zm Tryz.prog (zo zda) := z8 zu z1c zi zqa (by kernel_rfl) ⟨_, Tryz.func28, by rfl⟩ (tm := zgj) (gh := zcq) fun x y h => by obtain ⟨N, h⟩ := zk h; exact ⟨N, 400, (zta N x.1 x.2).trans h⟩
theorem ztb (N : Nat) (a0 : Device) (a1 : Device) : z18 (z0u.mk' (z0r zda) z8a zcq) N 400 11 [.device, .device] [.bool] (a0, a1) = z82 a0 a1 := by kernel_rfl
noncomputable def zdb : List (FuncId × Spec) := (11, ⟨[.device, .device], [.bool], z4x⟩) :: zda
theorem zqc : zm Tryz.prog (zo zdb) := z8 zu z1c zi zqb (by kernel_rfl) ⟨_, Tryz.func11, by rfl⟩ (tm := z8a) (gh := zcq) fun x y h => ⟨0, 400, (ztb 0 x.1 x.2).trans h⟩
noncomputable def z9u : Nat -> Option Tmpl := fun cx => cond (Nat.beq cx 1) (some ⟨[.tmp 12 .i], [(1, .i)], 80, [.st .geometry, .dead, .blk .i 0 true], ([J, J, J, J, .var (.list (.int .u8))] ++ jN 6 ++ [.fix (.ptr 0 0 0 0), .fix (.bref 2 0), .var .i] ++ jN 66 ++ [.agg .geometry, .var (.list .i)]), [], []⟩) <| none
theorem zjd (N : Nat) (a0 : Int) (a1 : Int) (a2 : Int) (a3 : Int) (a4 : (List Int)) : z18 (z0u.mk' (z0r zdb) z9u zcq) N 400 3 [(.int .u8), (.int .u8), (.int .u8), (.int .u8), (.list (.int .u8))] [.bool] (a0, a1, a2, a3, a4) = zbp N a0 a1 a2 a3 a4 := by kernel_rfl
noncomputable def zje : List (FuncId × Spec) := (3, ⟨[(.int .u8), (.int .u8), (.int .u8), (.int .u8), (.list (.int .u8))], [.bool], z5d⟩) :: zdb
theorem zhz : zm Tryz.prog (zo zje) := z8 zu z1c zi zqc (by kernel_rfl) ⟨_, Tryz.func3, by rfl⟩ (tm := z9u) (gh := zcq) fun x y h => by obtain ⟨N, h⟩ := zk h; exact ⟨N, 400, (zjd N x.1 x.2.1 x.2.2.1 x.2.2.2.1 x.2.2.2.2).trans h⟩
end Clk.YtpncgjcflkhemaaGreat
namespace Clk
open Go
def fresh (g : Geometry) : Device :=
 ⟨g, ⟨List.replicate g.blocks.toNat ⟨List.replicate g.pages.toNat zPage, 0, 0, false⟩, false, false, 0⟩, ⟨List.replicate g.sectors.toNat (-1), List.replicate g.sectors.toNat (-1)⟩, 0, -1⟩
end Clk
namespace Clk
open Go
theorem zyz {p : Page} (h : (lookT p).1 = 1) : rightT (lookT p).2 = true := by
 unfold lookT at h ⊢; split at h
 · simp at h
 · rename_i h1; rw [if_neg h1]; split at h
   · simp at h
   · rename_i h2; rw [if_neg h2]; simp only [ne_eq, Decidable.not_not] at h2; simp only; unfold decT at h2 ⊢; split at h2
     · simp at h2
     · rename_i h3; rw [if_neg h3]; split at h2
       · simp at h2
       · rename_i h4; rw [if_neg h4]; simp only; generalize hR : (⟨(zb p.tag).1.getD 0 0, (zb p.tag).1.getD 1 0, (zb (zb p.tag).2.1).1, mvT (zb (zb (zb p.tag).2.1).2.1).1⟩ : Record) = R at h4; cases hr : rightT R with
         | true => rfl
         | false =>
           exfalso; apply h4
           left; unfold encT; rw [if_pos (.inl hr)]; simp
def vv (b p : Nat) (pg : Page) : List Found := if (lookT pg).1 = 1 /\ 0 <= placeT b p then [⟨placeT b p, (lookT pg).2⟩] else []
def vp (b : Nat) : Nat -> List Page -> List Found
 | _, [] => []
 | p, pg :: l => vv b p pg ++ vp b (p + 1) l
def vb : Nat -> List Block -> List Found
 | _, [] => []
 | b, x :: l => vp b 0 x.pages ++ vb (b + 1) l
theorem zm8 (b : Nat) : ∀ (l : List Page) (p : Nat) (out : List Found), pagesT b p l out = (vp b p l).foldl insT out
 | [], p, out => rfl
 | pg :: l, p, out => by
   unfold pagesT vp vv; rw [zm8 b l (p + 1), List.foldl_append]; split <;> rfl
theorem zdc : ∀ (l : List Block) (b : Nat) (out : List Found), blocksT b l out = (vb b l).foldl insT out
 | [], b, out => rfl
 | x :: l, b, out => by
   unfold blocksT vb; rw [zdc l (b + 1), List.foldl_append, zm8]
theorem zx6 : ∀ (B l : List Found) (y : Found), y ∈ B.foldl insT l ↔ y ∈ l \/ y ∈ B
 | [], l, y => by simp
 | b :: B, l, y => by
   have hi : ∀ (l : List Found) (x : Found), y ∈ insT l x ↔ y = x \/ y ∈ l := by
    intro l x; induction l with
    | nil => simp [insT]
    | cons z l ih =>
      unfold insT; split
      · simp
      · simp only [List.mem_cons, ih]; constructor
        · rintro (h | h | h)
          · exact .inr (.inl h)
          · exact .inl h
          · exact .inr (.inr h)
        · rintro (h | h | h)
          · exact .inr (.inl h)
          · exact .inl h
          · exact .inr (.inr h)
   simp only [List.foldl_cons, zx6 B, hi, List.mem_cons]; constructor
   · rintro ((h | h) | h)
     · exact .inr (.inl h)
     · exact .inl h
     · exact .inr (.inr h)
   · rintro (h | h | h)
     · exact .inl (.inr h)
     · exact .inl (.inl h)
     · exact .inr h
end Clk
namespace Clk
open Go
end Clk
namespace Clk
open Go
theorem zqd (n : Int) (r : Str) (ok : Bool) : z62 (n, r, ok) = some (if ok = false \/ 1099511627776 < n then (0, [], false) else (n, r, true)) := by
 show z61 n r ok = _; unfold z61; cases ok with
 | false => simp
 | true =>
   by_cases h : 1099511627776 < n
   · rw [zT h, if_pos (.inr h)]; rfl
   · rw [zF h, if_neg (by simp; omega)]; rfl
theorem zz0 : (List.range 256).map (fun c : Nat => w64 (bAndNot .i64 (w64 (c : Int)) 128)) = (List.range 256).map (fun c : Nat => ((c % 128 : Nat) : Int)) := by kernel_rfl
theorem z06n : (List.range 6).map (fun k : Nat => (w64 (7 * (k : Int)), (2 : Int) ^ (min (Int.toNat (w64 (7 * (k : Int)))) 64))) = (List.range 6).map (fun k : Nat => (((7 * k : Nat) : Int), ((128 ^ k : Nat) : Int))) := by kernel_rfl
theorem z028 {c : Nat} (h : c < 256) : w64 (bAndNot .i64 (w64 (c : Int)) 128) = ((c % 128 : Nat) : Int) := by
 have := congrArg (fun l => l[c]?) zz0; simpa only [List.getElem?_map, List.getElem?_range h, Option.map_some, Option.some.injEq] using this
theorem pow7 {k : Nat} (h : k < 6) : w64 (7 * (k : Int)) = ((7 * k : Nat) : Int) /\ (2 : Int) ^ (min (Int.toNat (w64 (7 * (k : Int)))) 64) = ((128 ^ k : Nat) : Int) := by
 have := congrArg (fun l => l[k]?) z06n; simp only [List.getElem?_map, List.getElem?_range h, Option.map_some, Option.some.injEq, Prod.mk.injEq] at this; exact this
theorem z07i {n m k : Nat} (h : n < 128 ^ k) : n ||| m * 128 ^ k = n + m * 128 ^ k := by
 have e : 128 ^ k = 2 ^ (7 * k) := by rw [Nat.pow_mul]
 rw [e] at h ⊢; have := Nat.two_pow_add_eq_or_of_lt h m; rw [Nat.or_comm, Nat.mul_comm m, <- this]; omega
theorem zj5 {s : Str} (hs : s.length < 4294967296) : ∀ (f N : Nat) (l : Str) (n k : Nat) (i cnt : Int), s.drop k = l -> i = k -> cnt = min (s.length : Int) 6 -> k + f = 6 -> n < 128 ^ k -> f < N -> zg z8w N (s, n, cnt, i) = some (takeN f (k == 0) n (128 ^ k) l)
 | f, 0, _, _, _, _, _, _, _, _, _, _, h => by omega
 | 0, N + 1, l, n, k, i, cnt, h1, h2, hc, h3, h4, h6 => by
   rw [z6, z41]; unfold z2g; simp only [takeN]; rw [zF (show ¬ i < cnt by omega), zD]
 | f + 1, N + 1, [], n, k, i, cnt, h1, h2, hc, h3, h4, h6 => by
   have := zh h1; rw [z6, z41]; unfold z2g; simp only [takeN]; rw [zF (show ¬ i < cnt by omega), zD]
 | f + 1, N + 1, c :: l, n, k, i, cnt, h1, h2, hcn, h3, h4, h6 => by
   obtain ⟨g1, g2, g3⟩ := zf h1; subst h2; have hc := z01d c; have hu : 128 ^ k <= 34359738368 := Nat.le_trans (Nat.pow_le_pow_right (by omega) (show k <= 5 by omega)) (by decide); have hu0 : 0 < 128 ^ k := Nat.pow_pos (by omega); have hm2 : c.toNat % 128 * 128 ^ k <= 127 * 128 ^ k := Nat.mul_le_mul (by omega) (Nat.le_refl _); obtain ⟨p1, p2⟩ := pow7 (show k < 6 by omega); have hor : w64 (bOr .i64 (n : Int) (w64 ((w64 (bAndNot .i64 (w64 (c.toNat : Int)) 128)) * 2 ^ (min (Int.toNat (w64 (7 * (k : Int)))) 64)))) = ((n + c.toNat % 128 * 128 ^ k : Nat) : Int) := by
    rw [z028 hc, p2]; have e2 : ((c.toNat % 128 : Nat) : Int) * ((128 ^ k : Nat) : Int) = ((c.toNat % 128 * 128 ^ k : Nat) : Int) := by push_cast; rfl
    rw [e2, zd (n := ((c.toNat % 128 * 128 ^ k : Nat) : Int)) (by omega) (by omega), z01c (k := .i64) (show n < 2 ^ 64 by omega) (show c.toNat % 128 * 128 ^ k < 2 ^ 64 by omega), z07i h4, zd (by omega) (by omega)]
   rw [z6, z41]; unfold z2g; simp only [Int.toNat_natCast, g2, takeN]; rw [zT (show (k : Int) < cnt by omega), zT (show (k : Int) < s.length by omega), zT (show (0 : Int) <= k by omega), p1, zT (show (0 : Int) <= ((7 * k : Nat) : Int) by omega)]; rw [p1] at hor; simp only [Int.toNat_natCast] at hor ⊢; rw [hor, zd (n := (c.toNat : Int)) (by omega) (by omega), zd (n := (k : Int) + 1) (by omega) (by omega)]; simp only [zC, zqd, z7]; have e4 : Int.toNat ((k : Int) + 1) = k + 1 := by omega
   by_cases h7 : c.toNat < 128
   · have e3 : c.toNat % 128 = c.toNat := Nat.mod_eq_of_lt h7; rw [zT (show (c.toNat : Int) < 128 by omega), zC, if_pos h7, zT (show (0 : Int) <= (k : Int) + 1 by omega), zT (show (k : Int) + 1 <= s.length by omega), e4, g3, e3]; simp only [zC]; by_cases h9 : k = 0
     · subst h9; rw [zT (show ((0 : Nat) : Int) = 0 from rfl), zC]; by_cases h8 : 1099511627776 < n + c.toNat * 128 ^ 0
       · rw [if_pos (.inr (by omega)), if_pos (.inl h8)]
       · rw [if_neg (by simp; omega), if_neg (by simp; omega)]
     · rw [zF (show ¬ (k : Int) = 0 by omega), zD]; by_cases h8 : 1099511627776 < n + c.toNat * 128 ^ k
       · rw [if_pos (.inr (by omega)), if_pos (.inl h8)]
       · by_cases h10 : c.toNat = 0
         · rw [if_pos (.inl (by simp; omega)), if_pos (.inr ⟨by simpa using h9, h10⟩)]
         · rw [if_neg (by rintro (h | h); simp at h; omega; omega), if_neg (by rintro (h | ⟨_, h⟩); exact h8 h; exact h10 h)]
   · rw [zF (show ¬ (c.toNat : Int) < 128 by omega), zD, if_neg h7]; have hn2 : n + c.toNat % 128 * 128 ^ k < 128 ^ (k + 1) := by rw [Nat.pow_succ]; omega
     have := zj5 hs f N l (n + c.toNat % 128 * 128 ^ k) (k + 1) ((k : Int) + 1) cnt g3 (by omega) hcn (by omega) hn2 (by omega); rw [this, Nat.pow_succ]; rfl
theorem zm9 {s : Str} (hs : s.length < 4294967296) : zam s = some (z4y s) := by
 refine z04 7 fun N hN => ?_
 exact zj5 hs 6 N s 0 0 0 _ rfl rfl rfl (by omega) (by omega) (by omega)
theorem ze6 {n : Int} (hn : n < 4294967296) : ∀ (m N k : Nat) (i : Int) (s : Str) (acc : List Int), (k : Int) + m = n -> i = k -> s.length < 4294967296 -> acc.length = k -> m < N -> zg z5c N (s, n, i, acc) = some (unpackL m s acc)
 | m, 0, _, _, _, _, _, _, _, _, h => by omega
 | 0, N + 1, k, i, s, acc, h1, h2, h3, h4, h5 => by
   rw [z6, z78]; unfold z2m; simp only [unpackL]; rw [zF (by omega)]; rfl
 | m + 1, N + 1, k, i, s, acc, h1, h2, h3, h4, h5 => by
   rw [z6, z78]; unfold z2m; simp only [unpackL, zm9 h3, z7]; rw [zT (show i < n by omega), zC]; have hl := z9q s; cases hb : (z4y s).2.2 with
   | false => rfl
   | true =>
     rw [if_neg (by simp), Bool.not_true, zD]; rw [zT (by simp; omega), zC, zT (by simp; omega), zC]; exact ze6 hn m N (k + 1) _ _ _ (by omega) (by rw [zd (by omega) (by omega)]; omega) (by omega) (by simp; omega) (by omega)
theorem zb8 {s : Str} (hs : s.length < 4294967296) : z3g s = some (zb s) := by
 refine z04 (s.length + 1) fun N hN => ?_
 show z63 N s = _; unfold z63 zb; simp only [zm9 hs, z7]; have hl := z9q s; have hn := zws s; cases hb : (z4y s).2.2 with
 | false => rfl
 | true =>
   rw [Bool.not_true, zD]; by_cases h1 : ((z4y s).2.1.length : Int) < (z4y s).1
   · rw [zT h1, zC, if_pos (.inr h1)]
   · rw [zF h1, zD, if_neg (by simp; omega)]; exact ze6 (by omega) _ N 0 0 _ _ (by omega) rfl (by omega) rfl (by omega)
def tagOk (s : Str) : Prop := (zb s).2.2 = 0 -> (zb s).1.length = 2 -> (zb (zb s).2.1).2.2 = 0
theorem zz1 {s : Str} (hs : s.length < 4294967296) (ht : tagOk s) : zhf s = some (if (zb s).2.2 ≠ 0 \/ (zb s).1.length ≠ 2 \/ (zb (zb (zb s).2.1).2.1).2.2 ≠ 0 then (zRec, 30) else (⟨(zb s).1.getD 0 0, (zb s).1.getD 1 0, (zb (zb s).2.1).1, movT (-1) (zb (zb (zb s).2.1).2.1).1⟩, 0)) := by
 have q1 := z0j s; have q2 := z0j (zb s).2.1; have q3 := z0j (zb (zb s).2.1).2.1; unfold tagOk at ht; show readF z3g (fun l => z2p (l, -1)) s = _; unfold readF; simp only [zb8 hs]; by_cases c1 : (zb s).2.2 = 0
 · rw [zT c1, zC]; by_cases c2 : (zb s).1.length = 2
   · rw [zT c2, zC]; simp only [zb8 (show (zb s).2.1.length < 4294967296 by omega)]; rw [zT (ht c1 c2), zC]; simp only [zb8 (show (zb (zb s).2.1).2.1.length < 4294967296 by omega)]; by_cases c3 : (zb (zb (zb s).2.1).2.1).2.2 = 0
     · rw [zT c3, zC, if_neg (by simp [c1, c2, c3])]; simp only [zlb (show (zb (zb (zb s).2.1).2.1).1.length < 4294967296 by omega)]
     · rw [zF c3, zD, if_pos (.inr (.inr c3))]; rfl
   · rw [zF c2, zD, if_pos (.inr (.inl c2))]; rfl
 · rw [zF c1, zD, if_pos (.inl c1)]; rfl
theorem z06o (l : List Int) : movT (-1) l = mvT l := by unfold movT mvT; rfl
theorem ztc {tag data : Str} (ht : tag.length < 4294967296) (hd : data.length < 4294967296) (hk : tagOk tag) : zcn (tag, data) = some (decT tag data) := by
 have q1 := z0j tag; have q2 := z0j (zb tag).2.1; have q3 := z0j (zb (zb tag).2.1).2.1; show z85 tag data = _; unfold z85; rw [zz1 ht hk, z7]; unfold decT; have hk' := hk; unfold tagOk at hk'; split
 · rename_i h; rw [zF (by decide), Bool.not_false, zC, if_pos (by
    rcases h with h | h | h
    · exact .inl h
    · exact .inr (.inr (.inr h))
    · exact .inr (.inr (.inl h)))]
   rfl
 · rename_i h; simp only [not_or, Decidable.not_not] at h; obtain ⟨c1, c2, c3⟩ := h; rw [zT rfl, Bool.not_true, zD, if_neg (by simp [c1, c2, c3, hk' c1 c2])]; simp only; rw [z06o, zs4 ⟨by show (zb (zb tag).2.1).1.length < _; omega, by show (mvT _).length < _; unfold mvT; rw [List.length_map]; omega⟩ hd, z7]; generalize ({ kind := _, seq := _, keys := _, values := _ } : Record) = r; by_cases e1 : (encT r data).2 = 0
   · rw [zT e1, Bool.not_true, zD]; by_cases e2 : (encT r data).1 = tag
     · rw [zT e2, Bool.not_true, zD, if_neg (by simp [e1, e2])]
     · rw [zF e2, Bool.not_false, zC, if_pos (.inr e2)]; rfl
   · rw [zF e1, Bool.not_false, zC, if_pos (.inl e1)]; rfl
theorem zvp {p : Page} (h : PageOk p) (hk : tagOk p.tag) : zew p = some (lookT p) := by
 show zan p = _; unfold zan lookT; cases p.written with
 | false => rfl
 | true =>
   rw [Bool.not_true, zD, ztc h.1 h.2 hk, z7, if_neg (by simp)]; by_cases c : (decT p.tag p.data).2 = 0
   · rw [zT c, zC, if_neg (by simp [c])]
   · rw [zF c, zD, if_pos c]; rfl
end Clk
namespace Clk
open Go
def TagsOk (c : Chip) : Prop := ∀ b ∈ c.blocks, ∀ p ∈ b.pages, tagOk p.tag
theorem z029 : ∀ (l : List Found) (f : Found), insF l f = insT l f
 | [], f => rfl
 | x :: l, f => by
   unfold insF insT; rw [z029 l f]; rfl
theorem z043 (l : List Found) : sortF l = l.foldl insT [] := by
 unfold sortF; rw [show insF = insT from funext fun l => funext fun f => z029 l f]
theorem zjq {b p : Nat} {pg : Page} {f : Found} (h : f ∈ vv b p pg) : f.place = 16 * (b : Int) + p /\ p < 16 /\ b < 32 := by
 unfold vv at h; split at h
 · rename_i hc; obtain ⟨h1, h2⟩ := zwu hc.2; simp at h; subst h; refine ⟨?_, h2, h1⟩; show placeT b p = _; unfold placeT; rw [if_neg (by omega)]; omega
 · cases h
theorem zgk {b : Nat} : ∀ {l : List Page} {p : Nat} {f : Found}, f ∈ vp b p l -> ∃ q : Nat, p <= q /\ q < 16 /\ b < 32 /\ f.place = 16 * (b : Int) + q
 | [], p, f, h => by simp [vp] at h
 | pg :: l, p, f, h => by
   unfold vp at h; rcases List.mem_append.1 h with h | h
   · obtain ⟨h1, h2, h3⟩ := zjq h; exact ⟨p, Nat.le_refl _, h2, h3, h1⟩
   · obtain ⟨q, h1, h2⟩ := zgk h; exact ⟨q, by omega, h2⟩
theorem zx7 : ∀ {l : List Block} {b : Nat} {f : Found}, f ∈ vb b l -> ∃ c q : Nat, b <= c /\ q < 16 /\ f.place = 16 * (c : Int) + q
 | [], b, f, h => by simp [vb] at h
 | x :: l, b, f, h => by
   unfold vb at h; rcases List.mem_append.1 h with h | h
   · obtain ⟨q, _, h2, _, h3⟩ := zgk h; exact ⟨b, q, Nat.le_refl _, h2, h3⟩
   · obtain ⟨c, q, h1, h2⟩ := zx7 h; exact ⟨c, q, by omega, h2⟩
theorem z06p (b p : Nat) (pg : Page) : (vv b p pg).Pairwise (fun x y => x.place < y.place) := by
 unfold vv; split <;> simp
theorem z02a (b : Nat) : ∀ (l : List Page) (p : Nat), (vp b p l).Pairwise (fun x y => x.place < y.place)
 | [], p => by simp [vp]
 | pg :: l, p => by
   unfold vp; refine List.pairwise_append.2 ⟨z06p b p pg, z02a b l (p + 1), fun x hx y hy => ?_⟩; obtain ⟨h1, _, _⟩ := zjq hx; obtain ⟨q, h2, _, _, h3⟩ := zgk hy; omega
theorem z02b : ∀ (l : List Block) (b : Nat), (vb b l).Pairwise (fun x y => x.place < y.place)
 | [], b => by simp [vb]
 | x :: l, b => by
   unfold vb; refine List.pairwise_append.2 ⟨z02a b _ 0, z02b l (b + 1), fun x hx y hy => ?_⟩; obtain ⟨q, _, h1, _, h2⟩ := zgk hx; obtain ⟨c, r, h3, _, h4⟩ := zx7 hy; omega
theorem ztd : ∀ {l : List Found}, l.Pairwise (fun x y => x.place < y.place) -> distF l = true
 | [], _ => rfl
 | x :: l, h => by
   rw [List.pairwise_cons] at h; unfold distF; rw [Bool.and_eq_true]; refine ⟨List.all_eq_true.2 fun y hy => ?_, ztd h.2⟩; have := h.1 y hy; simp only [Bool.not_eq_true', decide_eq_false_iff_not, Prod.mk.injEq]; omega
theorem z04y (b p : Nat) (pg : Page) : (vv b p pg).length <= 1 := by unfold vv; split <;> simp
theorem z02c {M : List Block × Int × Int × List Found -> Option (List Found)} {bs : List Block} {n : Int} {b : Nat} {pgs : List Page} (hs : pgs.length < 4294967296) (hb : b < 4294967296) (hp : ∀ p ∈ pgs, PageOk p) (ht : ∀ p ∈ pgs, tagOk p.tag) : ∀ (l : List Page) (N p : Nat) (i : Int) (out : List Found), pgs.drop p = l -> i = p -> out.length <= min (16 * b + min p 16) 512 -> l.length < N ->
 zg (zao M) N ((b : Int), bs, n, (b : Int), pgs, (pgs.length : Int), i, out) = M (bs, n, ((b + 1 : Nat) : Int), out ++ vp b p l)
 | l, 0, _, _, _, _, _, _, h => by omega
 | [], N + 1, p, i, out, h1, h2, h3, _ => by
   have h4 := zh h1; rw [z6, zbj]; unfold z64; simp only [vp, List.append_nil]; rw [zF (by omega), zD, zd (by omega) (by omega)]; rfl
 | pg :: l, N + 1, p, i, out, h1, h2, h3, h5 => by
   obtain ⟨g1, g2, g3⟩ := zf h1; subst h2; have hmem : pg ∈ pgs := by rw [<- g2 default]; exact z2f g1
   simp at h5; have hv := z04y b p pg; have hv2 : vv b p pg ≠ [] -> b < 32 /\ p < 16 := fun h => by
    cases hvv : vv b p pg with
    | nil => exact absurd hvv h
    | cons f r => have := zjq (f := f) (by rw [hvv]; simp); omega
   have hlen : (out ++ vv b p pg).length <= min (16 * b + min (p + 1) 16) 512 := by
    rw [List.length_append]; by_cases hvv : vv b p pg = []
    · rw [hvv]; simp; omega
    · have := hv2 hvv; omega
   have ih := z02c (M := M) (bs := bs) (n := n) hs hb hp ht l N (p + 1) ((p : Int) + 1) (out ++ vv b p pg) g3 (by omega) hlen (by omega); rw [z6, zbj]; unfold z64; simp only [Int.toNat_natCast, g2, vp]; rw [zT (show (p : Int) < (pgs.length : Int) by omega), zT (show (0 : Int) <= p by omega)]; simp only [zC, zs7, z7]; rw [zd (n := (p : Int) + 1) (by omega) (by omega), zvp (hp pg hmem) (ht pg hmem), z7, <- List.append_assoc, <- ih]; by_cases c1 : 0 <= placeT b p
   · rw [zT c1, zC]; by_cases c2 : (lookT pg).1 = 1
     · rw [zT c2, zC]; have e : vv b p pg = [⟨placeT b p, (lookT pg).2⟩] := by unfold vv; rw [if_pos ⟨c2, c1⟩]
       rw [e] at hlen ⊢; rw [zT (by simp at hlen ⊢; omega), zC, zT (by simp at hlen ⊢; omega), zC]
     · rw [zF c2, zD]; have e : vv b p pg = [] := by unfold vv; rw [if_neg (fun h => c2 h.1)]
       rw [e, List.append_nil]
   · rw [zF c1, zD]; have e : vv b p pg = [] := by unfold vv; rw [if_neg (fun h => c1 h.2)]
     rw [e, List.append_nil]
theorem z04z (b : Nat) : ∀ (l : List Page) (p : Nat), (vp b p l).length <= 16 - min p 16 /\ (32 <= b -> vp b p l = [])
 | [], p => by simp [vp]
 | pg :: l, p => by
   unfold vp; obtain ⟨h1, h2⟩ := z04z b l (p + 1); have hv := z04y b p pg; have hv2 : vv b p pg ≠ [] -> b < 32 /\ p < 16 := fun h => by
    cases hvv : vv b p pg with
    | nil => exact absurd hvv h
    | cons f r => have := zjq (f := f) (by rw [hvv]; simp); omega
   by_cases hvv : vv b p pg = []
   · rw [hvv]; simp only [List.nil_append]; exact ⟨by omega, h2⟩
   · obtain ⟨h3, h4⟩ := hv2 hvv; rw [List.length_append]; exact ⟨by omega, fun h => by omega⟩
theorem z02d {c : Chip} (hc : z0s c) (hp : PagesOk c) (ht : TagsOk c) {M : Nat} (hM : ∀ b ∈ c.blocks, b.pages.length < M) : ∀ (l : List Block) (N b : Nat) (i : Int) (out : List Found), c.blocks.drop b = l -> i = b -> out.length <= min (16 * b) 512 -> (out ++ vb b l).Pairwise (fun x y => x.place < y.place) -> l.length < N ->
 zg (zap M) N (c.blocks, (c.blocks.length : Int), i, out) = some (sortF (out ++ vb b l))
 | l, 0, _, _, _, _, _, _, _, h => by omega
 | [], N + 1, b, i, out, h1, h2, h3, h6, _ => by
   have h4 := zh h1; rw [z6, zbk]; unfold z65; simp only [vb, List.append_nil] at h6 ⊢; rw [zF (by omega), zD, ztd h6, zC, zT (by omega), zC]
 | x :: l, N + 1, b, i, out, h1, h2, h3, h6, h5 => by
   obtain ⟨g1, g2, g3⟩ := zf h1; subst h2; have hmem : x ∈ c.blocks := by rw [<- g2 default]; exact z2f g1
   have hb := hc.1; simp at h5; rw [z6, zbk]; unfold z65; simp only [Int.toNat_natCast, g2, vb]; rw [zT (show (b : Int) < (c.blocks.length : Int) by omega), zT (show (0 : Int) <= b by omega)]; simp only [zC]; rw [z02c (hc.2 x hmem) (by omega) (fun p h => hp x hmem p h) (fun p h => ht x hmem p h) x.pages M 0 0 out rfl rfl (by omega) (hM x hmem), <- List.append_assoc]; obtain ⟨k1, k2⟩ := z04z b x.pages 0; have hlen : (out ++ vp b 0 x.pages).length <= min (16 * (b + 1)) 512 := by
    rw [List.length_append]; by_cases h32 : 32 <= b
    · rw [k2 h32]; simp; omega
    · omega
   exact z02d hc hp ht hM l N (b + 1) _ _ g3 rfl hlen (by rw [List.append_assoc]; exact h6) (by omega)
theorem zj6 {α : Type} (f : α -> Nat) : ∀ (l : List α), ∃ M, ∀ x ∈ l, f x < M
 | [] => ⟨0, fun _ h => by cases h⟩
 | x :: l => by
   obtain ⟨M, h⟩ := zj6 f l; exact ⟨max M (f x + 1), fun y hy => by
    rcases List.mem_cons.1 hy with rfl | hy
    · omega
    · have := h y hy; omega⟩
theorem zz2 {c : Chip} (hc : z0s c) (hp : PagesOk c) (ht : TagsOk c) : zhg c = some (allT c) := by
 obtain ⟨M, hM⟩ := zj6 (fun b : Block => b.pages.length) c.blocks; refine z04 (max M (c.blocks.length + 1)) fun N hN => ?_
 show zdr N c = _; unfold zdr; have := z02d hc hp ht (M := N) (fun b hb => by have := hM b hb; omega) c.blocks N 0 0 [] rfl rfl (by simp) (by rw [List.nil_append]; exact z02b _ 0) (by omega); rw [this, List.nil_append, z043]; unfold allT; rw [zdc]
end Clk
namespace Clk
open Go
def AllP (Q : Page -> Prop) (c : Chip) : Prop := ∀ b ∈ c.blocks, ∀ p ∈ b.pages, Q p
theorem z044 {Q : Page -> Prop} (hz : Q zPage) (n p : Int) (bad : List Int) : AllP Q (newT n p bad).1 := by
 unfold newT; split
 · intro b hb; simp [zChip] at hb
 · rename_i h; obtain ⟨h1, h2⟩ := zuu (n := n) (m := n.toNat) bad (List.replicate n.toNat ⟨List.replicate p.toNat zPage, 0, 0, false⟩) (fun b hb => by
    obtain ⟨_, rfl⟩ := List.mem_replicate.1 hb; exact ⟨by simp; omega, fun q hq => (List.mem_replicate.1 hq).2⟩) (by simp)
   intro b hb q hq; rw [(h1 b hb).2 q hq]; exact hz
theorem z06q : tagOk [] := by
 intro h; exact absurd h (by decide)
theorem zz3 (M : Nat) : (List.range 65).map (fun m : Nat => z75 (M + 8) [-1] (m : Int)) = (List.range 65).map (fun m => some (List.replicate m (-1 : Int))) := by kernel_rfl
theorem z045 {n : Int} (h0 : 0 <= n) (h1 : n <= 64) : z3f ([-1], n) = some (List.replicate n.toNat (-1)) := by
 refine z04 8 fun N hN => ?_
 obtain ⟨M, rfl⟩ : ∃ M, N = M + 8 := ⟨N - 8, by omega⟩; have h := congrArg (fun l => l[n.toNat]?) (zz3 M); have hr : n.toNat < 65 := by omega
 simp only [List.getElem?_map, List.getElem?_range hr, Option.map_some, Option.some.injEq] at h; have e : ((n.toNat : Nat) : Int) = n := by omega
 rw [e] at h; exact h
theorem zte (n : Int) : zcm n = some (tabT n) := by
 show z84 n = _; unfold z84; rw [z045 (by omega) (by omega), z7, z7]; unfold tabT; rw [show (min (max n 0) 64).toNat = min n.toNat 64 by omega]
theorem z02e {t : Table} (h : TabOk t) (f : Found) : TabOk (applyT t f) := by
 obtain ⟨h1, h2⟩ := zhc t f; exact ⟨by rw [h1]; exact h.1, by rw [h2]; exact h.2⟩
theorem zqe : ∀ (l : List Found) (t u : Table) (s : Int), (repL l t s).2 = (repL l u s).2
 | [], t, u, s => rfl
 | f :: l, t, u, s => by unfold repL; exact zqe l _ _ _
theorem zx8 : ∀ (l : List Found) (t : Table) (s r : Int), (repL l t s).1 = (repL l t r).1
 | [], t, s, r => rfl
 | f :: l, t, s, r => by unfold repL; exact zx8 l _ _ _
theorem zoe {xs : List Found} (hs : xs.length < 4294967296) {u : Table} : ∀ (l : List Found) (N k : Nat) (i s : Int), xs.drop k = l -> i = k -> l.length < N -> zg (z3h u) N (s, xs, (xs.length : Int), i) = some (u, (repL l u s).2)
 | l, 0, _, _, _, _, _, h => by omega
 | [], N + 1, k, i, s, h1, h2, _ => by
   have := zh h1; rw [z6, z4z]; unfold z1a; simp only [repL]; rw [zF (by omega), zD]
 | f :: l, N + 1, k, i, s, h1, h2, h4 => by
   obtain ⟨g1, g2, g3⟩ := zf h1; subst h2; rw [z6, z4z]; unfold z1a; simp only [Int.toNat_natCast, g2, repL]; rw [zT (show (k : Int) < xs.length by omega), zT (show (0 : Int) <= k by omega)]; simp only [zC]; rw [zoe hs l N (k + 1) _ _ g3 (by rw [zd (by omega) (by omega)]; omega) (by simp at h4; omega), zqe l u (applyT u f)]
theorem zof {xs : List Found} (hs : xs.length < 4294967296) (hf : z60 xs) {M : Nat} (hM : xs.length < M) : ∀ (l : List Found) (N k : Nat) (i : Int) (t : Table), xs.drop k = l -> i = k -> TabOk t -> l.length < N -> zg (z3i M xs) N (xs, (xs.length : Int), i, t) = some ((repL l t 0).1, (repL xs t 0).2)
 | l, 0, _, _, _, _, _, _, h => by omega
 | [], N + 1, k, i, t, h1, h2, h3, _ => by
   have := zh h1; rw [z6, z51]; unfold z1b; dsimp only; rw [zF (by omega), zD]; exact zoe hs xs M 0 0 0 rfl rfl hM
 | f :: l, N + 1, k, i, t, h1, h2, h3, h4 => by
   obtain ⟨g1, g2, g3⟩ := zf h1; subst h2; have hr : RecOk f.record := by rw [<- g2 default]; exact hf _ (z2f g1)
   rw [z6, z51]; unfold z1b; simp only [Int.toNat_natCast, g2, zms h3 hr, z7]; rw [zT (show (k : Int) < xs.length by omega), zT (show (0 : Int) <= k by omega)]; simp only [zC]; rw [zof hs hf hM l N (k + 1) _ _ g3 (by rw [zd (by omega) (by omega)]; omega) (z02e h3 f) (by simp at h4; omega)]; rw [show (repL (f :: l) t 0).1 = (repL l (applyT t f) 0).1 by rw [repL]; exact zx8 l _ _ _, zqe xs (applyT t f) t]
theorem zma {c : Chip} (hc : z0s c) (hp : PagesOk c) (ht : TagsOk c) (n : Int) : z1l (c, n) = some (replayT c n) := by
 have := zwv c; refine z04 4294967297 fun N hN => ?_
 show z3j N c n = _; unfold z3j; rw [zz2 hc hp ht, z7, zte, z7, zof (xs := allT c) (by omega) (z01t hp) (by omega) (allT c) N 0 0 _ rfl rfl (zut n) (by omega)]; rfl
end Clk
namespace Clk
open Go
theorem ztf : ∀ (l : List Found) (t : Table) (s : Int), (repL l t s).1 = l.foldl applyT t
 | [], t, s => rfl
 | f :: l, t, s => by unfold repL; exact ztf l _ _
theorem z046 {b p : Nat} {pg : Page} {f : Found} (h : f ∈ vv b p pg) : rightT f.record = true := by
 unfold vv at h; split at h
 · rename_i hc; simp at h; subst h; exact zyz hc.1
 · cases h
theorem zx9 (b : Nat) : ∀ (l : List Page) (p : Nat) (f : Found), f ∈ vp b p l -> rightT f.record = true
 | [], p, f, h => by simp [vp] at h
 | pg :: l, p, f, h => by
   unfold vp at h; rcases List.mem_append.1 h with h | h
   · exact z046 h
   · exact zx9 b l (p + 1) f h
theorem zxa : ∀ (l : List Block) (b : Nat) (f : Found), f ∈ vb b l -> rightT f.record = true
 | [], b, f, h => by simp [vb] at h
 | x :: l, b, f, h => by
   unfold vb at h; rcases List.mem_append.1 h with h | h
   · exact zx9 b _ 0 f h
   · exact zxa l (b + 1) f h
theorem z047 (c : Chip) (f : Found) : f ∈ allT c ↔ f ∈ vb 0 c.blocks := by
 unfold allT; rw [zdc, zx6]; simp
end Clk
namespace Clk
open Go
end Clk
namespace Clk
open Go
end Clk
namespace Clk
open Go
def pageT (c : Chip) (place : Int) : Page × Bool :=
 if place < 0 \/ (c.blocks.length : Int) <= place / 16 \/ 32 <= place / 16 \/ ((c.blocks.getD (place / 16).toNat default).pages.length : Int) <= place % 16 then (zPage, false)
 else ((c.blocks.getD (place / 16).toNat default).pages.getD (place % 16).toNat default, true)
def I64 (n : Int) : Prop := -9223372036854775808 <= n /\ n < 9223372036854775808
theorem zvq (c : Chip) {place : Int} (hp : I64 place) : zex (c, place) = some (pageT c place) := by
 obtain ⟨p1, p2⟩ := hp; show zaq c place = _; unfold zaq pageT; by_cases c1 : place < 0
 · rw [zT c1, zC, if_pos (.inl c1)]; rfl
 · rw [zF c1, zD, Int.tdiv_eq_ediv_of_nonneg (by omega), Int.tmod_eq_emod_of_nonneg (by omega), zd (n := place / 16) (by omega) (by omega)]; by_cases c2 : min (c.blocks.length : Int) 32 <= place / 16
   · rw [zT c2, zC, if_pos (by omega)]; rfl
   · rw [zF c2, zD, zT (show 0 <= place / 16 by omega), zT (show place / 16 < (c.blocks.length : Int) by omega)]; simp only [zC]; by_cases c3 : ((c.blocks.getD (place / 16).toNat default).pages.length : Int) <= place % 16
     · rw [zT c3, zC, if_pos (by omega)]; rfl
     · rw [zF c3, zD, zT (show 0 <= place % 16 by omega), zT (show place % 16 < ((c.blocks.getD (place / 16).toNat default).pages.length : Int) by omega), if_neg (by omega)]; rfl
end Clk
namespace Clk
open Go
theorem zqf {x : Bool} {xs : List Bool} (hs : xs.length < 4294967296) : ∀ (l : List Bool) (N k : Nat) (i : Int), xs.drop k = l -> i = k -> l.length < N -> ∃ r, zg z0f N (xs, x, (xs.length : Int), i) = some r /\ (decide (0 <= r) = l.contains x)
 | l, 0, _, _, _, _, h => by omega
 | [], N + 1, k, i, h1, h2, _ => by
   have := zh h1; refine ⟨-1, ?_, by simp⟩; rw [z6, z05]; unfold z0e; dsimp only; rw [zF (by omega), zD]
 | y :: l, N + 1, k, i, h1, h2, h4 => by
   obtain ⟨g1, g2, g3⟩ := zf h1; subst h2; rw [z6, z05]; unfold z0e; simp only [Int.toNat_natCast, g2]; rw [zT (show (k : Int) < xs.length by omega), zT (show (0 : Int) <= k by omega)]; simp only [zC]; by_cases hy : x = y
   · subst hy; exact ⟨k, by simp, by simp⟩
   · obtain ⟨r, k1, k2⟩ := zqf (x := x) hs l N (k + 1) _ g3 (show w64 ((k : Int) + 1) = ((k + 1 : Nat) : Int) by rw [zd (by omega) (by omega)]; omega) (by simp at h4; omega); refine ⟨r, ?_, ?_⟩
     · rw [show (x == y) = false by simpa using hy, zD]; exact k1
     · rw [k2, List.contains_cons]; simp [hy]
theorem zz4 {x : Bool} {xs : List Bool} (hs : xs.length < 4294967296) : z42 (xs, x) = some (xs.contains x) := by
 obtain ⟨r, h1, h2⟩ : ∃ r, z8x (xs, x) = some r /\ decide (0 <= r) = xs.contains x := by
  obtain ⟨r, h1, h2⟩ := zqf (x := x) hs xs (xs.length + 1) 0 0 rfl rfl (by omega); refine ⟨r, z04 (xs.length + 1) fun N hN => ?_, h2⟩; obtain ⟨r', k1, _⟩ := zqf (x := x) hs xs N 0 0 rfl rfl (by omega); show zg z0f N (xs, x, (xs.length : Int), 0) = _; have e : ∀ (l : List Bool) (N M k : Nat) (i : Int), xs.drop k = l -> i = k -> l.length < N -> l.length < M -> zg z0f N (xs, x, (xs.length : Int), i) = zg z0f M (xs, x, (xs.length : Int), i) := by
   intro l; induction l with
   | nil =>
     intro N M k i h1 h2 h3 h4; obtain ⟨N, rfl⟩ : ∃ n, N = n + 1 := ⟨N - 1, by omega⟩; obtain ⟨M, rfl⟩ : ∃ n, M = n + 1 := ⟨M - 1, by omega⟩; have := zh h1; rw [z6, z6, z05, z05]; unfold z0e; dsimp only; rw [zF (by omega), zD]; rfl
   | cons y l ih =>
     intro N M k i h1 h2 h3 h4; obtain ⟨N, rfl⟩ : ∃ n, N = n + 1 := ⟨N - 1, by omega⟩; obtain ⟨M, rfl⟩ : ∃ n, M = n + 1 := ⟨M - 1, by omega⟩; obtain ⟨g1, g2, g3⟩ := zf h1; subst h2; rw [z6, z6, z05, z05]; unfold z0e; dsimp only; rw [ih N M (k + 1) (w64 ((k : Int) + 1)) g3 (by rw [zd (by omega) (by omega)]; omega) (by simp at h3; omega) (by simp at h4; omega)]
  rw [e xs N (xs.length + 1) 0 0 rfl rfl (by omega) (by omega)]; exact h1
 show z1z xs x = _; unfold z1z; rw [h1, z7, h2]
theorem zjr (a b c : Int) : z20 (a, b, c) = some (decide (b <= a) && decide (a <= c)) := by
 show z67 a b c = _; unfold z67; by_cases h : b <= a
 · rw [zT h, zC, Bool.true_and]
 · rw [zF h, zD, Bool.false_and]
theorem z08b (l : List Bool) (h : l.length < 4294967296) : zhh l = some (!l.contains false) := by
 show zds l = _; unfold zds; rw [zz4 h, z7]
theorem z7d (g : Geometry) : z0w g = some (fitsT g) := by
 show zar g = _; rw [<- zwz g]; show _ = z2w g; unfold zar z2w; rw [zjr, z7, zjr, z7, zjr, z7, zjr, z7, z08b _ (by simp), z7]; by_cases c1 : 1 <= g.blocks <;> by_cases c2 : g.blocks <= 32 <;> by_cases c3 : 2 <= g.pages <;> by_cases c4 : g.pages <= 16 <;> by_cases c5 : 1 <= g.sectors <;> by_cases c6 : g.sectors <= 64 <;> by_cases c7 : 0 <= g.spare <;> by_cases c8 : g.spare <= 32 <;> simp [c1, c2, c3, c4, c5, c6, c7, c8]
theorem z02f (c : Chip) : zco c = some (onT c) := rfl
theorem zxb {c : Chip} (hc : z0s c) : ∀ (l : List Block) (N k : Nat) (i s : Int), c.blocks.drop k = l -> i = k -> 0 <= s -> s <= k -> l.length < N -> zg z8y N (s, c.blocks, (c.blocks.length : Int), i) = some (s + badsL l)
 | l, 0, _, _, _, _, _, _, _, h => by omega
 | [], N + 1, k, i, s, h1, h2, h3, h4, _ => by
   have := zh h1; rw [z6, z9t]; unfold z4s; simp only [badsL, Int.add_zero]; rw [zF (by omega), zD]
 | x :: l, N + 1, k, i, s, h1, h2, h3, h4, h5 => by
   obtain ⟨g1, g2, g3⟩ := zf h1; have hl := hc.1; subst h2; have e1 : w64 ((k : Int) + 1) = ((k + 1 : Nat) : Int) := by rw [zd (by omega) (by omega)]; rfl
   have ih := fun s' h h' => zxb hc l N (k + 1) _ s' g3 rfl h h' (by simp at h5; omega)
   rw [z6, z9t]; unfold z4s; simp only [Int.toNat_natCast, g2, badsL, e1]; rw [zT (show (k : Int) < c.blocks.length by omega), zT (show (0 : Int) <= k by omega)]; simp only [zC]; cases hb : x.bad with
   | true => rw [zC, if_pos rfl, zd (n := s + 1) (by omega) (by omega), ih (s + 1) (by omega) (by omega)]; congr 1; omega
   | false => rw [zD, if_neg (by simp), ih s (by omega) (by omega)]; congr 1; omega
theorem zmb {c : Chip} (hc : z0s c) : zau c = some (badsT c) := by
 have := hc.1; refine z04 4294967297 fun N hN => ?_
 have := zxb hc c.blocks N 0 0 0 rfl rfl (by omega) (by omega) (by omega); rw [Int.zero_add] at this; exact this
def oddB (g : Geometry) (b : Block) : Bool := !(decide ((b.pages.length : Int) = g.pages))
def openB (g : Geometry) (b : Block) : Bool := !b.bad && decide (0 < b.next) && decide (b.next < g.pages)
def findO (g : Geometry) : Nat -> List Block -> Int
 | _, [] => -1
 | i, b :: l => if openB g b = true then (i : Int) else findO g (i + 1) l
theorem zxc {g : Geometry} : ∀ (l : List Block) (i : Nat) (o : Int), l.any (oddB g) = true -> mtL g i l o = none
 | [], i, o, h => by simp at h
 | b :: l, i, o, h => by
   unfold mtL; by_cases hb : (b.pages.length : Int) = g.pages
   · rw [if_neg (by simp [hb])]; refine zxc l _ _ ?_; simpa [oddB, hb] using h
   · rw [if_pos hb]
theorem zxd {g : Geometry} : ∀ (l : List Block) (i : Nat) (o : Int), l.any (oddB g) = false -> mtL g i l o = some (if o < 0 then (if findO g i l = -1 then o else findO g i l) else o)
 | [], i, o, h => by simp [mtL, findO]
 | b :: l, i, o, h => by
   unfold mtL findO; have hb : (b.pages.length : Int) = g.pages := by
    rw [List.any_cons, Bool.or_eq_false_iff] at h; have := h.1; unfold oddB at this; simpa using this
   have h2 : l.any (oddB g) = false := by rw [List.any_cons, Bool.or_eq_false_iff] at h; exact h.2
   rw [if_neg (by simp [hb]), zxd l _ _ h2]; by_cases ho : o < 0
   · by_cases hop : openB g b = true
     · have hop' := hop; unfold openB at hop; simp at hop; have e : (if o < 0 /\ b.bad = false /\ 0 < b.next /\ b.next < g.pages then (i : Int) else o) = i := if_pos ⟨ho, hop.1.1, hop.1.2, hop.2⟩; rw [e, if_neg (show ¬ (i : Int) < 0 by omega), if_pos ho, if_pos hop', if_neg (by omega)]
     · have e : (if o < 0 /\ b.bad = false /\ 0 < b.next /\ b.next < g.pages then (i : Int) else o) = o := if_neg fun ⟨_, h1, h2, h3⟩ => hop (by unfold openB; simp [h1, h2, h3])
       rw [e, if_neg hop]
   · have e : (if o < 0 /\ b.bad = false /\ 0 < b.next /\ b.next < g.pages then (i : Int) else o) = o := if_neg fun h => ho h.1
     rw [e, if_neg ho, if_neg ho]
theorem ztg {g : Geometry} {bs : List Block} (hs : bs.length < 4294967296) {d : Device} : ∀ (l : List Block) (N k : Nat) (i : Int), bs.drop k = l -> i = k -> l.length < N -> zg z1m N (bs, (bs.length : Int), i, g, d) = some (⟨d.geometry, d.chip, d.table, d.seq, findO g k l⟩, 0)
 | l, 0, _, _, _, _, h => by omega
 | [], N + 1, k, i, h1, h2, _ => by
   have := zh h1; rw [z6, z86]; unfold z3k findO; dsimp only; rw [zF (by omega), zD]
 | b :: l, N + 1, k, i, h1, h2, h4 => by
   obtain ⟨g1, g2, g3⟩ := zf h1; subst h2; have e1 : w64 ((k : Int) + 1) = ((k + 1 : Nat) : Int) := by rw [zd (by omega) (by omega)]; omega
   have ih := ztg (g := g) hs (d := d) l N (k + 1) _ g3 rfl (by simp at h4; omega); rw [z6, z86]; unfold z3k findO openB; simp only [Int.toNat_natCast, g2]; rw [zT (show (k : Int) < bs.length by omega), zT (show (0 : Int) <= k by omega), e1, ih]; simp only [zC]; cases b.bad <;> by_cases c1 : 0 < b.next <;> by_cases c2 : b.next < g.pages <;> simp [c1, c2]
theorem zth {g : Geometry} {c : Chip} (hc : z0s c) {N0 : Nat} {R : Device × Int} (hR : (Option.bind (zco c) fun r8 => Option.bind (z1l (c, g.sectors)) fun r9 => zg z1m N0 (c.blocks, (c.blocks.length : Int), 0, g, (Device.mk g r8 r9.1 r9.2 (-1)))) = some R) : ∀ (l : List Block) (N k : Nat) (i : Int), c.blocks.drop k = l -> i = k -> l.length < N -> zg (z79 N0) N (c.blocks, (c.blocks.length : Int), i, g, c) = some (if l.any (oddB g) = true then (zDev, 1) else R)
 | l, 0, _, _, _, _, h => by omega
 | [], N + 1, k, i, h1, h2, _ => by
   have := zh h1; rw [z6, z87]; unfold z3l; dsimp only; rw [zF (by omega), zD, hR]; rfl
 | b :: l, N + 1, k, i, h1, h2, h4 => by
   have hl := hc.1; obtain ⟨g1, g2, g3⟩ := zf h1; subst h2; have e1 : w64 ((k : Int) + 1) = ((k + 1 : Nat) : Int) := by rw [zd (by omega) (by omega)]; omega
   have ih := zth (g := g) hc hR l N (k + 1) _ g3 rfl (by simp at h4; omega); rw [z6, z87]; unfold z3l; simp only [Int.toNat_natCast, g2]; rw [zT (show (k : Int) < c.blocks.length by omega), zT (show (0 : Int) <= k by omega), e1, ih]; simp only [zC]; by_cases hb : (b.pages.length : Int) = g.pages
   · rw [zT hb, Bool.not_true, zD, List.any_cons, show oddB g b = false by unfold oddB; rw [zT hb]; rfl, Bool.false_or]
   · rw [zF hb, Bool.not_false, zC, List.any_cons, show oddB g b = true by unfold oddB; rw [zF hb]; rfl, Bool.true_or]; rfl
theorem zj7 {g : Geometry} {c : Chip} (hc : z0s c) (hp : PagesOk c) (ht : TagsOk c) : z89 (g, c) = some (mountT g c) := by
 have hl := hc.1; refine z04 4294967297 fun N hN => ?_
 show z88 N g c = _; unfold z88 mountT; rw [z7d, z7]; cases fitsT g with
 | false => rfl
 | true =>
   rw [Bool.not_true, zD]; by_cases c1 : (c.blocks.length : Int) = g.blocks
   · rw [zT c1, Bool.not_true, zD, if_neg (by simp [c1])]; rw [zth hc (by rw [z02f, z7, zma hc hp ht, z7, ztg (by omega) c.blocks N 0 0 rfl rfl (by omega)]) c.blocks N 0 0 rfl rfl (by omega)]; cases ha : c.blocks.any (oddB g) with
     | true => rw [if_pos rfl, zxc _ _ _ ha]
     | false =>
       rw [if_neg (by simp), zxd _ _ _ ha]; simp only [show ((-1 : Int) < 0) from by decide, if_true]; by_cases hf : findO g 0 c.blocks = -1
       · rw [if_pos hf, hf]
       · rw [if_neg hf]
   · rw [zF c1, Bool.not_false, zC, if_pos (.inr c1)]; rfl
def outB (n x : Int) : Bool := decide (x < 0) || decide (n <= x)
theorem zqg {n : Int} : ∀ (l : List Int) (bs : List Block), l.any (outB n) = true -> newL n l bs = (zChip, 1)
 | [], bs, h => by simp at h
 | x :: l, bs, h => by
   unfold newL; by_cases hx : x < 0 \/ n <= x
   · rw [if_pos hx]
   · rw [if_neg hx]; refine zqg l _ ?_; rw [List.any_cons] at h; have : outB n x = false := by unfold outB; simp; omega
     rwa [this, Bool.false_or] at h
theorem z048 (xs : List Block) (i : Nat) (v : Bool) : (bBad xs i v).length = xs.length := by unfold bBad; simp
theorem z02g {n : Int} {bad : List Int} (hb : bad.length < 4294967296) : ∀ (l : List Int) (N k : Nat) (i : Int) (bs : List Block), bad.drop k = l -> i = k -> (bs.length : Int) = n -> l.any (outB n) = false -> l.length < N -> zg zas N (bad, (bad.length : Int), i, bs, false, false, 0) = some (newL n l bs)
 | l, 0, _, _, _, _, _, _, _, h => by omega
 | [], N + 1, k, i, bs, h1, h2, h3, _, _ => by
   have := zh h1; rw [z6, zbl]; unfold z68 newL; dsimp only; rw [zF (by omega), zD]
 | x :: l, N + 1, k, i, bs, h1, h2, h3, h4, h5 => by
   obtain ⟨g1, g2, g3⟩ := zf h1; subst h2; rw [List.any_cons, Bool.or_eq_false_iff] at h4; have hx : 0 <= x /\ x < n := by have := h4.1; unfold outB at this; simp at this; omega
   rw [z6, zbl]; unfold z68 newL; simp only [Int.toNat_natCast, g2]; rw [zT (show (k : Int) < bad.length by omega), zT (show (0 : Int) <= k by omega), zT hx.1, zT (show x < (bs.length : Int) by omega), zT (show x.toNat < bs.length by omega), if_neg (by omega)]; simp only [zC]; exact z02g hb l N (k + 1) _ _ g3 (by rw [zd (by omega) (by omega)]; omega) (by rw [z048]; exact h3) h4.2 (by simp at h5; omega)
def bl0 (p : Int) : Block := ⟨List.replicate p.toNat zPage, 0, 0, false⟩
theorem z02h {n p : Int} {bad : List Int} (hb : bad.length < 4294967296) (hn : n <= 32) (hp : 1 <= p) (hp2 : p <= 16) (hg : bad.any (outB n) = false) {M : Nat} (hM : bad.length < M) : ∀ (m N k : Nat) (i : Int), (k : Int) + m = n -> i = k -> m < N -> zg (z3m M) N (p, bad, n, i, List.replicate k (bl0 p) ++ List.replicate m default, false, false, 0) = some (newL n bad (List.replicate n.toNat (bl0 p)))
 | m, 0, _, _, _, _, h => by omega
 | 0, N + 1, k, i, h1, h2, _ => by
   rw [z6, zbm]; unfold z69; dsimp only; rw [zF (by omega), zD, List.replicate_zero, List.append_nil, show k = n.toNat by omega]; exact z02g hb bad M 0 0 _ rfl rfl (by simp; omega) hg (by omega)
 | m + 1, N + 1, k, i, h1, h2, h3 => by
   subst h2; rw [z6, zbm]; unfold z69; simp only [Int.toNat_natCast, List.length_append, List.length_replicate]; rw [zT (show (k : Int) < n by omega), zT (show 0 <= p by omega), zT (Int.le_refl p), zT (show p * 40 <= 70368744177664 by omega), zT (show p <= 70368744177664 by omega), zT (show (0 : Int) <= k by omega), zT (show (k : Int) < ((k + (m + 1) : Nat) : Int) by omega), zT (show k < k + (m + 1) by omega)]; simp only [zC]; have e : bPages (List.replicate k (bl0 p) ++ List.replicate (m + 1) default) k (List.replicate p.toNat default) = List.replicate (k + 1) (bl0 p) ++ List.replicate m default := by
    unfold bPages; have e1 : (List.replicate k (bl0 p) ++ List.replicate (m + 1) (default : Block)).getD k default = default := by
     rw [zI, List.getElem?_append_right (by simp)]; simp
    rw [e1, List.set_append_right _ _ (by simp)]; simp only [List.length_replicate, Nat.sub_self, List.replicate_succ, List.set_cons_zero]; rw [<- List.replicate_succ, List.replicate_succ', List.append_assoc]; rfl
   rw [e]; exact z02h hb hn hp hp2 hg hM m N (k + 1) _ (by omega) (by rw [zd (by omega) (by omega)]; omega) (by omega)
theorem z02i {n p : Int} {bad : List Int} (hb : bad.length < 4294967296) (hn1 : 1 <= n) (hn : n <= 32) (hp : 1 <= p) (hp2 : p <= 16) {M : Nat} (hM : bad.length + 33 < M) : ∀ (l : List Int) (N k : Nat) (i : Int), bad.drop k = l -> i = k -> l.length < N -> (l.any (outB n) = false -> bad.any (outB n) = false) -> (l.any (outB n) = true -> bad.any (outB n) = true) -> zg (zat M p bad) N (bad, (bad.length : Int), i, n) = some (newL n bad (List.replicate n.toNat (bl0 p)))
 | l, 0, _, _, _, _, h, _, _ => by omega
 | [], N + 1, k, i, h1, h2, _, hf, _ => by
   have := zh h1; rw [z6, zbn]; unfold z6a; dsimp only; rw [zF (by omega), zD, zT (show 0 <= n by omega), zT (Int.le_refl n), zT (show n * 48 <= 70368744177664 by omega), zT (show n <= 70368744177664 by omega)]; simp only [zC, List.length_replicate]; rw [show ((n.toNat : Nat) : Int) = n by omega]; exact z02h hb hn hp hp2 (hf rfl) (by omega) n.toNat M 0 0 (by omega) rfl (by omega)
 | x :: l, N + 1, k, i, h1, h2, h3, hf, ht => by
   obtain ⟨g1, g2, g3⟩ := zf h1; subst h2; rw [z6, zbn]; unfold z6a; simp only [Int.toNat_natCast, g2]; rw [zT (show (k : Int) < bad.length by omega), zT (show (0 : Int) <= k by omega)]; simp only [zC]; by_cases c1 : x < 0
   · rw [zT c1, zC, zqg _ _ (ht (by rw [List.any_cons]; unfold outB; rw [zT c1]; rfl))]; rfl
   · rw [zF c1, zD]; by_cases c2 : n <= x
     · rw [zT c2, zC, zqg _ _ (ht (by rw [List.any_cons]; unfold outB; rw [zT c2, Bool.or_true, Bool.true_or]))]; rfl
     · rw [zF c2, zD]; have ho : outB n x = false := by unfold outB; rw [zF c1, zF c2]; rfl
       rw [List.any_cons, ho, Bool.false_or] at hf ht; exact z02i hb hn1 hn hp hp2 hM l N (k + 1) _ g3 (by rw [zd (by omega) (by omega)]; omega) (by simp at h3; omega) hf ht
theorem zz5 {n p : Int} {bad : List Int} (hb : bad.length < 4294967296) : zhi (n, p, bad) = some (newT n p bad) := by
 refine z04 (bad.length + 34) fun N hN => ?_
 show zdt N n p bad = _; unfold zdt newT; by_cases c1 : n < 1
 · rw [zT c1, zC, if_pos (.inl c1)]; rfl
 · rw [zF c1, zD]; by_cases c2 : 32 < n
   · rw [zT c2, zC, if_pos (.inr (.inl c2))]; rfl
   · rw [zF c2, zD]; by_cases c3 : p < 1
     · rw [zT c3, zC, if_pos (.inr (.inr (.inl c3)))]; rfl
     · rw [zF c3, zD]; by_cases c4 : 16 < p
       · rw [zT c4, zC, if_pos (.inr (.inr (.inr c4)))]; rfl
       · rw [zF c4, zD, if_neg (by omega)]; exact z02i hb (by omega) (by omega) (by omega) (by omega) hN bad N 0 0 rfl rfl (by omega) (fun h => h) (fun h => h)
theorem zb9 {g : Geometry} {bad : List Int} (hb : bad.length < 4294967296) : z0x (g, bad) = some (formatT g bad) := by
 obtain ⟨hc, hp⟩ := zuv g.blocks g.pages bad; show z6b g bad = _; unfold z6b formatT; rw [z7d, z7]; cases fitsT g with
 | false => rfl
 | true =>
   rw [Bool.not_true, zD, zz5 hb, z7]; by_cases c1 : (newT g.blocks g.pages bad).2 = 0
   · rw [zT c1, Bool.not_true, zD, zmb hc, z7]; by_cases c2 : g.spare < badsT (newT g.blocks g.pages bad).1
     · rw [zT c2, zC, if_pos (.inr (.inr c2))]; rfl
     · rw [zF c2, zD, if_neg (by simp [c1]; omega), zj7 hc hp (z044 z06q _ _ _), z7]
   · rw [zF c1, Bool.not_false, zC, if_pos (.inr (.inl c1))]; rfl
def hasT (c : Chip) (t : Table) (s : Int) : Str := if s < 0 \/ (t.map.length : Int) <= s then [] else (pageT c (t.map.getD s.toNat 0)).1.data
def MapR (t : Table) : Prop := ∀ v ∈ t.map, I64 v
theorem zz6 {c : Chip} {t : Table} (h : MapR t) (s : Int) : zhj (c, t, s) = some (hasT c t s) := by
 show zdu c t s = _; unfold zdu hasT; by_cases c1 : s < 0
 · rw [zT c1, zC, if_pos (.inl c1)]
 · rw [zF c1, zD]; by_cases c2 : (t.map.length : Int) <= s
   · rw [zT c2, zC, if_pos (.inr c2)]
   · rw [zF c2, zD, zT (show 0 <= s by omega), zT (show s < (t.map.length : Int) by omega), if_neg (by omega), zvq _ (h _ (z2f (by omega))), z7]; rfl
def allD (d : Device) : List Str := (List.range d.table.map.length).map fun s : Nat => hasT d.chip d.table s
theorem z02j {d : Device} (h : MapR d.table) (hl : d.table.map.length < 4294967296) : ∀ (m N k : Nat) (i : Int), k + m = d.table.map.length -> i = k -> m < N -> zg zav N ((d.table.map.length : Int), i, d, ((List.range k).map fun s : Nat => hasT d.chip d.table s) ++ List.replicate m []) = some (allD d)
 | m, 0, _, _, _, _, h => by omega
 | 0, N + 1, k, i, h1, h2, _ => by
   rw [z6, zbo]; unfold z6c allD; dsimp only; rw [zF (by omega), zD, List.replicate_zero, List.append_nil, show k = d.table.map.length by omega]
 | m + 1, N + 1, k, i, h1, h2, h3 => by
   subst h2; rw [z6, zbo]; unfold z6c; simp only [Int.toNat_natCast, List.length_append, List.length_map, List.length_range, List.length_replicate]; rw [zT (show (k : Int) < (d.table.map.length : Int) by omega), zC, zz6 h, z7, zT (show (0 : Int) <= k by omega), zT (show (k : Int) < ((k + (m + 1) : Nat) : Int) by omega), zT (show k < k + (m + 1) by omega)]; simp only [zC]; have e : (((List.range k).map fun s : Nat => hasT d.chip d.table s) ++ List.replicate (m + 1) []).set k (hasT d.chip d.table k) = ((List.range (k + 1)).map fun s : Nat => hasT d.chip d.table s) ++ List.replicate m [] := by
    rw [List.set_append_right _ _ (by simp)]; simp only [List.length_map, List.length_range, Nat.sub_self, List.replicate_succ, List.set_cons_zero, List.range_succ, List.map_append, List.map_cons, List.map_nil, List.append_assoc, List.cons_append, List.nil_append]
   rw [e]; exact z02j h hl m N (k + 1) _ (by omega) (by rw [zd (by omega) (by omega)]; omega) (by omega)
theorem zz7 {d : Device} (h : MapR d.table) (hl : d.table.map.length < 4294967296) : zhk d = some (allD d) := by
 refine z04 (d.table.map.length + 1) fun N hN => ?_
 show zdv N d = _; unfold zdv; simp only [Int.toNat_natCast, List.length_replicate]; rw [zT (by omega), zT (by omega), zT (by omega), zT (by omega)]; simp only [zC]; exact z02j h hl d.table.map.length N 0 0 (by omega) rfl (by omega)
def resT (d : Device) : Int := 2 + 2 * max (d.geometry.spare - badsT d.chip) 0
theorem zz8 {c : Chip} (hc : z0s c) : 0 <= badsT c /\ badsT c < 4294967296 := by
 have := zx0 c.blocks; have := hc.1; unfold badsT; omega
theorem znf {d : Device} (hc : z0s d.chip) (hg : 0 <= d.geometry.spare /\ d.geometry.spare < 4294967296) : z8z d = some (resT d) := by
 have := zz8 hc; show z4t d = _; unfold z4t resT; rw [zmb hc, z7, zd (n := d.geometry.spare - badsT d.chip) (by omega) (by omega), zd (n := 2 * max (d.geometry.spare - badsT d.chip) 0) (by omega) (by omega), zd (by omega) (by omega)]
theorem z07j {f : Found} {i : Nat} {k : Int} {t : Table} (hf : I64 f.place) (hv : ∀ v ∈ f.record.values, I64 v) (h : MapR t) : MapR (app1 f i k t) := by
 unfold app1; split
 · split
   · intro v hm; rcases List.mem_or_eq_of_mem_set hm with h1 | rfl
     · exact h v h1
     · exact hf
   · split
     · rename_i hc; intro v hm; rcases List.mem_or_eq_of_mem_set hm with h1 | rfl
       · exact h v h1
       · exact hv _ (z2f hc.2)
     · exact h
 · exact h
theorem z050 {f : Found} (hf : I64 f.place) (hv : ∀ v ∈ f.record.values, I64 v) : ∀ (l : List Int) (i : Nat) (t : Table), MapR t -> MapR (appL f i l t)
 | [], i, t, h => h
 | k :: l, i, t, h => z050 hf hv l (i + 1) _ (z07j hf hv h)
theorem z02k : ∀ (l : List Found) (t : Table), (∀ f ∈ l, I64 f.place /\ ∀ v ∈ f.record.values, I64 v) -> MapR t -> MapR (l.foldl applyT t)
 | [], t, _, h => h
 | f :: l, t, hl, h => z02k l _ (fun g hg => hl g (List.mem_cons_of_mem _ hg)) (z050 (hl f List.mem_cons_self).1 (hl f List.mem_cons_self).2 _ 0 t h)
theorem zz9 {r : Record} (h : rightT r = true) : ∀ v ∈ r.values, I64 v := by
 intro v hv; unfold rightT at h; simp only [Bool.and_eq_true] at h; have h2 := h.2; split at h2
 · have : r.values = [] := by simpa using h2
   rw [this] at hv; cases hv
 · simp only [Bool.and_eq_true] at h2; have := List.all_eq_true.1 h2.1.1 v hv; unfold vr at this; simp at this; exact ⟨by omega, by omega⟩
theorem zti : ∀ (l : List Block) (b : Nat) (f : Found), f ∈ vb b l -> 0 <= f.place /\ f.place < 512
 | [], b, f, h => by simp [vb] at h
 | x :: l, b, f, h => by
   unfold vb at h; rcases List.mem_append.1 h with h | h
   · obtain ⟨q, _, h2, h3, h4⟩ := zgk h; omega
   · exact zti l _ f h
theorem z049 (c : Chip) (n : Int) : MapR (replayT c n).1 := by
 unfold replayT; rw [ztf]; refine z02k _ _ (fun f hf => ?_) (fun v hv => ?_)
 · have hm := (z047 c f).1 hf; have := zti _ _ _ hm; exact ⟨⟨by omega, by omega⟩, zz9 (zxa _ _ _ hm)⟩
 · unfold tabT at hv; rw [(List.mem_replicate.1 hv).2]; exact ⟨by omega, by omega⟩
theorem z06r (g : Geometry) (c : Chip) : MapR (mountT g c).1.table := by
 unfold mountT; split
 · intro v hv; simp [zDev] at hv
 · split
   · intro v hv; simp [zDev] at hv
   · exact z049 c _
theorem z04a (g : Geometry) (bad : List Int) : MapR (formatT g bad).1.table := by
 unfold formatT; split
 · intro v hv; simp [zDev] at hv
 · exact z06r _ _
end Clk
namespace Clk
open Go
theorem zvr (g : Geometry) (c : Chip) : 0 <= (mountT g c).1.geometry.spare /\ (mountT g c).1.geometry.spare < 4294967296 := by
 unfold mountT; split
 · exact ⟨by simp [zDev], by simp [zDev]⟩
 · rename_i h; have hf : fitsT g = true := by
    cases hg : fitsT g with
    | true => rfl
    | false => exact absurd (.inl hg) h
   unfold fitsT at hf; simp at hf; split
   · exact ⟨by simp [zDev], by simp [zDev]⟩
   · exact ⟨hf.1.1.2, by show g.spare < _; omega⟩
theorem ztj (g : Geometry) (bad : List Int) : 0 <= (formatT g bad).1.geometry.spare /\ (formatT g bad).1.geometry.spare < 4294967296 := by
 unfold formatT; split
 · exact ⟨by simp [zDev], by simp [zDev]⟩
 · exact zvr _ _
def zxe : Bool :=
 let d := formatT (smallT 0) [2]
 let l := allD d.1
 fitsT (smallT 0) && !(fitsT ⟨0, 0, 0, 0⟩) && decide (d.2 = 0) && decide ((formatT (smallT 0) [2, 3]).2 = 1) && decide ((mountT (smallT 0) ⟨[], false, false, 0⟩).2 = 1) && decide (l.length = 5) && decide (l.getD 0 [] = []) && decide (d.1.opn = -1) && decide (resT d.1 = 2) && decide (d.1.chip.blocks.length = 8)
theorem zza : zxe = true := by kernel_rfl
theorem zqh : z3n () = some true := by
 have h := zza; unfold zxe at h; simp only [Bool.and_eq_true, decide_eq_true_eq, Bool.not_eq_true'] at h; obtain ⟨⟨⟨⟨⟨⟨⟨⟨⟨a1, a2⟩, a3⟩, a4⟩, a5⟩, a6⟩, a7⟩, a8⟩, a9⟩, a10⟩ := h; have hd := zo7 (g := smallT 0) (bad := [2]); have hm := hd.2.1; show z6d = _; unfold z6d; rw [z06g (by decide) (by decide), z7, zb9 (by simp), z7, zb9 (by simp), z7, zj7 ⟨by simp, fun b hb => by simp at hb⟩ (fun b hb => by simp at hb) (fun b hb => by simp at hb), z7, zz7 (z04a _ _) hm, z7, z7d, z7, z7d, z7, znf hd.1 (ztj _ _), z7]; rw [a1, a2, a3, a4, a5, a6, a7, a8, a9, a10]; rfl
theorem zxf {g : Geometry} {bad : List Int} (hb : bad.length < 4294967296) : (Option.bind (z0x (g, bad)) fun r11 =>
 Option.bind (z2e (g, bad)) fun r12 =>
 Option.bind (z3n ()) fun r13 =>
 cond r13
  (Option.bind (z0w g) fun r14 =>
  Option.bind (z1j g) fun r15 =>
  cond (r14 == r15)
   (Option.bind (z4x (r11.1, r12.1)) fun r16 =>
   cond r16
    (some (decide (r11.2 = r12.2)))
    (some false))
   (some false))
  (some false)) = some true := by
 rw [zb9 hb, z7, z03x hb, z7, zqh, z7, zC, z7d, z7, zwz, z7, beq_self_eq_true, zC, zsc (zo7 (g := g) (bad := bad)), z7, zT rfl, zC, zT rfl]
theorem z02l {g : Geometry} {l : List Int} : ∀ (m N k : Nat) (i : Int) (bad : List Int), k + m = 6 -> i = k -> bad.length <= k -> m < N -> zg z2r N (l, i, g, bad) = some true
 | m, 0, _, _, _, _, _, _, h => by omega
 | m, N + 1, k, i, bad, h1, h2, h3, h4 => by
   subst h2; rw [z6, zbs]; unfold z2q; dsimp only; by_cases c1 : (k : Int) < (l.length : Int)
   · rw [zT c1, zC]; by_cases c2 : (k : Int) < 6
     · obtain ⟨m, rfl⟩ : ∃ m', m = m' + 1 := ⟨m - 1, by omega⟩; rw [zT c2, zC, zT (show (0 : Int) <= k by omega), zT (by simp only [List.length_cons, List.length_nil]; omega), zT (by simp only [List.length_cons, List.length_nil]; omega)]; simp only [zC]; exact z02l m N (k + 1) _ _ (by omega) (by rw [zd (by omega) (by omega)]; omega) (by simp; omega) (by omega)
     · rw [zF c2, zD]; exact zxf (by omega)
   · rw [zF c1, zD]; exact zxf (by omega)
theorem ztk (a b c d : Int) (l : List Int) : z5d (a, b, c, d, l) = some true := by
 refine z04 7 fun N hN => ?_
 exact z02l 6 N 0 0 [] rfl rfl (by simp) (by omega)
end Clk
