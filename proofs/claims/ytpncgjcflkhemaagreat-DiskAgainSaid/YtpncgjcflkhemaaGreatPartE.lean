/- A part of the proof of DiskAgain: an evaluator of the program's code that the kernel runs, its soundness, what the functions compute. -/
import Derived.Test.YtpncgjcflkhemaaGreatPartD
import Derived.Test.YtpncgjcflkhemaaGreatProg
import Derived.Shelf.SlSortCmp.InsertionK
import Derived.CallsIn
import Derived.Shelf.SlSortCmp.NoneTotal
import Derived.Ground.SlsfProg
import Derived.WalkKit
import Derived.StillTailTactics
import Derived.WalkSmall
import Derived.Tactics
import Derived.Tactics2
import Derived.Defers
import Derived.Recover
import Derived.BigRegion
import Derived.Deep.RegionHeld3
import Derived.KernelRfl
import Derived.IntWalk
set_option linter.unusedVariables false
set_option linter.unusedSimpArgs false
set_option maxRecDepth 1000000
namespace Go.Proofs.YtpncgjcflkhemaaGreat
open Clk Go.Proofs
noncomputable def tiL : List (Option TI) := [
 none,
 some ⟨1, 8, .func, .nilFunc⟩,
 some ⟨1, 8, (.int .i64), (.int .i64 0)⟩,
 some ⟨1, 8, (.int .i64), (.int .i64 0)⟩,
 some ⟨1, 1, .bool, (.bool false)⟩,
 some ⟨1, 1, (.int .u8), (.int .u8 0)⟩,
 some ⟨1, 1, (.int .u8), (.int .u8 0)⟩,
 some ⟨4, 24, (.struct [(0, 2), (1, 3), (2, 4), (3, 6)]), (.agg [(.int .i64 0), (.int .i64 0), (.bool false), (.int .u8 0)])⟩,
 some ⟨4, 24, (.struct [(0, 2), (1, 3), (2, 4), (3, 6)]), (.agg [(.int .i64 0), (.int .i64 0), (.bool false), (.int .u8 0)])⟩,
 some ⟨1, 16, .string, (.str ⟨#[]⟩)⟩,
 some ⟨1, 16, .string, (.str ⟨#[]⟩)⟩,
 some ⟨1, 16, .string, (.str ⟨#[]⟩)⟩,
 some ⟨1, 8, (.int .u64), (.int .u64 0)⟩,
 some ⟨2, 24, (.struct [(0, 9), (1, 12)]), (.agg [(.str ⟨#[]⟩), (.int .u64 0)])⟩,
 some ⟨2, 24, (.struct [(0, 9), (1, 12)]), (.agg [(.str ⟨#[]⟩), (.int .u64 0)])⟩,
 some ⟨1, 8, (.pointer 177), .nilPtr⟩,
 some ⟨1, 8, (.pointer 180), .nilPtr⟩,
 some ⟨1, 8, (.pointer 189), .nilPtr⟩,
 some ⟨1, 8, (.struct [(0, 17)]), (.agg [.nilPtr])⟩,
 some ⟨1, 8, (.struct [(0, 17)]), (.agg [.nilPtr])⟩,
 some ⟨1, 16, .iface, .nilIface⟩,
 some ⟨1, 4, (.int .i32), (.int .i32 0)⟩,
 some ⟨1, 24, (.slice 5), (.crows [])⟩,
 some ⟨4, 32, (.struct [(0, 3), (1, 3), (2, 3), (3, 3)]), (.agg [(.int .i64 0), (.int .i64 0), (.int .i64 0), (.int .i64 0)])⟩,
 some ⟨4, 32, (.struct [(0, 3), (1, 3), (2, 3), (3, 3)]), (.agg [(.int .i64 0), (.int .i64 0), (.int .i64 0), (.int .i64 0)])⟩,
 some ⟨1, 24, (.slice 3), (.crows [])⟩,
 some ⟨1, 24, (.slice 68), (.crows [])⟩,
 some ⟨4, 40, (.struct [(0, 26), (1, 4), (2, 4), (3, 3)]), (.agg [(.crows []), (.bool false), (.bool false), (.int .i64 0)])⟩,
 some ⟨4, 40, (.struct [(0, 26), (1, 4), (2, 4), (3, 3)]), (.agg [(.crows []), (.bool false), (.bool false), (.int .i64 0)])⟩,
 some ⟨2, 48, (.struct [(0, 25), (1, 25)]), (.agg [(.crows []), (.crows [])])⟩,
 some ⟨2, 48, (.struct [(0, 25), (1, 25)]), (.agg [(.crows []), (.crows [])])⟩,
 some ⟨12, 136, (.struct [(0, 24), (4, 28), (8, 30), (10, 3), (11, 3)]), (.agg [(.int .i64 0), (.int .i64 0), (.int .i64 0), (.int .i64 0), (.crows []), (.bool false), (.bool false), (.int .i64 0), (.crows []), (.crows []), (.int .i64 0), (.int .i64 0)])⟩,
 some ⟨12, 136, (.struct [(0, 24), (4, 28), (8, 30), (10, 3), (11, 3)]), (.agg [(.int .i64 0), (.int .i64 0), (.int .i64 0), (.int .i64 0), (.crows []), (.bool false), (.bool false), (.int .i64 0), (.crows []), (.crows []), (.int .i64 0), (.int .i64 0)])⟩,
 some ⟨1, 8, (.int .i64), (.int .i64 0)⟩,
 none,
 some ⟨1, 8, .func, .nilFunc⟩,
 some ⟨1, 8, .func, .nilFunc⟩,
 some ⟨1, 8, .func, .nilFunc⟩,
 some ⟨1, 8, .func, .nilFunc⟩,
 some ⟨1, 8, .func, .nilFunc⟩,
 some ⟨1, 24, (.slice 58), (.crows [])⟩,
 some ⟨1, 8, .func, .nilFunc⟩,
 some ⟨1, 8, .func, .nilFunc⟩,
 some ⟨1, 8, .func, .nilFunc⟩,
 some ⟨1, 8, .func, .nilFunc⟩,
 some ⟨1, 24, (.slice 9), (.crows [])⟩,
 some ⟨1, 8, .func, .nilFunc⟩,
 some ⟨1, 8, .func, .nilFunc⟩,
 some ⟨1, 8, .func, .nilFunc⟩,
 some ⟨1, 8, .func, .nilFunc⟩,
 some ⟨1, 8, .func, .nilFunc⟩,
 none,
 some ⟨1, 8, .func, .nilFunc⟩,
 some ⟨1, 8, .func, .nilFunc⟩,
 some ⟨1, 8, .func, .nilFunc⟩,
 some ⟨1, 8, .func, .nilFunc⟩,
 some ⟨1, 8, .func, .nilFunc⟩,
 some ⟨1, 24, (.slice 24), (.crows [])⟩,
 some ⟨1, 2, (.int .u16), (.int .u16 0)⟩,
 some ⟨3, 40, (.struct [(0, 4), (1, 9), (2, 9)]), (.agg [(.bool false), (.str ⟨#[]⟩), (.str ⟨#[]⟩)])⟩,
 some ⟨3, 40, (.struct [(0, 4), (1, 9), (2, 9)]), (.agg [(.bool false), (.str ⟨#[]⟩), (.str ⟨#[]⟩)])⟩,
 some ⟨1, 8, .func, .nilFunc⟩,
 some ⟨4, 48, (.struct [(0, 3), (1, 9), (2, 9), (3, 3)]), (.agg [(.int .i64 0), (.str ⟨#[]⟩), (.str ⟨#[]⟩), (.int .i64 0)])⟩,
 some ⟨4, 48, (.struct [(0, 3), (1, 9), (2, 9), (3, 3)]), (.agg [(.int .i64 0), (.str ⟨#[]⟩), (.str ⟨#[]⟩), (.int .i64 0)])⟩,
 some ⟨1, 8, .func, .nilFunc⟩,
 some ⟨1, 8, .func, .nilFunc⟩,
 some ⟨1, 24, (.slice 60), (.crows [])⟩,
 some ⟨4, 48, (.struct [(0, 66), (1, 3), (2, 3), (3, 4)]), (.agg [(.crows []), (.int .i64 0), (.int .i64 0), (.bool false)])⟩,
 some ⟨4, 48, (.struct [(0, 66), (1, 3), (2, 3), (3, 4)]), (.agg [(.crows []), (.int .i64 0), (.int .i64 0), (.bool false)])⟩,
 some ⟨1, 8, .func, .nilFunc⟩,
 some ⟨1, 8, .func, .nilFunc⟩,
 some ⟨1, 8, .func, .nilFunc⟩,
 none,
 some ⟨1, 8, .func, .nilFunc⟩,
 some ⟨1, 8, .func, .nilFunc⟩,
 some ⟨1, 8, .func, .nilFunc⟩,
 some ⟨1, 8, .func, .nilFunc⟩,
 some ⟨1, 8, .func, .nilFunc⟩,
 some ⟨1, 24, (.slice 4), (.crows [])⟩,
 some ⟨1, 8, .func, .nilFunc⟩,
 some ⟨4, 64, (.struct [(0, 3), (1, 3), (2, 25), (3, 25)]), (.agg [(.int .i64 0), (.int .i64 0), (.crows []), (.crows [])])⟩,
 some ⟨4, 64, (.struct [(0, 3), (1, 3), (2, 25), (3, 25)]), (.agg [(.int .i64 0), (.int .i64 0), (.crows []), (.crows [])])⟩,
 some ⟨1, 8, .func, .nilFunc⟩,
 none,
 some ⟨1, 8, .func, .nilFunc⟩,
 some ⟨5, 80, (.struct [(0, 9), (1, 81)]), (.agg [(.str ⟨#[]⟩), (.int .i64 0), (.int .i64 0), (.crows []), (.crows [])])⟩,
 some ⟨5, 80, (.struct [(0, 9), (1, 81)]), (.agg [(.str ⟨#[]⟩), (.int .i64 0), (.int .i64 0), (.crows []), (.crows [])])⟩,
 some ⟨1, 8, .func, .nilFunc⟩,
 some ⟨1, 8, (.pointer 68), .nilPtr⟩,
 some ⟨1, 8, .func, .nilFunc⟩,
 some ⟨1, 24, (.slice 93), (.crows [])⟩,
 some ⟨1, 8, .func, .nilFunc⟩,
 some ⟨5, 72, (.struct [(0, 3), (1, 81)]), (.agg [(.int .i64 0), (.int .i64 0), (.int .i64 0), (.crows []), (.crows [])])⟩,
 some ⟨5, 72, (.struct [(0, 3), (1, 81)]), (.agg [(.int .i64 0), (.int .i64 0), (.int .i64 0), (.crows []), (.crows [])])⟩,
 some ⟨1, 8, .func, .nilFunc⟩,
 some ⟨1, 8, .func, .nilFunc⟩,
 some ⟨1, 8, .func, .nilFunc⟩,
 some ⟨1, 8, .func, .nilFunc⟩,
 some ⟨1, 8, .func, .nilFunc⟩,
 none,
 some ⟨1, 8, .func, .nilFunc⟩,
 some ⟨1, 8, .func, .nilFunc⟩,
 some ⟨1, 8, .func, .nilFunc⟩,
 some ⟨1, 8, .func, .nilFunc⟩,
 none,
 some ⟨1, 8, .func, .nilFunc⟩,
 some ⟨1, 8, .func, .nilFunc⟩,
 some ⟨1, 8, .func, .nilFunc⟩,
 some ⟨1, 8, .func, .nilFunc⟩,
 none,
 some ⟨1, 8, .func, .nilFunc⟩,
 some ⟨1, 8, .func, .nilFunc⟩,
 some ⟨1, 8, .func, .nilFunc⟩,
 some ⟨1, 8, .func, .nilFunc⟩,
 some ⟨1, 8, .func, .nilFunc⟩,
 some ⟨1, 8, .func, .nilFunc⟩,
 some ⟨1, 8, .func, .nilFunc⟩,
 none,
 some ⟨1, 8, .func, .nilFunc⟩,
 some ⟨1, 8, .func, .nilFunc⟩,
 some ⟨1, 8, .func, .nilFunc⟩,
 some ⟨1, 8, .func, .nilFunc⟩,
 some ⟨1, 8, .func, .nilFunc⟩,
 some ⟨1, 8, .func, .nilFunc⟩,
 some ⟨1, 8, .func, .nilFunc⟩,
 none,
 some ⟨1, 8, .func, .nilFunc⟩,
 some ⟨1, 8, .func, .nilFunc⟩,
 some ⟨1, 8, .func, .nilFunc⟩,
 some ⟨1, 8, (.int .u64), (.int .u64 0)⟩,
 none,
 some ⟨1, 8, .func, .nilFunc⟩,
 some ⟨1, 8, .func, .nilFunc⟩,
 some ⟨1, 8, .func, .nilFunc⟩,
 some ⟨1, 8, .func, .nilFunc⟩,
 some ⟨1, 8, .func, .nilFunc⟩,
 some ⟨1, 8, .func, .nilFunc⟩,
 some ⟨1, 8, (.int .i64), (.int .i64 0)⟩,
 none,
 some ⟨1, 8, .func, .nilFunc⟩,
 some ⟨1, 8, .func, .nilFunc⟩,
 some ⟨1, 8, .func, .nilFunc⟩,
 some ⟨1, 8, .func, .nilFunc⟩,
 some ⟨1, 8, .func, .nilFunc⟩,
 some ⟨1, 4, (.int .u32), (.int .u32 0)⟩,
 some ⟨1, 8, .func, .nilFunc⟩,
 some ⟨1, 8, (.int .u64), (.int .u64 0)⟩,
 none,
 some ⟨1, 8, .func, .nilFunc⟩,
 none,
 some ⟨1, 8, .func, .nilFunc⟩,
 none,
 some ⟨1, 8, .func, .nilFunc⟩,
 some ⟨1, 8, .func, .nilFunc⟩,
 some ⟨1, 8, (.pointer 81), .nilPtr⟩,
 some ⟨1, 8, (.pointer 33), .nilPtr⟩,
 some ⟨1, 8, (.pointer 158), .nilPtr⟩,
 some ⟨1, 16, (.struct [(0, 9)]), (.agg [(.str ⟨#[]⟩)])⟩,
 some ⟨1, 16, (.struct [(0, 9)]), (.agg [(.str ⟨#[]⟩)])⟩,
 some ⟨1, 8, .func, .nilFunc⟩,
 some ⟨3, 72, (.array 3 25), (.agg [(.crows []), (.crows []), (.crows [])])⟩,
 some ⟨1, 8, (.int .u64), (.int .u64 0)⟩,
 some ⟨1, 8, .func, .nilFunc⟩,
 some ⟨1, 8, .func, .nilFunc⟩,
 some ⟨1, 8, .func, .nilFunc⟩,
 some ⟨1, 8, (.pointer 3), .nilPtr⟩,
 some ⟨1, 8, .func, .nilFunc⟩,
 none,
 some ⟨1, 8, .func, .nilFunc⟩,
 some ⟨4, 4, (.array 4 5), (.agg [(.int .u8 0), (.int .u8 0), (.int .u8 0), (.int .u8 0)])⟩,
 some ⟨1, 8, (.pointer 161), .nilPtr⟩,
 none,
 some ⟨1, 8, .func, .nilFunc⟩,
 some ⟨1, 8, .func, .nilFunc⟩,
 some ⟨1, 8, .func, .nilFunc⟩,
 some ⟨1, 8, .func, .nilFunc⟩,
 some ⟨4, 40, (.struct [(0, 17), (1, 17), (2, 17), (3, 9)]), (.agg [.nilPtr, .nilPtr, .nilPtr, (.str ⟨#[]⟩)])⟩,
 some ⟨4, 40, (.struct [(0, 17), (1, 17), (2, 17), (3, 9)]), (.agg [.nilPtr, .nilPtr, .nilPtr, (.str ⟨#[]⟩)])⟩,
 none,
 none,
 none,
 some ⟨1, 8, .func, .nilFunc⟩,
 some ⟨1, 1, (.int .u8), (.int .u8 0)⟩,
 some ⟨1, 1, (.int .u8), (.int .u8 0)⟩,
 some ⟨1, 8, .func, .nilFunc⟩,
 some ⟨1, 8, (.pointer 5), .nilPtr⟩,
 some ⟨1, 4, (.int .i32), (.int .i32 0)⟩,
 some ⟨1, 4, (.int .i32), (.int .i32 0)⟩,
 some ⟨11, 48, (.struct [(0, 12), (1, 12), (2, 144), (3, 182), (4, 5), (5, 5), (6, 183), (7, 184), (8, 185), (9, 186), (10, 187)]), (.agg [(.int .u64 0), (.int .u64 0), (.int .u32 0), (.int .u8 0), (.int .u8 0), (.int .u8 0), (.int .u8 0), .nilFunc, .nilPtr, (.int .i32 0), (.int .i32 0)])⟩,
 some ⟨11, 48, (.struct [(0, 12), (1, 12), (2, 144), (3, 182), (4, 5), (5, 5), (6, 183), (7, 184), (8, 185), (9, 186), (10, 187)]), (.agg [(.int .u64 0), (.int .u64 0), (.int .u32 0), (.int .u8 0), (.int .u8 0), (.int .u8 0), (.int .u8 0), .nilFunc, .nilPtr, (.int .i32 0), (.int .i32 0)])⟩,
 none]
noncomputable def zL : List (Option (List SV)) := [
 none,
 some [.nilFunc],
 some [.int .i64 0],
 some [.int .i64 0],
 some [.bool false],
 some [.int .u8 0],
 some [.int .u8 0],
 some [.int .i64 0, .int .i64 0, .bool false, .int .u8 0],
 some [.int .i64 0, .int .i64 0, .bool false, .int .u8 0],
 some [.str []],
 some [.str []],
 some [.str []],
 some [.int .u64 0],
 some [.str [], .int .u64 0],
 some [.str [], .int .u64 0],
 some [.nilPtr],
 some [.nilPtr],
 some [.nilPtr],
 some [.nilPtr],
 some [.nilPtr],
 some [.nilIface],
 some [.int .i32 0],
 some [.lst true (.int .u8) []],
 some [.int .i64 0, .int .i64 0, .int .i64 0, .int .i64 0],
 some [.int .i64 0, .int .i64 0, .int .i64 0, .int .i64 0],
 some [.lst true .i []],
 some [.lst true .block []],
 some [.lst true .block [], .bool false, .bool false, .int .i64 0],
 some [.lst true .block [], .bool false, .bool false, .int .i64 0],
 some [.lst true .i [], .lst true .i []],
 some [.lst true .i [], .lst true .i []],
 some [.int .i64 0, .int .i64 0, .int .i64 0, .int .i64 0, .lst true .block [], .bool false, .bool false, .int .i64 0, .lst true .i [], .lst true .i [], .int .i64 0, .int .i64 0],
 some [.int .i64 0, .int .i64 0, .int .i64 0, .int .i64 0, .lst true .block [], .bool false, .bool false, .int .i64 0, .lst true .i [], .lst true .i [], .int .i64 0, .int .i64 0],
 some [.int .i64 0],
 none,
 some [.nilFunc],
 some [.nilFunc],
 some [.nilFunc],
 some [.nilFunc],
 some [.nilFunc],
 some [.lst true (.int .u16) []],
 some [.nilFunc],
 some [.nilFunc],
 some [.nilFunc],
 some [.nilFunc],
 some [.lst true .str []],
 some [.nilFunc],
 some [.nilFunc],
 some [.nilFunc],
 some [.nilFunc],
 some [.nilFunc],
 none,
 some [.nilFunc],
 some [.nilFunc],
 some [.nilFunc],
 some [.nilFunc],
 some [.nilFunc],
 some [.lst true .geometry []],
 some [.int .u16 0],
 some [.bool false, .str [], .str []],
 some [.bool false, .str [], .str []],
 some [.nilFunc],
 some [.int .i64 0, .str [], .str [], .int .i64 0],
 some [.int .i64 0, .str [], .str [], .int .i64 0],
 some [.nilFunc],
 some [.nilFunc],
 some [.lst true .page []],
 some [.lst true .page [], .int .i64 0, .int .i64 0, .bool false],
 some [.lst true .page [], .int .i64 0, .int .i64 0, .bool false],
 some [.nilFunc],
 some [.nilFunc],
 some [.nilFunc],
 none,
 some [.nilFunc],
 some [.nilFunc],
 some [.nilFunc],
 some [.nilFunc],
 some [.nilFunc],
 some [.lst true .bool []],
 some [.nilFunc],
 some [.int .i64 0, .int .i64 0, .lst true .i [], .lst true .i []],
 some [.int .i64 0, .int .i64 0, .lst true .i [], .lst true .i []],
 some [.nilFunc],
 none,
 some [.nilFunc],
 some [.str [], .int .i64 0, .int .i64 0, .lst true .i [], .lst true .i []],
 some [.str [], .int .i64 0, .int .i64 0, .lst true .i [], .lst true .i []],
 some [.nilFunc],
 some [.nilPtr],
 some [.nilFunc],
 some [.lst true .found []],
 some [.nilFunc],
 some [.int .i64 0, .int .i64 0, .int .i64 0, .lst true .i [], .lst true .i []],
 some [.int .i64 0, .int .i64 0, .int .i64 0, .lst true .i [], .lst true .i []],
 some [.nilFunc],
 some [.nilFunc],
 some [.nilFunc],
 some [.nilFunc],
 some [.nilFunc],
 none,
 some [.nilFunc],
 some [.nilFunc],
 some [.nilFunc],
 some [.nilFunc],
 none,
 some [.nilFunc],
 some [.nilFunc],
 some [.nilFunc],
 some [.nilFunc],
 none,
 some [.nilFunc],
 some [.nilFunc],
 some [.nilFunc],
 some [.nilFunc],
 some [.nilFunc],
 some [.nilFunc],
 some [.nilFunc],
 none,
 some [.nilFunc],
 some [.nilFunc],
 some [.nilFunc],
 some [.nilFunc],
 some [.nilFunc],
 some [.nilFunc],
 some [.nilFunc],
 none,
 some [.nilFunc],
 some [.nilFunc],
 some [.nilFunc],
 some [.int .u64 0],
 none,
 some [.nilFunc],
 some [.nilFunc],
 some [.nilFunc],
 some [.nilFunc],
 some [.nilFunc],
 some [.nilFunc],
 some [.int .i64 0],
 none,
 some [.nilFunc],
 some [.nilFunc],
 some [.nilFunc],
 some [.nilFunc],
 some [.nilFunc],
 some [.int .u32 0],
 some [.nilFunc],
 some [.int .u64 0],
 none,
 some [.nilFunc],
 none,
 some [.nilFunc],
 none,
 some [.nilFunc],
 some [.nilFunc],
 some [.nilPtr],
 some [.nilPtr],
 some [.nilPtr],
 some [.str []],
 some [.str []],
 some [.nilFunc],
 some [.lst true .i [], .lst true .i [], .lst true .i []],
 some [.int .u64 0],
 some [.nilFunc],
 some [.nilFunc],
 some [.nilFunc],
 some [.nilPtr],
 some [.nilFunc],
 none,
 some [.nilFunc],
 some [.int .u8 0, .int .u8 0, .int .u8 0, .int .u8 0],
 some [.nilPtr],
 none,
 some [.nilFunc],
 some [.nilFunc],
 some [.nilFunc],
 some [.nilFunc],
 some [.nilPtr, .nilPtr, .nilPtr, .str []],
 some [.nilPtr, .nilPtr, .nilPtr, .str []],
 none,
 none,
 none,
 some [.nilFunc],
 some [.int .u8 0],
 some [.int .u8 0],
 some [.nilFunc],
 some [.nilPtr],
 some [.int .i32 0],
 some [.int .i32 0],
 some [.int .u64 0, .int .u64 0, .int .u32 0, .int .u8 0, .int .u8 0, .int .u8 0, .int .u8 0, .nilFunc, .nilPtr, .int .i32 0, .int .i32 0],
 some [.int .u64 0, .int .u64 0, .int .u32 0, .int .u8 0, .int .u8 0, .int .u8 0, .int .u8 0, .nilFunc, .nilPtr, .int .i32 0, .int .i32 0],
 none]
noncomputable def ecL : List (Option TC) := [
 none,
 none,
 some .i,
 some .i,
 some .bool,
 some (.int .u8),
 some (.int .u8),
 none,
 none,
 some .str,
 some .str,
 some .str,
 some (.int .u64),
 none,
 none,
 none,
 none,
 none,
 none,
 none,
 none,
 some (.int .i32),
 some (.list (.int .u8)),
 none,
 some .geometry,
 some (.list .i),
 some (.list .block),
 none,
 some .chip,
 none,
 some .table,
 none,
 some .device,
 some .i,
 none,
 none,
 none,
 none,
 none,
 none,
 some (.list (.int .u16)),
 none,
 none,
 none,
 none,
 some (.list .str),
 none,
 none,
 none,
 none,
 none,
 none,
 none,
 none,
 none,
 none,
 none,
 some (.list .geometry),
 some (.int .u16),
 none,
 some .page,
 none,
 none,
 some .fate,
 none,
 none,
 some (.list .page),
 none,
 some .block,
 none,
 none,
 none,
 none,
 none,
 none,
 none,
 none,
 none,
 some (.list .bool),
 none,
 none,
 some .record,
 none,
 none,
 none,
 none,
 some .write,
 none,
 none,
 none,
 some (.list .found),
 none,
 none,
 some .found,
 none,
 none,
 none,
 none,
 none,
 none,
 none,
 none,
 none,
 none,
 none,
 none,
 none,
 none,
 none,
 none,
 none,
 none,
 none,
 none,
 none,
 none,
 none,
 none,
 none,
 none,
 none,
 none,
 none,
 none,
 none,
 none,
 none,
 none,
 none,
 some (.int .u64),
 none,
 none,
 none,
 none,
 none,
 none,
 none,
 some .i,
 none,
 none,
 none,
 none,
 none,
 none,
 some (.int .u32),
 none,
 some (.int .u64),
 none,
 none,
 none,
 none,
 none,
 none,
 none,
 none,
 none,
 none,
 none,
 none,
 none,
 none,
 some (.int .u64),
 none,
 none,
 none,
 none,
 none,
 none,
 none,
 none,
 none,
 none,
 none,
 none,
 none,
 none,
 none,
 none,
 none,
 none,
 none,
 none,
 some (.int .u8),
 some (.int .u8),
 none,
 none,
 some (.int .i32),
 some (.int .i32),
 none,
 none,
 none]
noncomputable def eqL : List Bool := [false, false, false, false, false, false, false, true, true, false, false, false, false, false, false, false, false, false, false, false, false, false, false, true, true, false, false, true, true, true, true, true, true, false, false, false, false, false, false, false, false, false, false, false, false, false, false, false, false, false, false, false, false, false, false, false, false, false, false, true, true, false, true, true, false, false, false, true, true, false, false, false, false, false, false, false, false, false, false, false, true, true, false, false, false, true, true, false, false, false, false, false, true, true, false, false, false, false, false, false, false, false, false, false, false, false, false, false, false, false, false, false, false, false, false, false, false, false, false, false, false, false, false, false, false, false, false, false, false, false, false, false, false, false, false, false, false, false, false, false, false, false, false, false, false, false, false, false, false, false, false, false, false, false, false, false, false, true, true, false, false, false, false, false, false, false, false, false, false, false, false, false, false, false, false, false, false, false, false, false, false, false, false, false, false, false, false, false, false, false, false]
noncomputable def fnL : List (Option Go.Func) := [none, none, none, some Tryz.f3, some Tryz.f4, some Tryz.f5, some Tryz.f6, some Tryz.f7, some Tryz.f8, some Tryz.f9, some Tryz.f10, some Tryz.f11, some Tryz.f12, some Tryz.f13, some Tryz.f14, some Tryz.f15, some Tryz.f16, some Tryz.f17, some Tryz.f18, some Tryz.f19, some Tryz.f20, some Tryz.f21, some Tryz.f22, some Tryz.f23, some Tryz.f24, some Tryz.f25, some Tryz.f26, some Tryz.f27, some Tryz.f28, some Tryz.f29, some Tryz.f30, some Tryz.f31, some Tryz.f32, some Tryz.f33, some Tryz.f34, some Tryz.f35, some Tryz.f36, some Tryz.f37, some Tryz.f38, some Tryz.f39, some Tryz.f40, some Tryz.f41, some Tryz.f42, some Tryz.f43, some Tryz.f44, some Tryz.f45, some Tryz.f46, some Tryz.f47, some Tryz.f48, some Tryz.f49, some Tryz.f50, some Tryz.f51, some Tryz.f52, some Tryz.f53, some Tryz.f54, some Tryz.f55, some Tryz.f56, some Tryz.f57, some Tryz.f58, some Tryz.f59, some Tryz.f60, some Tryz.f61, some Tryz.f62, some Tryz.f63, some Tryz.f64, some Tryz.f65, some Tryz.f66, some Tryz.f67, some Tryz.f68, some Tryz.f69, some Tryz.f70, some Tryz.f71, some Tryz.f72, some Tryz.f73, some Tryz.f74, some Tryz.f75, some Tryz.f76, some Tryz.f77, some Tryz.f78, some Tryz.f79, some Tryz.f80, some Tryz.f81, some Tryz.f82, some Tryz.f83, some Tryz.f84, some Tryz.f85, some Tryz.f86, some Tryz.f87, some Tryz.f88, some Tryz.f89, some Tryz.f90, some Tryz.f91, some Tryz.f92, some Tryz.f93, some Tryz.f94, some Tryz.f95, some Tryz.f96, some Tryz.f97, some Tryz.f98, some Tryz.f99, some Tryz.f100, some Tryz.f101, some Tryz.f102, some Tryz.f103, some Tryz.f104, some Tryz.f105, some Tryz.f106, some Tryz.f107, some Tryz.f108, some Tryz.f109, some Tryz.f110, some Tryz.f111, some Tryz.f112, some Tryz.f113, some Tryz.f114, some Tryz.f115, some Tryz.f116, some Tryz.f117, some Tryz.f118, some Tryz.f119, some Tryz.f120, some Tryz.f121, some Tryz.f122, some Tryz.f123, some Tryz.f124, some Tryz.f125, some Tryz.f126, some Tryz.f127, some Tryz.f128, some Tryz.f129, some Tryz.f130, some Tryz.f131, some Tryz.f132, none, none, none, none, none, none, none, none, none, none, none, none, none, none, none, none]
noncomputable def inlL : List Bool := [false, false, false, false, false, false, false, false, false, false, false, false, false, false, false, false, false, false, false, false, false, false, false, false, false, false, false, false, false, false, false, false, true, true, false, false, true, true, false, false, false, false, true, true, false, false, false, true, false, false, false, true, true, false, false, true, false, false, false, false, false, true, false, true, false, true, false, true, true, false, false, false, false, false, false, false, false, false, false, false, false, true, false, false, true, false, false, false, false, false, false, false, false, false, false, true, true, true, true, true, true, true, true, false, false, false, false, false, false, false, false, false, false, false, false, false, true, false, false, true, true, false, false, true, false, false, true, false, true, false, true, false, false, false, false, false, false, false, false, false, false, false, false, false, false, false, false, false, false]
noncomputable def clL : List (Option (TC × Nat)) := [none, none, none, none, none, none, none, none, none, none, none, none, none, none, none, none, none, none, none, none, none, none, none, none, none, none, none, none, none, none, none, none, none, none, none, none, none, none, none, none, none, none, none, none, none, none, none, none, none, none, none, none, none, none, none, none, none, none, none, none, none, none, none, none, none, none, none, some (.found, 1000068), none, none, none, none, some (.i, 8), none, none, none, none, none, none, none, none, none, none, none, none, none, none, none, none, none, none, none, none, none, none, none, none, none, none, none, none, none, none, none, none, none, none, none, none, none, none, none, none, none, none, none, none, none, none, none, none, none, none, none, none, none, none, none, none, none, none, none, none, none, none, none, none, none, none, none, none, none, none, none, none, none, none, none, none]
noncomputable def z0p : Seat := ⟨tiL, zL, ecL, eqL, fnL, inlL, clL⟩
theorem z0ah : z0p.Ok Tryz.prog where
 ti := by kernel_rfl
 zero := by kernel_rfl
 zs := by kernel_rfl
 ec := by kernel_rfl
 eci := by kernel_rfl
 flds := by kernel_rfl
 eq := by kernel_rfl
 fn := by kernel_rfl
theorem zr : SeatOk Tryz.prog z0p.inlF z0p.prim z0p.mk' := z0ah.seatOk
end Go.Proofs.YtpncgjcflkhemaaGreat
namespace Go.Proofs.YtpncgjcflkhemaaGreat
open Go Go.Proofs Clk
theorem ti0 : ti Tryz.prog 0 = some ⟨1, 0, .other, (.tup [])⟩ := by kernel_rfl
theorem ti1 : ti Tryz.prog 1 = some ⟨1, 8, .func, .nilFunc⟩ := by kernel_rfl
theorem ti2 : ti Tryz.prog 2 = some ⟨1, 8, (.int .i64), (.int .i64 0)⟩ := by kernel_rfl
theorem ti3 : ti Tryz.prog 3 = some ⟨1, 8, (.int .i64), (.int .i64 0)⟩ := by kernel_rfl
theorem ti4 : ti Tryz.prog 4 = some ⟨1, 1, .bool, (.bool false)⟩ := by kernel_rfl
theorem ti5 : ti Tryz.prog 5 = some ⟨1, 1, (.int .u8), (.int .u8 0)⟩ := by kernel_rfl
theorem ti6 : ti Tryz.prog 6 = some ⟨1, 1, (.int .u8), (.int .u8 0)⟩ := by kernel_rfl
theorem ti7 : ti Tryz.prog 7 = some ⟨4, 24, (.struct [(0, 2), (1, 3), (2, 4), (3, 6)]), (.agg [(.int .i64 0), (.int .i64 0), (.bool false), (.int .u8 0)])⟩ := by kernel_rfl
theorem ti8 : ti Tryz.prog 8 = some ⟨4, 24, (.struct [(0, 2), (1, 3), (2, 4), (3, 6)]), (.agg [(.int .i64 0), (.int .i64 0), (.bool false), (.int .u8 0)])⟩ := by kernel_rfl
theorem ti9 : ti Tryz.prog 9 = some ⟨1, 16, .string, (.str ⟨#[]⟩)⟩ := by kernel_rfl
theorem ti10 : ti Tryz.prog 10 = some ⟨1, 16, .string, (.str ⟨#[]⟩)⟩ := by kernel_rfl
theorem ti11 : ti Tryz.prog 11 = some ⟨1, 16, .string, (.str ⟨#[]⟩)⟩ := by kernel_rfl
theorem ti12 : ti Tryz.prog 12 = some ⟨1, 8, (.int .u64), (.int .u64 0)⟩ := by kernel_rfl
theorem ti13 : ti Tryz.prog 13 = some ⟨2, 24, (.struct [(0, 9), (1, 12)]), (.agg [(.str ⟨#[]⟩), (.int .u64 0)])⟩ := by kernel_rfl
theorem ti14 : ti Tryz.prog 14 = some ⟨2, 24, (.struct [(0, 9), (1, 12)]), (.agg [(.str ⟨#[]⟩), (.int .u64 0)])⟩ := by kernel_rfl
theorem ti15 : ti Tryz.prog 15 = some ⟨1, 8, (.pointer 177), .nilPtr⟩ := by kernel_rfl
theorem ti16 : ti Tryz.prog 16 = some ⟨1, 8, (.pointer 180), .nilPtr⟩ := by kernel_rfl
theorem ti17 : ti Tryz.prog 17 = some ⟨1, 8, (.pointer 189), .nilPtr⟩ := by kernel_rfl
theorem ti18 : ti Tryz.prog 18 = some ⟨1, 8, (.struct [(0, 17)]), (.agg [.nilPtr])⟩ := by kernel_rfl
theorem ti19 : ti Tryz.prog 19 = some ⟨1, 8, (.struct [(0, 17)]), (.agg [.nilPtr])⟩ := by kernel_rfl
theorem ti20 : ti Tryz.prog 20 = some ⟨1, 16, .iface, .nilIface⟩ := by kernel_rfl
theorem ti21 : ti Tryz.prog 21 = some ⟨1, 4, (.int .i32), (.int .i32 0)⟩ := by kernel_rfl
theorem ti22 : ti Tryz.prog 22 = some ⟨1, 24, (.slice 5), (.crows [])⟩ := by kernel_rfl
theorem ti23 : ti Tryz.prog 23 = some ⟨4, 32, (.struct [(0, 3), (1, 3), (2, 3), (3, 3)]), (.agg [(.int .i64 0), (.int .i64 0), (.int .i64 0), (.int .i64 0)])⟩ := by kernel_rfl
theorem ti24 : ti Tryz.prog 24 = some ⟨4, 32, (.struct [(0, 3), (1, 3), (2, 3), (3, 3)]), (.agg [(.int .i64 0), (.int .i64 0), (.int .i64 0), (.int .i64 0)])⟩ := by kernel_rfl
theorem ti25 : ti Tryz.prog 25 = some ⟨1, 24, (.slice 3), (.crows [])⟩ := by kernel_rfl
theorem ti26 : ti Tryz.prog 26 = some ⟨1, 24, (.slice 68), (.crows [])⟩ := by kernel_rfl
theorem ti27 : ti Tryz.prog 27 = some ⟨4, 40, (.struct [(0, 26), (1, 4), (2, 4), (3, 3)]), (.agg [(.crows []), (.bool false), (.bool false), (.int .i64 0)])⟩ := by kernel_rfl
theorem ti28 : ti Tryz.prog 28 = some ⟨4, 40, (.struct [(0, 26), (1, 4), (2, 4), (3, 3)]), (.agg [(.crows []), (.bool false), (.bool false), (.int .i64 0)])⟩ := by kernel_rfl
theorem ti29 : ti Tryz.prog 29 = some ⟨2, 48, (.struct [(0, 25), (1, 25)]), (.agg [(.crows []), (.crows [])])⟩ := by kernel_rfl
theorem ti30 : ti Tryz.prog 30 = some ⟨2, 48, (.struct [(0, 25), (1, 25)]), (.agg [(.crows []), (.crows [])])⟩ := by kernel_rfl
theorem ti31 : ti Tryz.prog 31 = some ⟨12, 136, (.struct [(0, 24), (4, 28), (8, 30), (10, 3), (11, 3)]), (.agg [(.int .i64 0), (.int .i64 0), (.int .i64 0), (.int .i64 0), (.crows []), (.bool false), (.bool false), (.int .i64 0), (.crows []), (.crows []), (.int .i64 0), (.int .i64 0)])⟩ := by kernel_rfl
theorem ti32 : ti Tryz.prog 32 = some ⟨12, 136, (.struct [(0, 24), (4, 28), (8, 30), (10, 3), (11, 3)]), (.agg [(.int .i64 0), (.int .i64 0), (.int .i64 0), (.int .i64 0), (.crows []), (.bool false), (.bool false), (.int .i64 0), (.crows []), (.crows []), (.int .i64 0), (.int .i64 0)])⟩ := by kernel_rfl
theorem ti33 : ti Tryz.prog 33 = some ⟨1, 8, (.int .i64), (.int .i64 0)⟩ := by kernel_rfl
theorem ti34 : ti Tryz.prog 34 = some ⟨1, 0, .other, .undef⟩ := by kernel_rfl
theorem ti35 : ti Tryz.prog 35 = some ⟨1, 8, .func, .nilFunc⟩ := by kernel_rfl
theorem ti36 : ti Tryz.prog 36 = some ⟨1, 8, .func, .nilFunc⟩ := by kernel_rfl
theorem ti37 : ti Tryz.prog 37 = some ⟨1, 8, .func, .nilFunc⟩ := by kernel_rfl
theorem ti38 : ti Tryz.prog 38 = some ⟨1, 8, .func, .nilFunc⟩ := by kernel_rfl
theorem ti39 : ti Tryz.prog 39 = some ⟨1, 8, .func, .nilFunc⟩ := by kernel_rfl
theorem ti40 : ti Tryz.prog 40 = some ⟨1, 24, (.slice 58), (.crows [])⟩ := by kernel_rfl
theorem ti41 : ti Tryz.prog 41 = some ⟨1, 8, .func, .nilFunc⟩ := by kernel_rfl
theorem ti42 : ti Tryz.prog 42 = some ⟨1, 8, .func, .nilFunc⟩ := by kernel_rfl
theorem ti43 : ti Tryz.prog 43 = some ⟨1, 8, .func, .nilFunc⟩ := by kernel_rfl
theorem ti44 : ti Tryz.prog 44 = some ⟨1, 8, .func, .nilFunc⟩ := by kernel_rfl
theorem ti45 : ti Tryz.prog 45 = some ⟨1, 24, (.slice 9), (.crows [])⟩ := by kernel_rfl
theorem ti46 : ti Tryz.prog 46 = some ⟨1, 8, .func, .nilFunc⟩ := by kernel_rfl
theorem ti47 : ti Tryz.prog 47 = some ⟨1, 8, .func, .nilFunc⟩ := by kernel_rfl
theorem ti48 : ti Tryz.prog 48 = some ⟨1, 8, .func, .nilFunc⟩ := by kernel_rfl
theorem ti49 : ti Tryz.prog 49 = some ⟨1, 8, .func, .nilFunc⟩ := by kernel_rfl
theorem ti50 : ti Tryz.prog 50 = some ⟨1, 8, .func, .nilFunc⟩ := by kernel_rfl
theorem ti51 : ti Tryz.prog 51 = some ⟨1, 0, .other, .undef⟩ := by kernel_rfl
theorem ti52 : ti Tryz.prog 52 = some ⟨1, 8, .func, .nilFunc⟩ := by kernel_rfl
theorem ti53 : ti Tryz.prog 53 = some ⟨1, 8, .func, .nilFunc⟩ := by kernel_rfl
theorem ti54 : ti Tryz.prog 54 = some ⟨1, 8, .func, .nilFunc⟩ := by kernel_rfl
theorem ti55 : ti Tryz.prog 55 = some ⟨1, 8, .func, .nilFunc⟩ := by kernel_rfl
theorem ti56 : ti Tryz.prog 56 = some ⟨1, 8, .func, .nilFunc⟩ := by kernel_rfl
theorem ti57 : ti Tryz.prog 57 = some ⟨1, 24, (.slice 24), (.crows [])⟩ := by kernel_rfl
theorem ti58 : ti Tryz.prog 58 = some ⟨1, 2, (.int .u16), (.int .u16 0)⟩ := by kernel_rfl
theorem ti59 : ti Tryz.prog 59 = some ⟨3, 40, (.struct [(0, 4), (1, 9), (2, 9)]), (.agg [(.bool false), (.str ⟨#[]⟩), (.str ⟨#[]⟩)])⟩ := by kernel_rfl
theorem ti60 : ti Tryz.prog 60 = some ⟨3, 40, (.struct [(0, 4), (1, 9), (2, 9)]), (.agg [(.bool false), (.str ⟨#[]⟩), (.str ⟨#[]⟩)])⟩ := by kernel_rfl
theorem ti61 : ti Tryz.prog 61 = some ⟨1, 8, .func, .nilFunc⟩ := by kernel_rfl
theorem ti62 : ti Tryz.prog 62 = some ⟨4, 48, (.struct [(0, 3), (1, 9), (2, 9), (3, 3)]), (.agg [(.int .i64 0), (.str ⟨#[]⟩), (.str ⟨#[]⟩), (.int .i64 0)])⟩ := by kernel_rfl
theorem ti63 : ti Tryz.prog 63 = some ⟨4, 48, (.struct [(0, 3), (1, 9), (2, 9), (3, 3)]), (.agg [(.int .i64 0), (.str ⟨#[]⟩), (.str ⟨#[]⟩), (.int .i64 0)])⟩ := by kernel_rfl
theorem ti64 : ti Tryz.prog 64 = some ⟨1, 8, .func, .nilFunc⟩ := by kernel_rfl
theorem ti65 : ti Tryz.prog 65 = some ⟨1, 8, .func, .nilFunc⟩ := by kernel_rfl
theorem ti66 : ti Tryz.prog 66 = some ⟨1, 24, (.slice 60), (.crows [])⟩ := by kernel_rfl
theorem ti67 : ti Tryz.prog 67 = some ⟨4, 48, (.struct [(0, 66), (1, 3), (2, 3), (3, 4)]), (.agg [(.crows []), (.int .i64 0), (.int .i64 0), (.bool false)])⟩ := by kernel_rfl
theorem ti68 : ti Tryz.prog 68 = some ⟨4, 48, (.struct [(0, 66), (1, 3), (2, 3), (3, 4)]), (.agg [(.crows []), (.int .i64 0), (.int .i64 0), (.bool false)])⟩ := by kernel_rfl
theorem ti69 : ti Tryz.prog 69 = some ⟨1, 8, .func, .nilFunc⟩ := by kernel_rfl
theorem ti70 : ti Tryz.prog 70 = some ⟨1, 8, .func, .nilFunc⟩ := by kernel_rfl
theorem ti71 : ti Tryz.prog 71 = some ⟨1, 8, .func, .nilFunc⟩ := by kernel_rfl
theorem ti72 : ti Tryz.prog 72 = some ⟨1, 0, .other, .undef⟩ := by kernel_rfl
theorem ti73 : ti Tryz.prog 73 = some ⟨1, 8, .func, .nilFunc⟩ := by kernel_rfl
theorem ti74 : ti Tryz.prog 74 = some ⟨1, 8, .func, .nilFunc⟩ := by kernel_rfl
theorem ti75 : ti Tryz.prog 75 = some ⟨1, 8, .func, .nilFunc⟩ := by kernel_rfl
theorem ti76 : ti Tryz.prog 76 = some ⟨1, 8, .func, .nilFunc⟩ := by kernel_rfl
theorem ti77 : ti Tryz.prog 77 = some ⟨1, 8, .func, .nilFunc⟩ := by kernel_rfl
theorem ti78 : ti Tryz.prog 78 = some ⟨1, 24, (.slice 4), (.crows [])⟩ := by kernel_rfl
theorem ti79 : ti Tryz.prog 79 = some ⟨1, 8, .func, .nilFunc⟩ := by kernel_rfl
theorem ti80 : ti Tryz.prog 80 = some ⟨4, 64, (.struct [(0, 3), (1, 3), (2, 25), (3, 25)]), (.agg [(.int .i64 0), (.int .i64 0), (.crows []), (.crows [])])⟩ := by kernel_rfl
theorem ti81 : ti Tryz.prog 81 = some ⟨4, 64, (.struct [(0, 3), (1, 3), (2, 25), (3, 25)]), (.agg [(.int .i64 0), (.int .i64 0), (.crows []), (.crows [])])⟩ := by kernel_rfl
theorem ti82 : ti Tryz.prog 82 = some ⟨1, 8, .func, .nilFunc⟩ := by kernel_rfl
theorem ti83 : ti Tryz.prog 83 = some ⟨1, 0, .other, .undef⟩ := by kernel_rfl
theorem ti84 : ti Tryz.prog 84 = some ⟨1, 8, .func, .nilFunc⟩ := by kernel_rfl
theorem ti85 : ti Tryz.prog 85 = some ⟨5, 80, (.struct [(0, 9), (1, 81)]), (.agg [(.str ⟨#[]⟩), (.int .i64 0), (.int .i64 0), (.crows []), (.crows [])])⟩ := by kernel_rfl
theorem ti86 : ti Tryz.prog 86 = some ⟨5, 80, (.struct [(0, 9), (1, 81)]), (.agg [(.str ⟨#[]⟩), (.int .i64 0), (.int .i64 0), (.crows []), (.crows [])])⟩ := by kernel_rfl
theorem ti87 : ti Tryz.prog 87 = some ⟨1, 8, .func, .nilFunc⟩ := by kernel_rfl
theorem ti88 : ti Tryz.prog 88 = some ⟨1, 8, (.pointer 68), .nilPtr⟩ := by kernel_rfl
theorem ti89 : ti Tryz.prog 89 = some ⟨1, 8, .func, .nilFunc⟩ := by kernel_rfl
theorem ti90 : ti Tryz.prog 90 = some ⟨1, 24, (.slice 93), (.crows [])⟩ := by kernel_rfl
theorem ti91 : ti Tryz.prog 91 = some ⟨1, 8, .func, .nilFunc⟩ := by kernel_rfl
theorem ti92 : ti Tryz.prog 92 = some ⟨5, 72, (.struct [(0, 3), (1, 81)]), (.agg [(.int .i64 0), (.int .i64 0), (.int .i64 0), (.crows []), (.crows [])])⟩ := by kernel_rfl
theorem ti93 : ti Tryz.prog 93 = some ⟨5, 72, (.struct [(0, 3), (1, 81)]), (.agg [(.int .i64 0), (.int .i64 0), (.int .i64 0), (.crows []), (.crows [])])⟩ := by kernel_rfl
theorem ti94 : ti Tryz.prog 94 = some ⟨1, 8, .func, .nilFunc⟩ := by kernel_rfl
theorem ti95 : ti Tryz.prog 95 = some ⟨1, 8, .func, .nilFunc⟩ := by kernel_rfl
theorem ti96 : ti Tryz.prog 96 = some ⟨1, 8, .func, .nilFunc⟩ := by kernel_rfl
theorem ti97 : ti Tryz.prog 97 = some ⟨1, 8, .func, .nilFunc⟩ := by kernel_rfl
theorem ti98 : ti Tryz.prog 98 = some ⟨1, 8, .func, .nilFunc⟩ := by kernel_rfl
theorem ti99 : ti Tryz.prog 99 = some ⟨1, 0, .other, .undef⟩ := by kernel_rfl
theorem ti100 : ti Tryz.prog 100 = some ⟨1, 8, .func, .nilFunc⟩ := by kernel_rfl
theorem ti101 : ti Tryz.prog 101 = some ⟨1, 8, .func, .nilFunc⟩ := by kernel_rfl
theorem ti102 : ti Tryz.prog 102 = some ⟨1, 8, .func, .nilFunc⟩ := by kernel_rfl
theorem ti103 : ti Tryz.prog 103 = some ⟨1, 8, .func, .nilFunc⟩ := by kernel_rfl
theorem ti104 : ti Tryz.prog 104 = some ⟨1, 0, .other, .undef⟩ := by kernel_rfl
theorem ti105 : ti Tryz.prog 105 = some ⟨1, 8, .func, .nilFunc⟩ := by kernel_rfl
theorem ti106 : ti Tryz.prog 106 = some ⟨1, 8, .func, .nilFunc⟩ := by kernel_rfl
theorem ti107 : ti Tryz.prog 107 = some ⟨1, 8, .func, .nilFunc⟩ := by kernel_rfl
theorem ti108 : ti Tryz.prog 108 = some ⟨1, 8, .func, .nilFunc⟩ := by kernel_rfl
theorem ti109 : ti Tryz.prog 109 = some ⟨1, 0, .other, .undef⟩ := by kernel_rfl
theorem ti110 : ti Tryz.prog 110 = some ⟨1, 8, .func, .nilFunc⟩ := by kernel_rfl
theorem ti111 : ti Tryz.prog 111 = some ⟨1, 8, .func, .nilFunc⟩ := by kernel_rfl
theorem ti112 : ti Tryz.prog 112 = some ⟨1, 8, .func, .nilFunc⟩ := by kernel_rfl
theorem ti113 : ti Tryz.prog 113 = some ⟨1, 8, .func, .nilFunc⟩ := by kernel_rfl
theorem ti114 : ti Tryz.prog 114 = some ⟨1, 8, .func, .nilFunc⟩ := by kernel_rfl
theorem ti115 : ti Tryz.prog 115 = some ⟨1, 8, .func, .nilFunc⟩ := by kernel_rfl
theorem ti116 : ti Tryz.prog 116 = some ⟨1, 8, .func, .nilFunc⟩ := by kernel_rfl
theorem ti117 : ti Tryz.prog 117 = some ⟨1, 0, .other, .undef⟩ := by kernel_rfl
theorem ti118 : ti Tryz.prog 118 = some ⟨1, 8, .func, .nilFunc⟩ := by kernel_rfl
theorem ti119 : ti Tryz.prog 119 = some ⟨1, 8, .func, .nilFunc⟩ := by kernel_rfl
theorem ti120 : ti Tryz.prog 120 = some ⟨1, 8, .func, .nilFunc⟩ := by kernel_rfl
theorem ti121 : ti Tryz.prog 121 = some ⟨1, 8, .func, .nilFunc⟩ := by kernel_rfl
theorem ti122 : ti Tryz.prog 122 = some ⟨1, 8, .func, .nilFunc⟩ := by kernel_rfl
theorem ti123 : ti Tryz.prog 123 = some ⟨1, 8, .func, .nilFunc⟩ := by kernel_rfl
theorem ti124 : ti Tryz.prog 124 = some ⟨1, 8, .func, .nilFunc⟩ := by kernel_rfl
theorem ti125 : ti Tryz.prog 125 = some ⟨1, 0, .other, .undef⟩ := by kernel_rfl
theorem ti126 : ti Tryz.prog 126 = some ⟨1, 8, .func, .nilFunc⟩ := by kernel_rfl
theorem ti127 : ti Tryz.prog 127 = some ⟨1, 8, .func, .nilFunc⟩ := by kernel_rfl
theorem ti128 : ti Tryz.prog 128 = some ⟨1, 8, .func, .nilFunc⟩ := by kernel_rfl
theorem ti129 : ti Tryz.prog 129 = some ⟨1, 8, (.int .u64), (.int .u64 0)⟩ := by kernel_rfl
theorem ti130 : ti Tryz.prog 130 = some ⟨1, 0, .other, .undef⟩ := by kernel_rfl
theorem ti131 : ti Tryz.prog 131 = some ⟨1, 8, .func, .nilFunc⟩ := by kernel_rfl
theorem ti132 : ti Tryz.prog 132 = some ⟨1, 8, .func, .nilFunc⟩ := by kernel_rfl
theorem ti133 : ti Tryz.prog 133 = some ⟨1, 8, .func, .nilFunc⟩ := by kernel_rfl
theorem ti134 : ti Tryz.prog 134 = some ⟨1, 8, .func, .nilFunc⟩ := by kernel_rfl
theorem ti135 : ti Tryz.prog 135 = some ⟨1, 8, .func, .nilFunc⟩ := by kernel_rfl
theorem ti136 : ti Tryz.prog 136 = some ⟨1, 8, .func, .nilFunc⟩ := by kernel_rfl
theorem ti137 : ti Tryz.prog 137 = some ⟨1, 8, (.int .i64), (.int .i64 0)⟩ := by kernel_rfl
theorem ti138 : ti Tryz.prog 138 = some ⟨1, 0, .other, .undef⟩ := by kernel_rfl
theorem ti139 : ti Tryz.prog 139 = some ⟨1, 8, .func, .nilFunc⟩ := by kernel_rfl
theorem ti140 : ti Tryz.prog 140 = some ⟨1, 8, .func, .nilFunc⟩ := by kernel_rfl
theorem ti141 : ti Tryz.prog 141 = some ⟨1, 8, .func, .nilFunc⟩ := by kernel_rfl
theorem ti142 : ti Tryz.prog 142 = some ⟨1, 8, .func, .nilFunc⟩ := by kernel_rfl
theorem ti143 : ti Tryz.prog 143 = some ⟨1, 8, .func, .nilFunc⟩ := by kernel_rfl
theorem ti144 : ti Tryz.prog 144 = some ⟨1, 4, (.int .u32), (.int .u32 0)⟩ := by kernel_rfl
theorem ti145 : ti Tryz.prog 145 = some ⟨1, 8, .func, .nilFunc⟩ := by kernel_rfl
theorem ti146 : ti Tryz.prog 146 = some ⟨1, 8, (.int .u64), (.int .u64 0)⟩ := by kernel_rfl
theorem ti147 : ti Tryz.prog 147 = some ⟨1, 0, .other, .undef⟩ := by kernel_rfl
theorem ti148 : ti Tryz.prog 148 = some ⟨1, 8, .func, .nilFunc⟩ := by kernel_rfl
theorem ti149 : ti Tryz.prog 149 = some ⟨1, 0, .other, .undef⟩ := by kernel_rfl
theorem ti150 : ti Tryz.prog 150 = some ⟨1, 8, .func, .nilFunc⟩ := by kernel_rfl
theorem ti151 : ti Tryz.prog 151 = some ⟨1, 0, .other, .undef⟩ := by kernel_rfl
theorem ti152 : ti Tryz.prog 152 = some ⟨1, 8, .func, .nilFunc⟩ := by kernel_rfl
theorem ti153 : ti Tryz.prog 153 = some ⟨1, 8, .func, .nilFunc⟩ := by kernel_rfl
theorem ti154 : ti Tryz.prog 154 = some ⟨1, 8, (.pointer 81), .nilPtr⟩ := by kernel_rfl
theorem ti155 : ti Tryz.prog 155 = some ⟨1, 8, (.pointer 33), .nilPtr⟩ := by kernel_rfl
theorem ti156 : ti Tryz.prog 156 = some ⟨1, 8, (.pointer 158), .nilPtr⟩ := by kernel_rfl
theorem ti157 : ti Tryz.prog 157 = some ⟨1, 16, (.struct [(0, 9)]), (.agg [(.str ⟨#[]⟩)])⟩ := by kernel_rfl
theorem ti158 : ti Tryz.prog 158 = some ⟨1, 16, (.struct [(0, 9)]), (.agg [(.str ⟨#[]⟩)])⟩ := by kernel_rfl
theorem ti159 : ti Tryz.prog 159 = some ⟨1, 8, .func, .nilFunc⟩ := by kernel_rfl
theorem ti160 : ti Tryz.prog 160 = some ⟨3, 72, (.array 3 25), (.agg [(.crows []), (.crows []), (.crows [])])⟩ := by kernel_rfl
theorem ti161 : ti Tryz.prog 161 = some ⟨1, 8, (.int .u64), (.int .u64 0)⟩ := by kernel_rfl
theorem ti162 : ti Tryz.prog 162 = some ⟨1, 8, .func, .nilFunc⟩ := by kernel_rfl
theorem ti163 : ti Tryz.prog 163 = some ⟨1, 8, .func, .nilFunc⟩ := by kernel_rfl
theorem ti164 : ti Tryz.prog 164 = some ⟨1, 8, .func, .nilFunc⟩ := by kernel_rfl
theorem ti165 : ti Tryz.prog 165 = some ⟨1, 8, (.pointer 3), .nilPtr⟩ := by kernel_rfl
theorem ti166 : ti Tryz.prog 166 = some ⟨1, 8, .func, .nilFunc⟩ := by kernel_rfl
theorem ti167 : ti Tryz.prog 167 = some ⟨1, 0, .other, .undef⟩ := by kernel_rfl
theorem ti168 : ti Tryz.prog 168 = some ⟨1, 8, .func, .nilFunc⟩ := by kernel_rfl
theorem ti169 : ti Tryz.prog 169 = some ⟨4, 4, (.array 4 5), (.agg [(.int .u8 0), (.int .u8 0), (.int .u8 0), (.int .u8 0)])⟩ := by kernel_rfl
theorem ti170 : ti Tryz.prog 170 = some ⟨1, 8, (.pointer 161), .nilPtr⟩ := by kernel_rfl
theorem ti171 : ti Tryz.prog 171 = some ⟨1, 0, .other, .undef⟩ := by kernel_rfl
theorem ti172 : ti Tryz.prog 172 = some ⟨1, 8, .func, .nilFunc⟩ := by kernel_rfl
theorem ti173 : ti Tryz.prog 173 = some ⟨1, 8, .func, .nilFunc⟩ := by kernel_rfl
theorem ti174 : ti Tryz.prog 174 = some ⟨1, 8, .func, .nilFunc⟩ := by kernel_rfl
theorem ti175 : ti Tryz.prog 175 = some ⟨1, 8, .func, .nilFunc⟩ := by kernel_rfl
theorem ti176 : ti Tryz.prog 176 = some ⟨4, 40, (.struct [(0, 17), (1, 17), (2, 17), (3, 9)]), (.agg [.nilPtr, .nilPtr, .nilPtr, (.str ⟨#[]⟩)])⟩ := by kernel_rfl
theorem ti177 : ti Tryz.prog 177 = some ⟨4, 40, (.struct [(0, 17), (1, 17), (2, 17), (3, 9)]), (.agg [.nilPtr, .nilPtr, .nilPtr, (.str ⟨#[]⟩)])⟩ := by kernel_rfl
theorem ti178 : ti Tryz.prog 178 = some ⟨0, 0, (.array 0 16), (.agg [])⟩ := by kernel_rfl
theorem ti179 : ti Tryz.prog 179 = some ⟨0, 0, (.struct [(0, 178)]), (.agg [])⟩ := by kernel_rfl
theorem ti180 : ti Tryz.prog 180 = some ⟨0, 0, (.struct [(0, 178)]), (.agg [])⟩ := by kernel_rfl
theorem ti181 : ti Tryz.prog 181 = some ⟨1, 8, .func, .nilFunc⟩ := by kernel_rfl
theorem ti182 : ti Tryz.prog 182 = some ⟨1, 1, (.int .u8), (.int .u8 0)⟩ := by kernel_rfl
theorem ti183 : ti Tryz.prog 183 = some ⟨1, 1, (.int .u8), (.int .u8 0)⟩ := by kernel_rfl
theorem ti184 : ti Tryz.prog 184 = some ⟨1, 8, .func, .nilFunc⟩ := by kernel_rfl
theorem ti185 : ti Tryz.prog 185 = some ⟨1, 8, (.pointer 5), .nilPtr⟩ := by kernel_rfl
theorem ti186 : ti Tryz.prog 186 = some ⟨1, 4, (.int .i32), (.int .i32 0)⟩ := by kernel_rfl
theorem ti187 : ti Tryz.prog 187 = some ⟨1, 4, (.int .i32), (.int .i32 0)⟩ := by kernel_rfl
theorem ti188 : ti Tryz.prog 188 = some ⟨11, 48, (.struct [(0, 12), (1, 12), (2, 144), (3, 182), (4, 5), (5, 5), (6, 183), (7, 184), (8, 185), (9, 186), (10, 187)]), (.agg [(.int .u64 0), (.int .u64 0), (.int .u32 0), (.int .u8 0), (.int .u8 0), (.int .u8 0), (.int .u8 0), .nilFunc, .nilPtr, (.int .i32 0), (.int .i32 0)])⟩ := by kernel_rfl
theorem ti189 : ti Tryz.prog 189 = some ⟨11, 48, (.struct [(0, 12), (1, 12), (2, 144), (3, 182), (4, 5), (5, 5), (6, 183), (7, 184), (8, 185), (9, 186), (10, 187)]), (.agg [(.int .u64 0), (.int .u64 0), (.int .u32 0), (.int .u8 0), (.int .u8 0), (.int .u8 0), (.int .u8 0), .nilFunc, .nilPtr, (.int .i32 0), (.int .i32 0)])⟩ := by kernel_rfl
theorem ti190 : ti Tryz.prog 190 = some ⟨1, 8, .other, .nilPtr⟩ := by kernel_rfl
attribute [go_sem] ti0 ti1 ti2 ti3 ti4 ti5 ti6 ti7 ti8 ti9 ti10 ti11 ti12 ti13 ti14 ti15 ti16 ti17 ti18 ti19 ti20 ti21 ti22 ti23 ti24 ti25 ti26 ti27 ti28 ti29 ti30 ti31 ti32 ti33 ti34 ti35 ti36 ti37 ti38 ti39 ti40 ti41 ti42 ti43 ti44 ti45 ti46 ti47 ti48 ti49 ti50 ti51 ti52 ti53 ti54 ti55 ti56 ti57 ti58 ti59 ti60 ti61 ti62 ti63 ti64 ti65 ti66 ti67 ti68 ti69 ti70 ti71 ti72 ti73 ti74 ti75 ti76 ti77 ti78 ti79 ti80 ti81 ti82 ti83 ti84 ti85 ti86 ti87 ti88 ti89 ti90 ti91 ti92 ti93 ti94 ti95 ti96 ti97 ti98 ti99 ti100 ti101 ti102 ti103 ti104 ti105 ti106 ti107 ti108 ti109 ti110 ti111 ti112 ti113 ti114 ti115 ti116 ti117 ti118 ti119 ti120 ti121 ti122 ti123 ti124 ti125 ti126 ti127 ti128 ti129 ti130 ti131 ti132 ti133 ti134 ti135 ti136 ti137 ti138 ti139 ti140 ti141 ti142 ti143 ti144 ti145 ti146 ti147 ti148 ti149 ti150 ti151 ti152 ti153 ti154 ti155 ti156 ti157 ti158 ti159 ti160 ti161 ti162 ti163 ti164 ti165 ti166 ti167 ti168 ti169 ti170 ti171 ti172 ti173 ti174 ti175 ti176 ti177 ti178 ti179 ti180 ti181 ti182 ti183 ti184 ti185 ti186 ti187 ti188 ti189 ti190
end Go.Proofs.YtpncgjcflkhemaaGreat
namespace Clk
open Go Go.Proofs Go.Shelf Go.Sort Go.RowKit Go.Lib
def cmpI (x y : Int) : Int := if x < y then -1 else if y < x then 1 else 0
def orI (x y : Int) : Int := if x = 0 then y else x
def cfK {α : Type} (key : α -> Int × Int) (x y : α) : Int := orI (cmpI (key x).1 (key y).1) (cmpI (key x).2 (key y).2)
theorem z05e {α : Type} (key : α -> Int × Int) (x y : α) : ltOf (cfK key) x y = true ↔ ((key x).1 < (key y).1 \/ ((key x).1 = (key y).1 /\ (key x).2 < (key y).2)) := by
 unfold ltOf cfK orI cmpI; rw [decide_eq_true_iff]; repeat' split
 all_goals (constructor <;> intro h <;> omega)
theorem zsd {α : Type} (key : α -> Int × Int) (x y : α) : ltOf (cfK key) x y = false ↔ ¬ ((key x).1 < (key y).1 \/ ((key x).1 = (key y).1 /\ (key x).2 < (key y).2)) := by
 rw [<- z05e]; simp
theorem z05f {α : Type} (key : α -> Int × Int) : SWO (ltOf (cfK key)) where
 irrefl x := by rw [zsd]; omega
 trans x y z h1 h2 := by rw [z05e] at *; omega
 ntrans x y z h1 h2 := by rw [zsd] at *; omega
theorem z08y {α : Type} (key : α -> Int × Int) (hd : ∀ x y, key x = key y -> x = y) (x y : α) (h1 : ltOf (cfK key) x y = false) (h2 : ltOf (cfK key) y x = false) : x = y := by
 rw [zsd] at *; exact hd x y (Prod.ext (by omega) (by omega))
theorem z07q {α : Type} (key : α -> Int × Int) (x y : α) : ltOf (cfK key) x y = aheadK (some (key x)) (some (key y)) := by
 rw [Bool.eq_iff_iff, z05e]; simp [aheadK]
def insL {α : Type} (lt : α -> α -> Bool) : List α -> α -> List α
 | [], r => [r]
 | x :: l, r => if lt r x then r :: x :: l else x :: insL lt l r
theorem znk {α : Type} (lt : α -> α -> Bool) : ∀ (l : List α) (r : α), (insL lt l r).Perm (r :: l)
 | [], r => List.Perm.refl _
 | x :: l, r => by
   rw [insL]; split
   · exact List.Perm.refl _
   · exact ((znk lt l r).cons x).trans (List.Perm.swap r x l)
theorem znl {α : Type} {lt : α -> α -> Bool} (hS : SWO lt) : ∀ (l : List α) (r : α), l.Pairwise (fun x y => lt y x = false) -> (insL lt l r).Pairwise (fun x y => lt y x = false)
 | [], r, _ => by simp [insL]
 | x :: l, r, h => by
   rw [List.pairwise_cons] at h; rw [insL]; split
   · rename_i hlt; refine List.pairwise_cons.2 ⟨fun y hy => ?_, List.pairwise_cons.2 h⟩; rcases List.mem_cons.1 hy with rfl | hy
     · cases hc : lt y r with
       | false => rfl
       | true => have := hS.trans _ _ _ hc hlt; rw [hS.irrefl] at this; cases this
     · cases hc : lt y r with
       | false => rfl
       | true => have := hS.trans _ _ _ hc hlt; rw [h.1 y hy] at this; cases this
   · rename_i hlt; refine List.pairwise_cons.2 ⟨fun y hy => ?_, znl hS l r h.2⟩; rcases List.mem_cons.1 ((znk lt l r).mem_iff.1 hy) with rfl | hy
     · simpa using hlt
     · exact h.1 y hy
theorem zj2 {α : Type} {lt : α -> α -> Bool} (hS : SWO lt) : ∀ (l acc : List α), acc.Pairwise (fun x y => lt y x = false) -> (l.foldl (insL lt) acc).Pairwise (fun x y => lt y x = false) /\ (l.foldl (insL lt) acc).Perm (l ++ acc)
 | [], acc, h => ⟨h, List.Perm.refl _⟩
 | x :: l, acc, h => by
   obtain ⟨h1, h2⟩ := zj2 hS l (insL lt acc x) (znl hS acc x h); refine ⟨h1, h2.trans ?_⟩; exact ((znk lt acc x).append_left l).trans List.perm_middle
theorem z0ai {α : Type} [Inhabited α] {lt : α -> α -> Bool} (hS : SWO lt) (hT : ∀ x y, lt x y = false -> lt y x = false -> x = y) (d : Array α) : d.toList.mergeSort (fun x y => !lt y x) = d.toList.foldl (insL lt) [] := by
 obtain ⟨h1, h2⟩ := zj2 hS d.toList [] .nil; rw [List.append_nil] at h2; refine List.Perm.eq_of_pairwise (le := fun x y => (!lt y x) = true) ?_ ?_ ?_ ((List.mergeSort_perm _ _).trans h2.symm)
 · intro a b _ _ h3 h4; exact hT a b (by simpa using h4) (by simpa using h3)
 · refine List.pairwise_mergeSort ?_ ?_ _
   · intro a b c h3 h4; simp only [Bool.not_eq_true'] at *; exact hS.ntrans _ _ _ h4 h3
   · intro a b; cases hc : lt b a with
     | false => simp
     | true =>
       cases hc2 : lt a b with
       | false => simp
       | true => have := hS.trans _ _ _ hc hc2; rw [hS.irrefl] at this; cases this
 · exact h1.imp fun h => by simp [h]
end Clk
namespace Clk
open Go Go.Proofs Go.Shelf Go.Sort Go.RowKit Go.Lib
theorem z0aj {w : World} {N : Nat -> Prop} {β : z0k} {f : FuncId} {u : Value} (h : Rel w N β (.fn f [] []) u) : u = .func (.func f) #[] #[] := by
 cases h with
 | imm h => cases h with | fn h _ h' _ => simp at h h'; subst h; subst h'; rfl
 | fn h _ h' _ => simp at h h'; subst h; subst h'; rfl
theorem z02i {row : List AV} (h : (rowKey row).isSome = true) : ∃ p k s a b, row = [.int .i64 p, .int .i64 k, .int .i64 s, a, b] /\ rowKey row = some (s, p) := by
 unfold rowKey at h; split at h
 · exact ⟨_, _, _, _, _, rfl, rfl⟩
 · cases h
theorem zva : ∀ {l : List (List AV)}, distA l = true -> (∀ (i : Nat) row, l[i]? = some row -> (rowKey row).isSome = true /\ row.all AV.leaf = true) /\ ∀ (i j : Nat) r s, l[i]? = some r -> l[j]? = some s -> rowKey r = rowKey s -> i = j
 | [], _ => ⟨fun i row h => by simp at h, fun i j r s h => by simp at h⟩
 | x :: l, h => by
   simp only [distA, Bool.and_eq_true] at h; obtain ⟨h1, h2⟩ := zva h.2; have hne : ∀ y ∈ l, rowKey x ≠ rowKey y := fun y hy e => by
    have := List.all_eq_true.1 h.1.2 y hy; simp [e] at this
   refine ⟨fun i row hi => ?_, fun i j r s hi hj e => ?_⟩
   · cases i with
     | zero => simp at hi; subst hi; exact h.1.1
     | succ i => exact h1 i row (by simpa using hi)
   · cases i with
     | zero =>
       cases j with
       | zero => rfl
       | succ j =>
         simp at hi hj; subst hi; exact absurd e (hne s (List.mem_of_getElem? hj))
     | succ i =>
       cases j with
       | zero =>
         simp at hi hj; subst hj; exact absurd e.symm (hne r (List.mem_of_getElem? hi))
       | succ j =>
         rw [h2 i j r s (by simpa using hi) (by simpa using hj) e]
theorem zpe (w : World) (blk : Nat) (f : Array Value -> Array Value) : (mapBlock w blk f).heap.size = w.heap.size := by simp [mapBlock]
theorem zyc {w : World} {blk : Nat} {f : Array Value -> Array Value} {c : Array Value} {e : TypeId} {fr : Nat × Nat} (h : w.heap[blk]? = some (.cells c e fr)) : (mapBlock w blk f).heap[blk]? = some (.cells (f c) e fr) := by
 show (w.heap.modify blk (onCells f))[blk]? = _; rw [Array.getElem?_modify, if_pos rfl, h]; rfl
theorem zyd {w : World} {blk r : Nat} {f : Array Value -> Array Value} (h : r ≠ blk) : (mapBlock w blk f).heap[r]? = w.heap[r]? := by
 show (w.heap.modify blk (onCells f))[r]? = _; rw [Array.getElem?_modify, if_neg fun e => h e.symm]
structure SortAt (P : Program) (f g : Nat) : Prop where
 none : ∀ (p : Option Addr) (cap : Nat) (fv : Value) (w : World), Calls P f #[.slice p 0 cap, fv] w fun e w' => e = .returned (.tuple #[]) /\ w' = w
 sort : ∀ (m : Nat) (enc : Fin (m + 1) -> List Value), (∀ x, (enc x).length = 5) -> (∀ x, ∀ v ∈ enc x, v.oneCell' = true) -> ∀ (cf : Fin (m + 1) -> Fin (m + 1) -> Int), SWO (ltOf cf) -> ∀ (blk off cap : Nat) (d : Array (Fin (m + 1))) (w : World),
  CmpLays P g #[] enc 5 cf blk off d.size w -> HoldsK enc 5 w blk off d -> blk < w.heap.size -> d.size < 4611686018427387904 -> (∀ x y, (ltOf cf) x y = false -> (ltOf cf) y x = false -> x = y) ->
  Calls P f #[.slice (some ⟨blk, off, .none⟩) d.size cap, .func (.func g) #[] #[]] w fun e w' => e = .returned (.tuple #[]) /\ ∃ n os, w' = sortWorldK enc 5 w blk off n (d.toList.mergeSort fun x y => !(ltOf cf) y x).toArray os
 cmp : ∀ (p k s : Int) (u v : Value) (p' k' s' : Int) (u' v' : Value), u.oneCell' = true -> v.oneCell' = true -> u'.oneCell' = true -> v'.oneCell' = true -> ∀ W : World,
  Calls P g #[.agg #[.int .i64 p, .int .i64 k, .int .i64 s, u, v], .agg #[.int .i64 p', .int .i64 k', .int .i64 s', u', v']] W fun e w' => e = .returned (.int .i64 (orI (cmpI s s') (cmpI p p'))) /\ ∃ q os', w' = grow (W.drewN q) os'
theorem z05g {P : Program} {f g : Nat} (S : SortAt P f g) : ∀ args H v ch, sortA g H.length args H = some (v, ch) -> ∀ (w : World) (X : Nat -> Prop) (β : z0k) (vs : Array Value), HRel w X β H -> ARel w (NN X β H) β args vs -> CallsIn (WF none) 0 P f vs w (Ends w X β H v (zg H ch)) := by
 intro args H v ch h w X β vs hr ha; have stay : ∀ (p : Option Addr) (cap : Nat) (fv : Value), CallsIn (WF none) 0 P f #[.slice p 0 cap, fv] w (Ends w X β H (.tup []) H) := fun p cap fv =>
  callsIn_wide.2 ((S.none p cap fv w).mono fun e w' ⟨h1, h2⟩ => by
   subst h2; exact ⟨.tuple #[], β, h1, Post.refl hr, .imm (.tup rfl fun i a v h => by simp at h)⟩)
 unfold sortA at h; split at h
 · rename_i x f'; split at h
   · rename_i hf; subst hf; obtain ⟨hs, hc⟩ := ha; obtain ⟨u0, u1, rfl⟩ : ∃ u0 u1, vs = #[u0, u1] := by
      obtain ⟨l⟩ := vs; match l, hs with
      | [a, b], _ => exact ⟨a, b, rfl⟩
     have r0 := hc 0 x u0 rfl rfl; have r1 := z0aj (hc 1 _ u1 rfl rfl); subst r1; split at h
     · cases h; cases r0 with | imm r0 => cases r0 with
        | crows hk ha' hu hr' => exact stay _ _ _
     · rename_i b vv n; split at h
       · rename_i k v' rows hH; split at h
         · rename_i hcond; obtain ⟨rfl, rfl, rfl, hdist, hlen⟩ := hcond; cases h; cases r0 with
           | imm r0 => cases r0
           | @ref _ _ _ _ c bi a hb hv hc' hcur =>
             have hbl : b < H.length := by
              rcases Nat.lt_or_ge b H.length with h | h
              · exact h
              · rw [zI, List.getElem?_eq_none h] at hH; cases hH
             have hob := hr.obj b bi hb; rw [hH] at hob; obtain ⟨hbk, hbv, _, _, cs, T, hcs, hfit, hrow, hcell⟩ := hob; cases hn : rows.length with
             | zero =>
               have hnil : rows = [] := List.eq_nil_of_length_eq_zero hn; subst hnil; have : zg H (some (b, .blk 5 vv true (List.foldl insA [] []))) = H := by
                show (if b < H.length then H.set b _ else _) = H; rw [if_pos hbl]; exact zzr hH
               rw [this]; exact stay _ _ _
             | succ m =>
               obtain ⟨ha0, _⟩ := hcur hbv.symm; have ha1 := ha0 (by omega); rw [Nat.zero_mul] at ha1; subst ha1; obtain ⟨d1, d2⟩ := zva hdist; let row := fun i : Fin (m + 1) => rows.getD i.val []
               have hrowi : ∀ i : Fin (m + 1), rows[i.val]? = some (row i) := fun i => by
                have : i.val < rows.length := by rw [hn]; exact i.isLt
                simp only [row, zI, zH this]; rfl
               let enc := fun i : Fin (m + 1) => (List.range 5).map fun j => cs[i.val * 5 + j]!
               let key := fun i : Fin (m + 1) => (rowKey (row i)).getD (0, 0)
               have hin : ∀ (i : Fin (m + 1)) j, j < 5 -> cs[i.val * 5 + j]? = some cs[i.val * 5 + j]! := fun i j hj => by
                have hlt : i.val * 5 + j < cs.size := by have := i.isLt; rw [hn] at hfit; omega
                rw [Array.getElem?_eq_getElem hlt, getElem!_pos cs _ hlt]
               have hkey : ∀ i : Fin (m + 1), rowKey (row i) = some (key i) := fun i => by
                have := (d1 i.val (row i) (hrowi i)).1; obtain ⟨x, hx⟩ := Option.isSome_iff_exists.1 this; simp only [key, hx]; rfl
               have hinv : ∀ i : Fin (m + 1), ∃ k a b, row i = [.int .i64 (key i).2, .int .i64 k, .int .i64 (key i).1, a, b] := fun i => by
                obtain ⟨p, k, s, a, b, e1, e2⟩ := z02i (d1 i.val (row i) (hrowi i)).1; rw [hkey i] at e2; injection e2 with e2
                exact ⟨k, a, b, by rw [e1, e2]⟩
               have hrel : ∀ (i : Fin (m + 1)) j x, (row i)[j]? = some x -> Rel w (NN X β H) β x cs[i.val * 5 + j]! := fun i j x hx => by
                have hj : j < 5 := by have := (zG.1 hx).1; rw [hrow _ _ (hrowi i)] at this; exact this
                exact hcell i.val (row i) j x _ (hrowi i) hx (hin i j hj)
               have hone : ∀ (i : Fin (m + 1)) j, j < 5 -> (cs[i.val * 5 + j]!).oneCell' = true := fun i j hj => by
                have hl := hrow _ _ (hrowi i); have hx := zH (show j < (row i).length by rw [hl]; exact hj); exact (z6q (hrel i j _ hx) (List.all_eq_true.1 (d1 i.val (row i) (hrowi i)).2 _ (List.getElem_mem _))).1
               have henc : ∀ i : Fin (m + 1), ∃ k, enc i = [.int .i64 (key i).2, .int .i64 k, .int .i64 (key i).1, cs[i.val * 5 + 3]!, cs[i.val * 5 + 4]!] := fun i => by
                obtain ⟨k, a, b, e⟩ := hinv i; refine ⟨k, ?_⟩; have e0 := z0g (hrel i 0 _ (by rw [e]; rfl)); have e1 := z0g (hrel i 1 _ (by rw [e]; rfl)); have e2 := z0g (hrel i 2 _ (by rw [e]; rfl)); show [cs[i.val * 5 + 0]!, cs[i.val * 5 + 1]!, cs[i.val * 5 + 2]!, cs[i.val * 5 + 3]!, cs[i.val * 5 + 4]!] = _; rw [e0, e1, e2]
               have hdk : ∀ x y : Fin (m + 1), key x = key y -> x = y := fun x y e => Fin.ext (d2 x.val y.val _ _ (hrowi x) (hrowi y) (by rw [hkey, hkey, e]))
               let d : Array (Fin (m + 1)) := Array.ofFn fun i => i
               have hds : d.size = m + 1 := by simp [d]
               have hblk : bi.r < w.heap.size := (Array.getElem?_eq_some_iff.1 hcs).1; have hH5 : HoldsK enc 5 w bi.r 0 d := by
                intro j hj; have hj' : j < (m + 1) * 5 := by simpa [hds] using hj
                have hjd : j / 5 < m + 1 := by omega
                have hlt : j < cs.size := by rw [hn] at hfit; omega
                have hjm : j % 5 < 5 := Nat.mod_lt _ (by omega); have e5 : (flatK enc 5 d)[j]! = cs[j]! := by
                 rw [get_flatK enc 5 d j (by rw [hds]; exact hj')]; have : d[j / 5]! = (⟨j / 5, hjd⟩ : Fin (m + 1)) := by
                  rw [getElem!_pos d _ (by rw [hds]; exact hjd)]; simp [d]
                 rw [this]; show ((List.range 5).map fun q => cs[j / 5 * 5 + q]!)[j % 5]! = _; rw [getElem!_pos _ _ (by simpa using hjm)]; simp only [List.getElem_map, List.getElem_range]; rw [show j / 5 * 5 + j % 5 = j by omega]
                rw [e5, Nat.zero_add]; refine ⟨?_, ?_⟩
                · unfold World.cell?; rw [hcs]; show cs[j]? = _; rw [Array.getElem?_eq_getElem hlt, getElem!_pos cs _ hlt]; rfl
                · unfold World.frozen?; rw [hcs]; simp
               have hcmp : CmpLays P f' #[] enc 5 (cfK key) bi.r 0 d.size w := fun mm os dk hsz x y => by
                obtain ⟨k, ex⟩ := henc x; obtain ⟨k', ey⟩ := henc y; have := S.cmp (key x).2 k (key x).1 _ _ (key y).2 k' (key y).1 _ _ (hone x 3 (by omega)) (hone x 4 (by omega)) (hone y 3 (by omega)) (hone y 4 (by omega)) (sortWorldK enc 5 w bi.r 0 mm dk os); rw [ex, ey]; exact this
               have call := S.sort m enc (fun x => by simp [enc]) (fun x v hv => by
                obtain ⟨j, hj, rfl⟩ := List.mem_map.1 hv; exact hone x j (List.mem_range.1 hj)) (cfK key) (z05f key) bi.r 0 c d w hcmp hH5 hblk (by rw [hds]; omega) (z08y key hdk)
               rw [hds] at call; refine callsIn_wide.2 (call.mono fun e w' ⟨he, q, os, hw⟩ => ?_); rw [z0ai (z05f key) (z08y key hdk)] at hw; generalize hl : d.toList.foldl (insL (ltOf (cfK key))) [] = l at hw; have hlp : l.Perm d.toList := by
                have := (zj2 (z05f key) d.toList [] .nil).2; rw [List.append_nil, hl] at this; exact this
               have hll : l.length = m + 1 := by rw [hlp.length_eq]; simp [d]
               have hrows : rows.foldl insA [] = l.map row := by
                have h1 : rows = d.toList.map row := by
                 apply List.ext_getElem?
                 intro i; simp only [d, Array.toList_ofFn, List.getElem?_map, List.getElem?_ofFn]; by_cases hi : i < m + 1
                 · rw [dif_pos hi]; exact hrowi ⟨i, hi⟩
                 · rw [dif_neg hi, List.getElem?_eq_none (by omega)]; rfl
                have h2 : ∀ (a b : List (Fin (m + 1))), (a.map row).foldl insA (b.map row) = (a.foldl (insL (ltOf (cfK key))) b).map row := by
                 intro a; induction a with
                 | nil => intro b; rfl
                 | cons x a ih =>
                   intro b; rw [List.map_cons, List.foldl_cons, List.foldl_cons, <- ih]; congr 1
                   exact (z006 (f := row) (ins := insL (ltOf (cfK key))) (ah := ltOf (cfK key)) (fun _ => rfl) (fun _ _ _ => rfl) (fun a b => by rw [z07q, hkey, hkey]) b x).symm
                rw [<- hl]; have := h2 d.toList []; rw [<- h1] at this; exact this
               have hat : (Sort.ahead w q).heap[bi.r]? = some (.cells cs T (0, 0)) := hcs; let cs' := putCells id 0 (flatK enc 5 l.toArray) cs
               have hget : ∀ (i j : Nat) (x : Fin (m + 1)), l[i]? = some x -> j < 5 -> cs'[i * 5 + j]? = some cs[x.val * 5 + j]! := fun i j x hx hj => by
                have hi : i < m + 1 := by have := (zG.1 hx).1; omega
                have hlt : i * 5 + j < cs.size := by rw [hn] at hfit; omega
                have hlt2 : i * 5 + j < (m + 1) * 5 := by omega
                simp only [cs', putCells, Array.getElem?_mapIdx, Array.getElem?_eq_getElem hlt, Option.map_some, size_flatK, List.size_toArray, hll]; rw [if_pos ⟨Nat.zero_le _, by omega⟩, Nat.sub_zero, get_flatK enc 5 l.toArray _ (by simpa [hll] using hlt2), show (i * 5 + j) / 5 = i by omega, show (i * 5 + j) % 5 = j by omega]; have : l.toArray[i]! = x := by
                 have hil : i < l.toArray.size := by simpa [hll] using hi
                 rw [getElem!_pos l.toArray i hil]; have h9 := (zG.1 hx).2; simpa using h9
                rw [this]; show some (((List.range 5).map fun q => cs[x.val * 5 + q]!)[j]!) = _; rw [getElem!_pos ((List.range 5).map fun q => cs[x.val * 5 + q]!) j (by simpa using hj)]; simp
               have wr := hr.write (w' := putRowK enc 5 (Sort.ahead w q) bi.r 0 l.toArray) (rows' := rows.foldl insA []) (cs' := cs') hb hH rfl rfl rfl (zpe _ _ _) hcs (zyc hat) (fun r hne => zyd hne) (by simp [cs', putCells]) (by rw [hrows]; simp [hll]; rw [hn] at hfit; omega)
                (fun i rw' hi => by
                  rw [hrows, List.getElem?_map, Option.map_eq_some_iff] at hi; obtain ⟨x, hx, rfl⟩ := hi; exact hrow _ _ (hrowi x))
                (fun i rw' j y u hi hj hu => by
                  rw [hrows, List.getElem?_map, Option.map_eq_some_iff] at hi; obtain ⟨x, hx, rfl⟩ := hi; have hj5 : j < 5 := by have := (zG.1 hj).1; rw [hrow _ _ (hrowi x)] at this; exact this
                  rw [hget i j x hx hj5] at hu; cases hu; exact hrel x j y hj)
               obtain ⟨wr1, wr2⟩ := wr; obtain ⟨g1, g2⟩ := wr1.ext (w' := w') (by rw [hw]; show _ <= (_ ++ os).size; rw [Array.size_append]; exact Nat.le_add_right _ _) (fun r hlt => by
                rw [hw]; show ((putRowK enc 5 (Sort.ahead w q) bi.r 0 l.toArray).heap ++ os)[r]? = _; rw [Array.getElem?_append_left hlt]) (by rw [hw]; rfl) (by rw [hw]; rfl) (by rw [hw]; rfl)
               have hap : zg H (some (b, .blk 5 vv true (rows.foldl insA []))) = H.set b (.blk 5 vv true (rows.foldl insA [])) := by
                show (if b < H.length then H.set b _ else _) = _; rw [if_pos hbl]
               rw [hap]; exact ⟨.tuple #[], β, he, ⟨g1, wr2.trans g2, fun _ _ h => h, by simp⟩, .imm (.tup rfl fun i a v h => by simp at h)⟩
         · cases h
       · cases h
     · cases h
   · cases h
 · cases h
end Clk
namespace Go.Proofs
open Go.Shelf
def Tryz.sortL_ren : Go.Shelf.Ren := ⟨fun | 6 => 67 | 15 => 85 | 14 => 84 | 28 => 103 | 29 => 104 | 20 => 95 | 21 => 96 | 22 => 97 | 23 => 98 | 24 => 99 | 25 => 100 | 26 => 101 | 27 => 102 | 46 => 116 | 47 => 117 | 48 => 118 | 49 => 119 | 50 => 120 | 57 => 126 | n => n, fun | 22 => 90 | 24 => 93 | 25 => 114 | 3 => 3 | 39 => 129 | 0 => 0 | 53 => 144 | 55 => 146 | 4 => 4 | 46 => 138 | 45 => 137 | 50 => 117 | 5 => 5 | 9 => 9 | 66 => 161 | 70 => 165 | 76 => 170 | 77 => 171 | n => n, fun | n => n⟩
theorem Tryz.sortL : Go.Proofs.SlLaysF0.n6 Tryz.prog Tryz.sortL_ren := {
 mixed := by kernel_rfl
 f6 := ⟨Tryz.f67.name, by decide, Tryz.func67.trans (congrArg some (by kernel_rfl))⟩
 f14 := ⟨Tryz.f84.name, by decide, Tryz.func84.trans (congrArg some (by kernel_rfl))⟩
 f15 := Tryz.func85.trans (congrArg some (by kernel_rfl))
 f20 := ⟨Tryz.f95.name, by decide, Tryz.func95.trans (congrArg some (by kernel_rfl))⟩
 f21 := ⟨Tryz.f96.name, by decide, Tryz.func96.trans (congrArg some (by kernel_rfl))⟩
 f22 := ⟨Tryz.f97.name, by decide, Tryz.func97.trans (congrArg some (by kernel_rfl))⟩
 f23 := ⟨Tryz.f98.name, by decide, Tryz.func98.trans (congrArg some (by kernel_rfl))⟩
 f24 := ⟨Tryz.f99.name, by decide, Tryz.func99.trans (congrArg some (by kernel_rfl))⟩
 f25 := ⟨Tryz.f100.name, by decide, Tryz.func100.trans (congrArg some (by kernel_rfl))⟩
 f26 := ⟨Tryz.f101.name, by decide, Tryz.func101.trans (congrArg some (by kernel_rfl))⟩
 f27 := ⟨Tryz.f102.name, by decide, Tryz.func102.trans (congrArg some (by kernel_rfl))⟩
 f28 := Tryz.func103.trans (congrArg some (by kernel_rfl))
 f29 := Tryz.func104.trans (congrArg some (by kernel_rfl))
 f46 := ⟨Tryz.f116.name, by decide, Tryz.func116.trans (congrArg some (by kernel_rfl))⟩
 f47 := Tryz.func117.trans (congrArg some (by kernel_rfl))
 f48 := Tryz.func118.trans (congrArg some (by kernel_rfl))
 f49 := ⟨Tryz.f119.name, by decide, Tryz.func119.trans (congrArg some (by kernel_rfl))⟩
 f50 := ⟨Tryz.f120.name, by decide, Tryz.func120.trans (congrArg some (by kernel_rfl))⟩
 f57 := ⟨Tryz.f126.name, by decide, Tryz.func126.trans (congrArg some (by kernel_rfl))⟩
 t0 := Tryz.underlying0
 a0 := Tryz.isAgg0
 z0 := Tryz.sizeOf0
 v0 := Tryz.zeroValue0
 t3 := Tryz.underlying3
 a3 := Tryz.isAgg3
 z3 := Tryz.sizeOf3
 v3 := Tryz.zeroValue3
 t4 := Tryz.underlying4
 a4 := Tryz.isAgg4
 z4 := Tryz.sizeOf4
 v4 := Tryz.zeroValue4
 t5 := Tryz.underlying5
 a5 := Tryz.isAgg5
 z5 := Tryz.sizeOf5
 v5 := Tryz.zeroValue5
 t9 := Tryz.underlying9
 a9 := Tryz.isAgg9
 z9 := Tryz.sizeOf9
 v9 := Tryz.zeroValue9
 t22 := Tryz.underlying90
 a22 := Tryz.isAgg90
 z22 := Tryz.sizeOf90
 v22 := Tryz.zeroValue90
 t25 := Tryz.underlying114
 a25 := Tryz.isAgg114
 z25 := Tryz.sizeOf114
 v25 := Tryz.zeroValue114
 t39 := Tryz.underlying129
 a39 := Tryz.isAgg129
 z39 := Tryz.sizeOf129
 v39 := Tryz.zeroValue129
 t45 := Tryz.underlying137
 a45 := Tryz.isAgg137
 z45 := Tryz.sizeOf137
 v45 := Tryz.zeroValue137
 t46 := Tryz.underlying138
 a46 := Tryz.isAgg138
 z46 := Tryz.sizeOf138
 v46 := Tryz.zeroValue138
 t50 := Tryz.underlying117
 a50 := Tryz.isAgg117
 z50 := Tryz.sizeOf117
 v50 := Tryz.zeroValue117
 t53 := Tryz.underlying144
 a53 := Tryz.isAgg144
 z53 := Tryz.sizeOf144
 v53 := Tryz.zeroValue144
 t55 := Tryz.underlying146
 a55 := Tryz.isAgg146
 z55 := Tryz.sizeOf146
 v55 := Tryz.zeroValue146
 t66 := Tryz.underlying161
 a66 := Tryz.isAgg161
 z66 := Tryz.sizeOf161
 v66 := Tryz.zeroValue161
 t70 := Tryz.underlying165
 a70 := Tryz.isAgg165
 z70 := Tryz.sizeOf165
 v70 := Tryz.zeroValue165
 t76 := Tryz.underlying170
 a76 := Tryz.isAgg170
 z76 := Tryz.sizeOf170
 v76 := Tryz.zeroValue170
 t77 := Tryz.underlying171
 a77 := Tryz.isAgg171
 z77 := Tryz.sizeOf171
 v77 := Tryz.zeroValue171 }
end Go.Proofs
namespace Go.Proofs.YtpncgjcflkhemaaGreat
open Clk Go Go.Proofs Go.Shelf Go.RowKit Go.Lib Go.Sort
theorem nan86 (x : Int) (W : World) : Calls Tryz.prog 86 #[.int .i64 x] W fun e w' => e = .returned (.bool false) /\ w' = W := by
 go_enter Tryz.func86, Tryz.ntmps86
 go_wp2
 go_ret
 simp
set_option maxHeartbeats 1000000 in
theorem cmp70 (x y : Int) (W : World) : Calls Tryz.prog 70 #[.int .i64 x, .int .i64 y] W fun e w' => e = .returned (.int .i64 (cmpI x y)) /\ w' = W := by
 have hn := nan86; unfold cmpI; go_enter Tryz.func70, Tryz.ntmps70
 go_wp2_with (go_at_call 86; refine (hn _ _).mono ?_; rintro e w' ⟨rfl, rfl⟩)
 all_goals go_ret
 all_goals refine ⟨?_, rfl⟩
 all_goals first
  | rfl
  | rw [if_pos (by assumption)]
  | rw [if_neg (by omega), if_pos (by assumption)]
  | rw [if_neg (by omega), if_neg (by omega)]
set_option maxHeartbeats 2000000 in
theorem or69 (b o c : Nat) (x y : Int) (W : World) (h0 : W.cell? ⟨b, o, none⟩ = some (.int .i64 x)) (h1 : W.cell? ⟨b, o + 1, none⟩ = some (.int .i64 y)) :
 Calls Tryz.prog 69 #[.slice (some ⟨b, o, none⟩) 2 c] W fun e w' => e = .returned (.int .i64 (orI x y)) /\ w' = W := by
 by_cases hx : x = 0
 · subst hx; have e : orI 0 y = y := rfl; rw [e]; go_enter Tryz.func69, Tryz.ntmps69
   go_wp2
   refine wp_loop_rounds 3 ?_; rw [rounds_succ]; go_wp2
   all_goals rw [rounds_succ]
   go_wp2
   all_goals try (go_ret; exact ⟨rfl, rfl⟩)
   rename_i hy; have hy : y = 0 := by simpa using hy
   subst hy; rw [rounds_succ]; go_wp2
   go_ret
   exact ⟨rfl, rfl⟩
 · have e : orI x y = x := if_neg hx; rw [e]; have hx2 : (x != 0) = true := by simpa using hx
   go_enter Tryz.func69, Tryz.ntmps69
   go_wp2
   refine wp_loop_rounds 3 ?_; rw [rounds_succ]; go_wp2
   all_goals try (go_ret; exact ⟨rfl, rfl⟩)
theorem zqv {W W3 : World} {o1 o2 : Obj} {c1 : Array Value} {t1 : TypeId} {fz : Nat × Nat} (h : W3.heap = (W.heap.push o1).push o2) (e : o1 = .cells c1 t1 fz) (i : Nat) : W3.cell? ⟨W.heap.size, i, none⟩ = c1[i]? := by
 subst e; have : W3.heap[W.heap.size]? = some (.cells c1 t1 fz) := by rw [h, Array.getElem?_push, if_neg (by simp), Array.getElem?_push, if_pos rfl]
 unfold World.cell?; rw [this]; rfl
theorem zqw {W W3 : World} {o1 o2 : Obj} {c1 : Array Value} {t1 : TypeId} {fz : Nat × Nat} (h : W3.heap = (W.heap.push o1).push o2) (e : o2 = .cells c1 t1 fz) (i : Nat) : W3.cell? ⟨W.heap.size + 1, i, none⟩ = c1[i]? := by
 subst e; have : W3.heap[W.heap.size + 1]? = some (.cells c1 t1 fz) := by rw [h, Array.getElem?_push, if_pos (by simp)]
 unfold World.cell?; rw [this]; rfl
theorem or69n (x y : Int) (W : World) : Calls Tryz.prog 69 #[.slice (some ⟨W.heap.size, 0, none⟩) 2 2] (W.alloc (.cells #[.int .i64 x, .int .i64 y] 3)) fun e w' => e = .returned (.int .i64 (orI x y)) /\ w' = W.alloc (.cells #[.int .i64 x, .int .i64 y] 3) := by
 have h : (W.alloc (.cells #[.int .i64 x, .int .i64 y] 3)).heap[W.heap.size]? = some (.cells #[.int .i64 x, .int .i64 y] 3) := by
  show (W.heap.push _)[W.heap.size]? = _; rw [Array.getElem?_push, if_pos rfl]
 exact or69 W.heap.size 0 2 x y _ (by unfold World.cell?; rw [h]; rfl) (by unfold World.cell?; rw [h]; rfl)
set_option maxHeartbeats 4000000 in
theorem cmp68 (p k s : Int) (u v : Value) (p' k' s' : Int) (u' v' : Value) (hu : u.oneCell' = true) (hv : v.oneCell' = true) (hu' : u'.oneCell' = true) (hv' : v'.oneCell' = true) (W : World) :
 Calls Tryz.prog 68 #[.agg #[.int .i64 p, .int .i64 k, .int .i64 s, u, v], .agg #[.int .i64 p', .int .i64 k', .int .i64 s', u', v']] W fun e w' => e = .returned (.int .i64 (orI (cmpI s s') (cmpI p p'))) /\ ∃ q os', w' = grow (W.drewN q) os' := by
 have hc := cmp70; have ho := or69n; go_enter Tryz.func68, Tryz.ntmps68
 go_wp2
 refine wp_region_still_tail 12 (by kernel_rfl) (by kernel_rfl) ?_; simp only [List.take_succ_cons, List.take_zero, List.drop_succ_cons, List.drop_zero]; generalize hW3 : ({ (W.alloc _).alloc _ with drawn := _ } : World) = W3; have hh : W3.heap = (W.heap.push (.cells #[.int .i64 p, .int .i64 k, .int .i64 s, u, v] 93)).push (.cells #[.int .i64 p', .int .i64 k', .int .i64 s', u', v'] 93) := by rw [<- hW3]; rfl
 have hq : W3 = grow (W.drewN 1) #[.cells #[.int .i64 p, .int .i64 k, .int .i64 s, u, v] 93, .cells #[.int .i64 p', .int .i64 k', .int .i64 s', u', v'] 93] := by rw [<- hW3]; rfl
 have f1 : W3.cell? ⟨W.heap.size, 2, none⟩ = some (.int .i64 s) := zqv hh rfl 2; have f2 : W3.cell? ⟨W.heap.size, 0, none⟩ = some (.int .i64 p) := zqv hh rfl 0; have f3 : W3.cell? ⟨W.heap.size + 1, 2, none⟩ = some (.int .i64 s') := zqw hh rfl 2; have f4 : W3.cell? ⟨W.heap.size + 1, 0, none⟩ = some (.int .i64 p') := zqw hh rfl 0; have hg : ∃ os, W3 = grow (W.drewN 1) os := ⟨_, hq⟩; clear hW3 hh hq; repeat still_step
 still_call (hc _ _ _)
 repeat still_step
 still_call (hc _ _ _)
 refine wpStill_nil ?_; go_wp2_with (go_at_call 69; refine (ho _ _ _).mono ?_; rintro e w' ⟨rfl, rfl⟩)
 obtain ⟨os, rfl⟩ := hg; go_ret
 exact ⟨rfl, 1, os ++ #[.cells #[.int .i64 (cmpI s s'), .int .i64 (cmpI p p')] 3], by rw [alloc_eq_grow, grow_grow]⟩
theorem sortAt : SortAt Tryz.prog 67 68 where
 none p cap fv w := AnyF.slices_SortFunc_none (P := Tryz.prog) (ρ := Tryz.sortL_ren) Tryz.sortL p cap fv w
 sort m enc hk h1 cf hO blk off cap d w hcmp hH hblk hsz hT := AnyQ.slices_SortFunc_total Tryz.sortL 5 Tryz.isAgg93 Tryz.sizeOf93 enc hk h1 cf hO 68 #[] blk off cap d w (enters_of Tryz.func68 (by kernel_rfl) rfl) hcmp hH hblk hsz hT
 cmp := cmp68
end Go.Proofs.YtpncgjcflkhemaaGreat
namespace Go.Proofs.YtpncgjcflkhemaaGreat
open Go Go.Proofs Clk
theorem zqx {H : List AO} {te : TI} {x : AV} {rs : List (List AV)} (h : z0h H x = some rs) : newRows H te x = some rs := by
 cases x <;> first | exact h | (simp [z0h] at h)
theorem z0w : Clk.Good Tryz.prog := ⟨by kernel_rfl, fun f fn h hn => by
 have : Tryz.prog.funcs.all (fun fn => fn.name != "runtime.NumGoroutine") = true := by kernel_rfl
 rw [Array.all_eq_true] at this; obtain ⟨hi, h'⟩ := Array.getElem?_eq_some_iff.1 h; have := this f hi; rw [h', hn] at this; simp at this⟩
theorem clone72 : ∀ args H v ch, cloneA 1 8 H.length args H = some (v, ch) -> ∀ (w : World) (X : Nat -> Prop) (β : z0k) (vs : Array Value), HRel w X β H -> ARel w (NN X β H) β args vs -> CallsIn (WF none) 0 Tryz.prog 72 vs w (Clk.Ends w X β H v (zg H ch)) := by
 refine z04f z0w Tryz.func72 (by rfl) (by rfl) (by rfl) (by rfl) (by rfl) (by rfl) (by rfl) (by rfl) (by rfl) Tryz.underlying25 (fun x H => ⟨20, ?_⟩) (fun x H => ⟨20, ?_⟩) (fun x H v ch h => ?_)
 · simp (config := {dsimp := false}) only [go_sem]
 · simp (config := {dsimp := false}) only [go_sem]
 · unfold cloneA at h; simp only at h; split at h
   · rename_i hrs; cases h; have hnr : ∀ te, newRows H te x = some [] := fun te => zqx hrs
     refine ⟨20, ?_⟩; simp (config := {dsimp := false}) only [go_sem, hnr, reduceIte, Nat.reduceEqDiff, reduceCtorEq, Nat.zero_mul, Nat.not_lt_zero, gt_iff_lt, or_self, Nat.zero_le]; refine ⟨_, rfl, ?_⟩; rfl
   · rename_i rs hne hrs; split at h
     · rename_i hc; cases h; simp only [Bool.and_eq_true, decide_eq_true_eq] at hc; have hnr : ∀ te, newRows H te x = some rs := fun te => zqx hrs
       have h1 : ¬ (z01 < rs.length * 8) := Nat.not_lt.2 hc.1.2; have h2 : ¬ (z01 < rs.length) := Nat.not_lt.2 hc.2; have h3 : rs.all (fun r => r.length == 1) = true := hc.1.1; have h4 : rs.length ≠ 0 := fun e => hne (List.eq_nil_of_length_eq_zero e)
       refine ⟨20, ?_⟩; simp (config := {dsimp := false}) only [go_sem, hnr, reduceIte, Nat.reduceEqDiff, reduceCtorEq, gt_iff_lt, h1, h2, h3, h4, or_self, Bool.and_self]; refine ⟨_, rfl, ?_⟩; rfl
     · cases h
   · cases h
def primW : FuncId -> Option (Nat -> List AV -> List AO -> Res) := fun f => if f = 72 then some (cloneA 1 8) else if f = 67 then some (sortA 68) else none
theorem z07r : PrimOk Tryz.prog primW := by
 intro f h e; unfold primW at e; split at e
 · rename_i hf; subst hf; cases e; exact ⟨⟨_, Tryz.func72, by rfl⟩, clone72⟩
 · split at e
   · rename_i hf; subst hf; cases e; exact ⟨⟨_, Tryz.func67, by rfl⟩, z05g sortAt⟩
   · cases e
end Go.Proofs.YtpncgjcflkhemaaGreat
namespace Go.Proofs.YtpncgjcflkhemaaGreat
open Clk Go.Proofs
theorem z0ak : z0p.prim = primW := by
 funext f
 by_cases h : f < 149
 · have key : (List.range 149).map z0p.prim = (List.range 149).map primW := by kernel_rfl
   have := congrArg (fun l => l[f]?) key; simp only [List.getElem?_map, List.getElem?_range h, Option.map_some] at this; exact Option.some.inj this
 · have h' : 149 <= f := Nat.le_of_not_lt h; have hl : z0p.cl.length = 149 := by kernel_rfl
   have h1 : z0p.cl.length <= f := Nat.le_trans (Nat.le_of_eq hl) h'; have n1 : f ≠ 72 := fun e => absurd (e ▸ h') (by decide)
   have n2 : f ≠ 67 := fun e => absurd (e ▸ h') (by decide)
   unfold Seat.prim primW; rw [zI, List.getElem?_eq_none h1, if_neg n1, if_neg n2]; rfl
theorem zh : PrimOk Tryz.prog z0p.prim := by rw [z0ak]; exact z07r
end Go.Proofs.YtpncgjcflkhemaaGreat
namespace Go.Proofs.YtpncgjcflkhemaaGreat
open Clk Go Go.Proofs
theorem zse {W : World} {b : Nat} {s : ByteArray} {t : TypeId} (h : W.heap[b]? = some (.cells #[.string s] t (0, 0))) : W.cell? ⟨b, 0, none⟩ = some (.string s) /\ W.frozen? ⟨b, 0, none⟩ = false := by
 constructor
 · unfold World.cell?; rw [h]; rfl
 · unfold World.frozen?; rw [h]; simp
set_option maxHeartbeats 1000000 in
theorem zsf {U : Str -> Option (List Int × Str × Int)} (hU : zah Tryz.prog 122 U) {s r : Str} {l : List Int} (h : U s = some (l, r, 0)) (b : Nat) (t : TypeId) (w : World) (N : Nat -> Prop) (hN : ∀ x, N x -> x < w.heap.size) (hb : w.heap[b]? = some (.cells #[.string ⟨s.toArray⟩] t (0, 0))) (hNb : N b) :
 Calls Tryz.prog 110 #[.pointer (some ⟨b, 0, none⟩)] w fun en w' => ∃ v, en = .returned v /\ Gr (fun x => x = b) w w' /\ RelI w' N (eInts l) v /\ w'.heap[b]? = some (.cells #[.string ⟨r.toArray⟩] t (0, 0)) := by
 obtain ⟨c1, c2⟩ := zse hb; have hc := hU s l r 0 h w N hN; have hbl : b < w.heap.size := (Array.getElem?_eq_some_iff.1 hb).1; go_enter Tryz.func110, Tryz.ntmps110
 go_wp2_with (go_at_call 122; refine hc.mono ?_; rintro e w' ⟨v, rfl, hg, hv⟩; obtain ⟨c3, c4⟩ := zse ((hg.same b hbl id).trans hb))
 go_ret
 have hs := (hg.wider (L' := fun x => x = b) fun _ h => h.elim).trans (Gr.setCell (L := fun x => x = b) w' b 0 (.string ⟨r.toArray⟩) rfl); refine ⟨v, rfl, hs, (Gr.setCell (L := fun x => x = b) w' b 0 (.string ⟨r.toArray⟩) rfl).rel' (fun x e => by subst e; exact hNb) hv, ?_⟩; rw [z3d, if_pos rfl, (hg.same b hbl id).trans hb]; rfl
set_option maxHeartbeats 1000000 in
theorem z00j {U : Str -> Option (List Int × Str × Int)} (hU : zah Tryz.prog 122 U) {s r : Str} {l : List Int} {e : Int} (h : U s = some (l, r, e)) (he : e ≠ 0) (b : Nat) (t : TypeId) (w : World) (hb : w.heap[b]? = some (.cells #[.string ⟨s.toArray⟩] t (0, 0))) :
 Calls Tryz.prog 110 #[.pointer (some ⟨b, 0, none⟩)] w fun en w' => en = .panicked [{ v := .iface 33 (.int .i64 30), recovered := false }] /\ Gr (fun _ => False) w w' := by
 obtain ⟨c1, c2⟩ := zse hb; have hc := hU s l r e h w (fun _ => False) (fun _ h => h.elim); have hd : (e != 0) = true := by simpa using he
 go_enter Tryz.func110, Tryz.ntmps110
 go_wp2_with (go_at_call 122; refine hc.mono ?_; rintro e w' ⟨v, rfl, hg, hv⟩)
 exact ⟨rfl, rfl, hg⟩
set_option maxHeartbeats 2000000 in
theorem zkc (p q : Nat) (pc : Array Value) (qc : Value) (older : List PanicEntry) (w : World) (hp : w.heap[p]? = some (.cells pc 81 (0, 0))) (hps : pc.size = 4) (hq : w.heap[q]? = some (.cells #[qc] 33 (0, 0))) (hpq : p ≠ q) :
 CallsD Tryz.prog 109 #[.pointer (some ⟨p, 0, none⟩), .pointer (some ⟨q, 0, none⟩)] (.panicking ({ v := .iface 33 (.int .i64 30), recovered := false } :: older)) w fun e u' w' =>
  e = .returned (.tuple #[]) /\ u' = .panicking ({ v := .iface 33 (.int .i64 30), recovered := true } :: older) /\ Gr (fun x => x = p \/ x = q) w w' /\
  w'.heap[p]? = some (.cells #[.int .i64 0, .int .i64 0, .slice none 0 0, .slice none 0 0] 81 (0, 0)) /\ w'.heap[q]? = some (.cells #[.int .i64 30] 33 (0, 0)) := by
 refine callsD_of_wpS Tryz.func109 rfl fun c₀ cs hu => ?_
 apply wpS_seq
 apply wpS_region
 simp [wpOpsS, go_sem, recoverD, hu, Tryz.ntmps109, Exit.thenS]; apply wpS_seq
 apply wpS_region
 simp [wpOpsS, go_sem, Exit.thenS]; refine wpS_cond (t := true) (by simp [Act.eval, Array.replicate]) ?_; simp only [if_true]; refine wpS_of_wp ?_; change Code.wp Tryz.prog _ _ { tmps := #[.pointer (some ⟨p, 0, none⟩), .pointer (some ⟨q, 0, none⟩), undef, undef, .iface 33 (.int .i64 30), .iface 33 (.int .i64 30), .iface 33 (.int .i64 30), .bool true, undef, undef, undef, undef, undef, undef, undef], defers := [] } w
 have hf : ∀ i, w.frozen? ⟨p, i, none⟩ = false := fun i => by unfold World.frozen?; rw [hp]; simp
 have hcl : ∀ i, i < 4 -> ∃ v, w.cell? ⟨p, i, none⟩ = some v := fun i hi => by
  unfold World.cell?; rw [hp]; exact ⟨pc[i]'(by omega), by show pc[i]? = _; rw [Array.getElem?_eq_getElem]⟩
 obtain ⟨p0, c0⟩ := hcl 0 (by omega); obtain ⟨p1, c1⟩ := hcl 1 (by omega); obtain ⟨p2, c2⟩ := hcl 2 (by omega); obtain ⟨p3, c3⟩ := hcl 3 (by omega); have f0 := hf 0; have f1 := hf 1; have f2 := hf 2; have f3 := hf 3; have d0 : w.cell? ⟨q, 0, none⟩ = some qc := by unfold World.cell?; rw [hq]; rfl
 have g0 : w.frozen? ⟨q, 0, none⟩ = false := by unfold World.frozen?; rw [hq]; simp
 have hT : ∀ W : World, (Instr.typeAssert (.iface 33 (.int .i64 30)) 20 33 false).run Tryz.prog W = .ok (.int .i64 30) W := fun W => by kernel_rfl
 go_region
 cases c₀; simp only [bodyPostS, results, Tryz.results109]; obtain ⟨s1, s2⟩ := store4 w hp hps (.int .i64 0) (.int .i64 0) (.slice none 0 0) (.slice none 0 0); obtain ⟨s3, s4⟩ := store1 _ ((s1.same q (Array.getElem?_eq_some_iff.1 hq).1 fun e => hpq e.symm).trans hq) (.int .i64 30); refine ⟨trivial, _, rfl, .tuple #[], by simp [go_sem], rfl, rfl, (((s1.wider (L' := fun x => x = p \/ x = q) fun _ h => .inl h).trans (s3.wider fun _ h => .inr h))).drew, ?_, s4⟩; exact (s3.same p (Nat.lt_of_lt_of_le (Array.getElem?_eq_some_iff.1 hp).1 s1.size) hpq).trans s2
set_option maxHeartbeats 2000000 in
theorem znm (p q : Value) (w : World) :
 CallsD Tryz.prog 109 #[p, q] .returning w fun e u' w' => e = .returned (.tuple #[]) /\ u' = .returning /\ w' = w := by
 refine callsD_of_wpS Tryz.func109 rfl fun c₀ cs hu => ?_
 apply wpS_seq
 apply wpS_region
 simp [wpOpsS, go_sem, recoverD, hu, Tryz.ntmps109, Exit.thenS]; apply wpS_seq
 apply wpS_region
 simp [wpOpsS, go_sem, Exit.thenS]; refine wpS_cond (t := false) (by simp [Act.eval, Array.replicate]) ?_; simp only [Bool.false_eq_true, if_false]; refine wpS_of_wp (wp_skip ?_); cases c₀; simp_all [bodyPostS, results, Tryz.results109]
set_option maxHeartbeats 4000000 in
theorem z05h {U : Str -> Option (List Int × Str × Int)} (hU : zah Tryz.prog 122 U) {s r : Str} {l : List Int} {e : Int} (h : U s = some (l, r, e)) (he : e ≠ 0) (w : World) :
 Calls Tryz.prog 93 #[.string ⟨s.toArray⟩] w fun en w' => en = .returned (.tuple #[.agg #[.int .i64 0, .int .i64 0, .slice none 0 0, .slice none 0 0], .int .i64 30]) /\ Gr (fun _ => False) w w' := by
 obtain ⟨z1, z2, z3, z4, z5⟩ := alloc3 w (.cells #[.int .i64 0, .int .i64 0, .slice none 0 0, .slice none 0 0] 81) (.cells #[.int .i64 0] 33) (.cells #[.string ⟨s.toArray⟩] 158); go_enter_defers Tryz.func93, Tryz.ntmps93
 go_wp2_with (go_at_call 110; refine (z00j hU h he _ 158 _ z4).mono ?_; rintro e w' ⟨rfl, hg⟩)
 refine leaves_cons (f := 109) (args := #[.pointer (some ⟨w.heap.size, 0, none⟩), .pointer (some ⟨w.heap.size + 1, 0, none⟩)]) (by simp) (by simp [go_sem]) ?_; refine (zkc w.heap.size (w.heap.size + 1) _ _ [] _ ((hg.same _ (by omega) id).trans z2) rfl ((hg.same _ (by omega) id).trans z3) (by omega)).mono ?_; rintro e u' w'' ⟨rfl, rfl, k1, k2, k3⟩
 obtain ⟨q0, q1, q2, q3, _⟩ := cells4 k2; obtain ⟨q4, _⟩ := cells1 k3; simp [Leaves, settle, results, Tryz.results93, go_sem, q0, q1, q2, q3, q4]; exact (z1.trans hg).hide k1 (fun r h => by omega)
set_option maxHeartbeats 4000000 in
theorem z07s {U : Str -> Option (List Int × Str × Int)} (hU : zah Tryz.prog 122 U) {s r : Str} {l : List Int} (h : U s = some (l, r, 0)) (hl : l.length ≠ 2) (w : World) :
 Calls Tryz.prog 93 #[.string ⟨s.toArray⟩] w fun en w' => en = .returned (.tuple #[.agg #[.int .i64 0, .int .i64 0, .slice none 0 0, .slice none 0 0], .int .i64 30]) /\ Gr (fun _ => False) w w' := by
 obtain ⟨z1, z2, z3, z4, z5⟩ := alloc3 w (.cells #[.int .i64 0, .int .i64 0, .slice none 0 0, .slice none 0 0] 81) (.cells #[.int .i64 0] 33) (.cells #[.string ⟨s.toArray⟩] 158); have hd : ((l.length : Int) != 2) = true := by simp; omega
 go_enter_defers Tryz.func93, Tryz.ntmps93
 go_wp2_with (go_at_call 110; refine (zsf hU h _ 158 _ (fun x => x = w.heap.size + 1 + 1) (fun x hx => by omega) z4 rfl).mono ?_; rintro e w' ⟨v, rfl, hg, hv, hb⟩; obtain ⟨a, c, rfl, hv⟩ := zlk hv; have y2 := (hg.same w.heap.size (by omega) (by omega)).trans z2; have y3 := (hg.same (w.heap.size + 1) (by omega) (by omega)).trans z3; obtain ⟨q0, q1, q2, q3, q4, q5, q6, q7⟩ := cells4 y2; obtain ⟨q8, q9⟩ := cells1 y3)
 obtain ⟨s1, s2⟩ := store4 w' y2 rfl (.int .i64 0) (.int .i64 0) (.slice none 0 0) (.slice none 0 0); have y3' := (s1.same (w.heap.size + 1) (Nat.lt_of_lt_of_le (by omega) hg.size) (by omega)).trans y3; obtain ⟨s3, s4⟩ := store1 _ y3' (.int .i64 30); have s5 := (s3.same w.heap.size (Nat.lt_of_lt_of_le (by omega) (Nat.le_trans hg.size s1.size)) (by omega)).trans s2; refine leaves_cons (f := 109) (args := #[.pointer (some ⟨w.heap.size, 0, none⟩), .pointer (some ⟨w.heap.size + 1, 0, none⟩)]) (by simp) (by simp [go_sem]) ?_; refine (znm _ _ _).mono ?_; rintro e u' w'' ⟨rfl, rfl, rfl⟩
 obtain ⟨q0, q1, q2, q3, _⟩ := cells4 s5; obtain ⟨q4, _⟩ := cells1 s4; simp [Leaves, settle, results, Tryz.results93, go_sem, q0, q1, q2, q3, q4]; exact ((z1.hide hg (fun r h => by omega)).hide s1 (fun r h => by omega)).hide s3 (fun r h => by omega)
set_option maxHeartbeats 4000000 in
theorem zvb {U : Str -> Option (List Int × Str × Int)} (hU : zah Tryz.prog 122 U) {M : List Int -> Option (List Int)} (hM : MovedAt Tryz.prog 111 M) {s r1 r2 r3 : Str} {l1 l2 l3 l4 : List Int} {e3 : Int} (h1 : U s = some (l1, r1, 0)) (hl : l1.length = 2) (h2 : U r1 = some (l2, r2, 0)) (h3 : U r2 = some (l3, r3, e3)) (h4 : e3 = 0 -> M l3 = some l4) (w : World) :
 Calls Tryz.prog 93 #[.string ⟨s.toArray⟩] w fun en w' => ∃ v, en = .returned (.tuple #[v, .int .i64 (if e3 = 0 then 0 else 30)]) /\ Gr (fun _ => False) w w' /\ RelI w' (fun x => x < w.heap.size) (.agg (eRecord (if e3 = 0 then ⟨l1[0], l1[1], l2, l4⟩ else ⟨0, 0, [], []⟩))) v := by
 obtain ⟨z1, z2, z3, z4, z5⟩ := alloc3 w (.cells #[.int .i64 0, .int .i64 0, .slice none 0 0, .slice none 0 0] 81) (.cells #[.int .i64 0] 33) (.cells #[.string ⟨s.toArray⟩] 158); have hd : ((2 : Int) != 2) = false := rfl; go_enter_defers Tryz.func93, Tryz.ntmps93
 go_wp2_with (go_at_call 110; refine (zsf hU h1 _ 158 _ (fun x => x < w.heap.size + 3) (fun x hx => by omega) z4 (by omega)).mono ?_; rintro e w' ⟨v, rfl, hg, hv, hb⟩; obtain ⟨a, c, rfl, hvc⟩ := zlk hv; have y2 := (hg.same w.heap.size (by omega) (by omega)).trans z2; have y3 := (hg.same (w.heap.size + 1) (by omega) (by omega)).trans z3; obtain ⟨q0, q1, q2, q3, q4, q5, q6, q7⟩ := cells4 y2; obtain ⟨q8, q9⟩ := cells1 y3; obtain ⟨ad, rfl, g1, g2, g3, g4⟩ := hvc 0 (by omega); obtain ⟨ad', e', g1', g2', g3', g4'⟩ := hvc 1 (by omega); cases e'; rw [hl])
 obtain ⟨ab, ao, sp⟩ := ad; simp only at g1 g3 g4 g4' g2; subst g1; rw [Nat.add_zero] at g4; have n2 : ab ≠ w.heap.size + 1 + 1 := by omega
 have n3 : ab ≠ w.heap.size := by omega
 have hz := hg.size; go_region_held3 (fun W : World => W.cell? ⟨ab, ao, none⟩ = some (.int .i64 l1[0]) /\ W.cell? ⟨ab, ao + 1, none⟩ = some (.int .i64 l1[1])) (first | exact ⟨g4, g4'⟩ | exact ⟨kk1, kk2⟩ | (refine ⟨?_, ?_⟩ <;> simp only [zmz _ _ _ _ _ _ n3, kk1, kk2])) (first | (go_at_call 110; refine (zsf hU h2 _ 158 w'.drew (fun x => x < w.heap.size + 3) (fun x hx => Nat.lt_of_lt_of_le hx (by show w.heap.size + 3 <= w'.heap.size; omega)) hb (by omega)).mono ?_; rintro e w2 ⟨v2, rfl, hg2, hv2, hb2⟩; obtain ⟨a2, c2, hve, _⟩ := zlk hv2; subst hve; have yy2 := (hg2.same w.heap.size (by show w.heap.size < w'.heap.size; omega) (by omega)).trans y2; obtain ⟨Q0, Q1, Q2, Q3, Q4, Q5, Q6, Q7⟩ := cells4 yy2; have kk0 := hg2.same ab g3 n2; have kk1 := (z38 kk0).trans g4; have kk2 := (z38 kk0).trans g4'))
 obtain ⟨s1, s2⟩ := store4 w2 yy2 rfl (.int .i64 l1[0]) (.int .i64 l1[1]) (.slice a2 l2.length c2) (.slice none 0 0); have tz : Gr (fun _ => False) w ((((w2.setCell ⟨w.heap.size, 0, none⟩ (.int .i64 l1[0])).setCell ⟨w.heap.size, 1, none⟩ (.int .i64 l1[1])).setCell ⟨w.heap.size, 2, none⟩ (.slice a2 l2.length c2)).setCell ⟨w.heap.size, 3, none⟩ (.slice none 0 0)) :=
  (((z1.hide hg (fun r h => by omega)).drew).hide hg2 (fun r h => by omega)).hide s1 (fun r h => by omega)
 have hz2 : w.heap.size + 3 <= w2.heap.size := Nat.le_trans (by show _ <= w'.heap.size; omega) hg2.size; have t4 := (s1.same (w.heap.size + 1 + 1) (by omega) (by omega)).trans hb2; have t3 := (s1.same (w.heap.size + 1) (by omega) (by omega)).trans ((hg2.same (w.heap.size + 1) (by show _ < w'.heap.size; omega) (by omega)).trans y3); have tv := s1.rel' (N := fun x => x < w.heap.size + 3) (fun x e => by omega) hv2; have hz3 := Nat.le_trans hz2 s1.size; generalize ((((w2.setCell ⟨w.heap.size, 0, none⟩ (.int .i64 l1[0])).setCell ⟨w.heap.size, 1, none⟩ (.int .i64 l1[1])).setCell ⟨w.heap.size, 2, none⟩ (.slice a2 l2.length c2)).setCell ⟨w.heap.size, 3, none⟩ (.slice none 0 0)) = w3 at s1 s2 tz t4 t3 tv hz3 ⊢; clear q0 q1 q2 q3 q4 q5 q6 q7 q8 q9 Q0 Q1 Q2 Q3 Q4 Q5 Q6 Q7 kk0 kk1 kk2 g4 g4'; by_cases he : e3 = 0
 · subst he; have hm : M l3 = some l4 := h4 rfl; go_wp2_with (go_at_call 110; refine (zsf hU h3 _ 158 w3 (fun x => x < w.heap.size + 3) (fun x hx => Nat.lt_of_lt_of_le hx hz3) t4 (by omega)).mono ?_; rintro e w4 ⟨v3, rfl, hg3, hv3, hb3⟩; have u2 := (hg3.same w.heap.size (by omega) (by omega)).trans s2; have u1 := (hg3.same (w.heap.size + 1) (by omega) (by omega)).trans t3; have hz4 := Nat.le_trans hz3 hg3.size)
   refine (hM l3 l4 hm w4 (fun x => x < w.heap.size + 3) v3 (fun x hx => Nat.lt_of_lt_of_le hx hz4) hv3).mono ?_; rintro e w5 ⟨v4, rfl, hg4, hv4⟩
   obtain ⟨a4, c4, hve4, _⟩ := zlk hv4; subst hve4; have x2 := (hg4.same w.heap.size (by omega) id).trans u2; have x1 := (hg4.same (w.heap.size + 1) (by omega) id).trans u1; obtain ⟨Q0, Q1, Q2, Q3, Q4, Q5, Q6, Q7⟩ := cells4 x2; obtain ⟨Q8, Q9⟩ := cells1 x1; go_wp2
   obtain ⟨a1, a2'⟩ := store3 w5 x2 (.slice a4 l4.length c4); obtain ⟨b1, b2⟩ := store4 _ a2' rfl (.int .i64 l1[0]) (.int .i64 l1[1]) (.slice a2 l2.length c2) (.slice a4 l4.length c4); have hz5 := Nat.le_trans hz4 hg4.size; have b3 := (b1.same (w.heap.size + 1) (Nat.lt_of_lt_of_le (by omega) a1.size) (by omega)).trans ((a1.same (w.heap.size + 1) (by omega) (by omega)).trans x1); obtain ⟨d1, d2⟩ := store1 _ b3 (.int .i64 0); have d3 := (d1.same w.heap.size (Nat.lt_of_lt_of_le (by omega) (Nat.le_trans a1.size b1.size)) (by omega)).trans b2; have gAll : Gr (fun x => x < w.heap.size + 3) w3 _ := ((((hg3.wider fun _ h => by omega).trans (hg4.wider fun _ h => h.elim)).trans (a1.wider fun _ h => by omega)).trans (b1.wider fun _ h => by omega)).trans (d1.wider fun _ h => by omega); have gTail : Gr (fun x => x < w.heap.size + 3) w5 _ := ((a1.wider fun _ h => by omega).trans (b1.wider fun _ h => by omega)).trans (d1.wider fun _ h => by omega); refine leaves_cons (f := 109) (args := #[.pointer (some ⟨w.heap.size, 0, none⟩), .pointer (some ⟨w.heap.size + 1, 0, none⟩)]) (by simp) (by simp [go_sem]) ?_; refine (znm _ _ _).mono ?_; rintro e u' w'' ⟨rfl, rfl, rfl⟩
   obtain ⟨q0, q1, q2, q3, _⟩ := cells4 d3; obtain ⟨q4, _⟩ := cells1 d2; have fin1 := ((((tz.hide hg3 (fun r h => by omega)).hide hg4 (fun r h => h.elim)).hide a1 (fun r h => by omega)).hide b1 (fun r h => by omega)).hide d1 (fun r h => by omega); have fin2 := zsa (a := l1[0]) (b := l1[1]) (gAll.rel (N' := fun x => x < w.heap.size) (fun _ h => h) (fun _ h => by omega) tv) (gTail.rel (N' := fun x => x < w.heap.size) (fun _ h => h) (fun _ h => by omega) hv4); simp [Leaves, settle, results, Tryz.results93, go_sem, q0, q1, q2, q3, q4]; exact ⟨fin1, fin2⟩
 · go_wp2_with (go_at_call 110; refine (z00j hU h3 he _ 158 w3 t4).mono ?_; rintro e w4 ⟨rfl, hg3⟩)
   refine leaves_cons (f := 109) (args := #[.pointer (some ⟨w.heap.size, 0, none⟩), .pointer (some ⟨w.heap.size + 1, 0, none⟩)]) (by simp) (by simp [go_sem]) ?_; refine (zkc w.heap.size (w.heap.size + 1) _ _ [] _ ((hg3.same _ (by omega) id).trans s2) rfl ((hg3.same _ (by omega) id).trans t3) (by omega)).mono ?_; rintro e u' w'' ⟨rfl, rfl, k1, k2, k3⟩
   obtain ⟨q0, q1, q2, q3, _⟩ := cells4 k2; obtain ⟨q4, _⟩ := cells1 k3; have fin1 := (tz.hide hg3 (fun r h => h.elim)).hide k1 (fun r h => by omega); have fin2 := zsa (w := w'') (N := fun x => x < w.heap.size) (a := 0) (b := 0) zik zik; simp [Leaves, settle, results, Tryz.results93, go_sem, q0, q1, q2, q3, q4, he]; exact ⟨fin1, fin2⟩
theorem z0al {U : Str -> Option (List Int × Str × Int)} (hU : zah Tryz.prog 122 U) {M : List Int -> Option (List Int)} (hM : MovedAt Tryz.prog 111 M) : ReadAt Tryz.prog 93 U M := by
 intro s r e h w; unfold readF at h; split at h
 · cases h
 · rename_i l1 r1 e1 h1; by_cases he1 : e1 = 0
   · subst he1; rw [zT rfl, zC] at h; by_cases hl : l1.length = 2
     · rw [zT hl, zC] at h; split at h
       · cases h
       · rename_i l2 r2 e2 h2; by_cases he2 : e2 = 0
         · subst he2; rw [zT rfl, zC] at h; split at h
           · cases h
           · rename_i l3 r3 e3 h3; by_cases he3 : e3 = 0
             · rw [zT he3, zC] at h; split at h
               · cases h
               · rename_i l4 h4; cases h; have := zvb hU hM h1 hl h2 h3 (fun _ => h4) w; rw [if_pos he3, if_pos he3] at this; rw [show l1.getD 0 0 = l1[0] by simp [zI, zH (show 0 < l1.length by omega)], show l1.getD 1 0 = l1[1] by simp [zI, zH (show 1 < l1.length by omega)]]; exact this
             · rw [zF he3, zD] at h; cases h; have := zvb hU hM (l4 := []) h1 hl h2 h3 (fun e => absurd e he3) w; rw [if_neg he3, if_neg he3] at this; exact this
         · rw [zF he2, zD] at h; cases h
     · rw [zF hl, zD] at h; cases h; exact (z07s hU h1 hl w).mono fun en w' ⟨k1, k2⟩ => ⟨_, k1, k2, zsa zik zik⟩
   · rw [zF he1, zD] at h; cases h; exact (z05h hU h1 he1 w).mono fun en w' ⟨k1, k2⟩ => ⟨_, k1, k2, zsa zik zik⟩
end Go.Proofs.YtpncgjcflkhemaaGreat
namespace Clk.YtpncgjcflkhemaaGreat
open Go Go.Proofs Go.Proofs.YtpncgjcflkhemaaGreat
noncomputable def LN : List (FuncId × Spec) := []
theorem ok_N : zj Tryz.prog (zl LN) := z058
noncomputable def zd8 : Nat -> Option Tmpl := fun cx => cond (Nat.beq cx 1) (some ⟨[], [], 19, [], ([.var (.list .bool), .var .bool, J, J, J, J, J, .var .i, .var .i] ++ jN 10), [], []⟩) <| none
noncomputable def zd9 : Nat -> Nat -> Option (Nat × Nat) := fun _ _ => none
theorem zpf (N : Nat) (a0 : (List Bool)) (a1 : Bool) : z0t (z0p.mk' (z0i LN) zd8 zd9) N 400 62 [(.list .bool), .bool] [.i] (a0, a1) = zf1 N a0 a1 := by kernel_rfl
noncomputable def z9c : List (FuncId × Spec) := (62, ⟨[(.list .bool), .bool], [.i], z9a⟩) :: LN
theorem znn : zj Tryz.prog (zl z9c) := z7 zr z0w zh ok_N (by kernel_rfl) ⟨_, Tryz.func62, by rfl⟩ (tm := zd8) (gh := zd9) fun x y h => by obtain ⟨N, h⟩ := zi h; exact ⟨N, 400, (zpf N x.1 x.2).trans h⟩
noncomputable def z8p : Nat -> Option Tmpl := fun _ => none
theorem zj3 (N : Nat) (a0 : (List Bool)) (a1 : Bool) : z0t (z0p.mk' (z0i z9c) z8p zd9) N 400 44 [(.list .bool), .bool] [.bool] (a0, a1) = z2d a0 a1 := by kernel_rfl
noncomputable def z4o : List (FuncId × Spec) := (44, ⟨[(.list .bool), .bool], [.bool], z4m⟩) :: z9c
theorem zha : zj Tryz.prog (zl z4o) := z7 zr z0w zh znn (by kernel_rfl) ⟨_, Tryz.func44, by rfl⟩ (tm := z8p) (gh := zd9) fun x y h => ⟨0, 400, (zj3 0 x.1 x.2).trans h⟩
theorem z02j (N : Nat) (a0 : (List Bool)) : z0t (z0p.mk' (z0i z4o) z8p zd9) N 400 26 [(.list .bool)] [.bool] a0 = zei a0 := by kernel_rfl
noncomputable def zj4 : List (FuncId × Spec) := (26, ⟨[(.list .bool)], [.bool], ziy⟩) :: z4o
theorem zye : zj Tryz.prog (zl zj4) := z7 zr z0w zh zha (by kernel_rfl) ⟨_, Tryz.func26, by rfl⟩ (tm := z8p) (gh := zd9) fun x y h => ⟨0, 400, (z02j 0 x).trans h⟩
theorem zsg (N : Nat) (a0 : Int) (a1 : Int) (a2 : Int) : z0t (z0p.mk' (z0i zj4) z8p zd9) N 400 27 [.i, .i, .i] [.bool] (a0, a1, a2) = z6j a0 a1 a2 := by kernel_rfl
noncomputable def zba : List (FuncId × Spec) := (27, ⟨[.i, .i, .i], [.bool], z2e⟩) :: zj4
theorem zpg : zj Tryz.prog (zl zba) := z7 zr z0w zh zye (by kernel_rfl) ⟨_, Tryz.func27, by rfl⟩ (tm := z8p) (gh := zd9) fun x y h => ⟨0, 400, (zsg 0 x.1 x.2.1 x.2.2).trans h⟩
theorem zyf (N : Nat) (a0 : Geometry) : z0t (z0p.mk' (z0i zba) z8p zd9) N 400 9 [.geometry] [.bool] a0 = zb5 a0 := by kernel_rfl
noncomputable def zfx : List (FuncId × Spec) := (9, ⟨[.geometry], [.bool], z1x⟩) :: zba
theorem zvc : zj Tryz.prog (zl zfx) := z7 zr z0w zh zpg (by kernel_rfl) ⟨_, Tryz.func9, by rfl⟩ (tm := z8p) (gh := zd9) fun x y h => ⟨0, 400, (zyf 0 x).trans h⟩
theorem z05i (N : Nat) (a0 : Chip) : z0t (z0p.mk' (z0i zfx) z8p zd9) N 400 34 [.chip] [.chip] a0 = zv9 a0 := by kernel_rfl
noncomputable def zno : List (FuncId × Spec) := (34, ⟨[.chip], [.chip], zd5⟩) :: zfx
theorem z02k : zj Tryz.prog (zl zno) := z7 zr z0w zh zvc (by kernel_rfl) ⟨_, Tryz.func34, by rfl⟩ (tm := z8p) (gh := zd9) fun x y h => ⟨0, 400, (z05i 0 x).trans h⟩
theorem zsh (N : Nat) (a0 : Int) (a1 : Str) (a2 : Bool) : z0t (z0p.mk' (z0i zno) z8p zd9) N 400 131 [.i, .str, .bool] [.i, .str, .bool] (a0, a1, a2) = z6e a0 a1 a2 := by kernel_rfl
noncomputable def zbb : List (FuncId × Spec) := (131, ⟨[.i, .str, .bool], [.i, .str, .bool], z6f⟩) :: zno
theorem zph : zj Tryz.prog (zl zbb) := z7 zr z0w zh z02k (by kernel_rfl) ⟨_, Tryz.func131, by rfl⟩ (tm := z8p) (gh := zd9) fun x y h => ⟨0, 400, (zsh 0 x.1 x.2.1 x.2.2).trans h⟩
noncomputable def zkd : Nat -> Option Tmpl := fun cx => cond (Nat.beq cx 1) (some ⟨[], [], 42, [], ([.var .str, J, .var .i] ++ jN 6 ++ [.var .i, .var .i] ++ jN 31), [], []⟩) <| none
theorem zyg (N : Nat) (a0 : Str) : z0t (z0p.mk' (z0i zbb) zkd zd9) N 400 127 [.str] [.i, .str, .bool] a0 = znc N a0 := by kernel_rfl
noncomputable def zfy : List (FuncId × Spec) := (127, ⟨[.str], [.i, .str, .bool], zb0⟩) :: zbb
theorem zvd : zj Tryz.prog (zl zfy) := z7 zr z0w zh zph (by kernel_rfl) ⟨_, Tryz.func127, by rfl⟩ (tm := zkd) (gh := zd9) fun x y h => by obtain ⟨N, h⟩ := zi h; exact ⟨N, 400, (zyg N x).trans h⟩
noncomputable def zf2 : Nat -> Option Tmpl := fun cx => cond (Nat.beq cx 6) (some ⟨[.tmp 2 .i], [(0, .i)], 40, [.dead, .blk .i 0 true], ([J, J, .fix (.bref 1 0), .var .str] ++ jN 18 ++ [.var .i, .var .i] ++ jN 16 ++ [.var (.list .i)]), [], []⟩) <| none
theorem zsi (N : Nat) (a0 : Str) : z0t (z0p.mk' (z0i zfy) zf2 zd9) N 400 122 [.str] [(.list .i), .str, .i] a0 = z6g N a0 := by kernel_rfl
noncomputable def zbc : List (FuncId × Spec) := (122, ⟨[.str], [(.list .i), .str, .i], z40⟩) :: zfy
theorem zpi : zj Tryz.prog (zl zbc) := z7 zr z0w zh zvd (by kernel_rfl) ⟨_, Tryz.func122, by rfl⟩ (tm := zf2) (gh := zd9) fun x y h => by obtain ⟨N, h⟩ := zi h; exact ⟨N, 400, (zsi N x).trans h⟩
noncomputable def zke : Nat -> Option Tmpl := fun cx => cond (Nat.beq cx 1) (some ⟨[], [], 22, [.blk .i 0 false], ([.fix (.bref 0 0), .var .i, J, J, J, J, J, .fix (.bref 0 0), .fix (.bref 0 0), .var .i, .var .i] ++ jN 11 ++ [.var (.list .i)]), [], []⟩) <| none
theorem zyh (N : Nat) (a0 : (List Int)) (a1 : Int) : z0t (z0p.mk' (z0i zbc) zke zd9) N 400 111 [(.list .i), .i] [(.list .i)] (a0, a1) = zay N a0 a1 := by kernel_rfl
noncomputable def znp : List (FuncId × Spec) := (111, ⟨[(.list .i), .i], [(.list .i)], z36⟩) :: zbc
theorem zda : zj Tryz.prog (zl znp) := z7 zr z0w zh zpi (by kernel_rfl) ⟨_, Tryz.func111, by rfl⟩ (tm := zke) (gh := zd9) fun x y h => by obtain ⟨N, h⟩ := zi h; exact ⟨N, 400, (zyh N x.1 x.2).trans h⟩
noncomputable def zj5 : List (FuncId × Spec) := (93, ⟨[.str], [.record, .i], ziw⟩) :: znp
theorem zyi : zj Tryz.prog (zl zj5) := z05d (U := z40) (M := fun l => z36 (l, -1)) zda ⟨_, Tryz.func93, by rfl⟩ (z0al (z05c zda (by kernel_rfl)) (z07p (h := z36) zda (by kernel_rfl)))
theorem zyj (N : Nat) (a0 : Int) : z0t (z0p.mk' (z0i zj5) z8p zd9) N 400 86 [.i] [.bool] a0 = zfn a0 := by kernel_rfl
noncomputable def zfz : List (FuncId × Spec) := (86, ⟨[.i], [.bool], zar⟩) :: zj5
theorem zve : zj Tryz.prog (zl zfz) := z7 zr z0w zh zyi (by kernel_rfl) ⟨_, Tryz.func86, by rfl⟩ (tm := z8p) (gh := zd9) fun x y h => ⟨0, 400, (zyj 0 x).trans h⟩
theorem z02l (N : Nat) (a0 : Int) (a1 : Int) : z0t (z0p.mk' (z0i zfz) z8p zd9) N 400 132 [.i, .i] [.bool] (a0, a1) = zef a0 a1 := by kernel_rfl
noncomputable def zj6 : List (FuncId × Spec) := (132, ⟨[.i, .i], [.bool], zis⟩) :: zfz
theorem zyk : zj Tryz.prog (zl zj6) := z7 zr z0w zh zve (by kernel_rfl) ⟨_, Tryz.func132, by rfl⟩ (tm := z8p) (gh := zd9) fun x y h => ⟨0, 400, (z02l 0 x.1 x.2).trans h⟩
noncomputable def z8q : Nat -> Option Tmpl := fun cx => cond (Nat.beq cx 1) (some ⟨[], [], 21, [], ([.var (.list .i), J, J, .var .i] ++ jN 17), [], []⟩) <| none
theorem zj7 (N : Nat) (a0 : (List Int)) : z0t (z0p.mk' (z0i zj6) z8q zd9) N 400 129 [(.list .i)] [.bool] a0 = z4j N a0 := by kernel_rfl
noncomputable def z4p : List (FuncId × Spec) := (129, ⟨[(.list .i)], [.bool], z4k⟩) :: zj6
theorem zhb : zj Tryz.prog (zl z4p) := z7 zr z0w zh zyk (by kernel_rfl) ⟨_, Tryz.func129, by rfl⟩ (tm := z8q) (gh := zd9) fun x y h => by obtain ⟨N, h⟩ := zi h; exact ⟨N, 400, (zj7 N x).trans h⟩
noncomputable def znq : Nat -> Option Tmpl := fun cx => cond (Nat.beq cx 1) (some ⟨[], [], 19, [], ([.var (.list .i), .fix (.fn 128 [] []), J, J, J, J, J, .var .i, .var .i] ++ jN 10), [], []⟩) <| cond (Nat.beq cx 5) (some ⟨[], [], 19, [.blk .i 0 false], ([.var (.list .i), .fix (.fn 128 [] []), J, J, J, J, J, .var .i, .var .i] ++ jN 10 ++ [.var (.list .i)]), [], []⟩) <| cond (Nat.beq cx 6) (some ⟨[], [], 61, [.blk .i 0 false], ([.fix (.bref 0 0), J, J, .var .i, J, J, .fix (.bref 0 0)] ++ jN 54 ++ [.var (.list .i)]), [], []⟩) <| cond (Nat.beq cx 110) (some ⟨[], [], 19, [.blk .i 0 false], ([.var (.list .i), .fix (.fn 128 [] []), J, J, J, J, J, .var .i, .var .i] ++ jN 10 ++ [.var (.list .i)]), [], []⟩) <| cond (Nat.beq cx 437) (some ⟨[], [], 61, [.blk .i 0 false, .dead, .dead, .dead, .dead, .dead, .dead, .dead, .dead, .dead, .dead], ([.fix (.bref 0 0), J, J, .var .i, .sub 0 0, .var .i, .fix (.bref 0 0), J, J, J, J, .fix (.bref 0 0), J, J, J, J, .fix (.bref 0 0), J, J, J, .fix (.bref 0 0), J, J, J, J, J, .fix (.bref 0 0)] ++ jN 34 ++ [.var (.list .i)]), [], []⟩) <| cond (Nat.beq cx 7006) (some ⟨[], [], 19, [.blk .i 0 false, .dead, .dead, .dead, .dead, .dead, .dead, .dead, .dead, .dead, .dead], ([.var (.list .i), .fix (.fn 128 [] []), J, J, J, J, J, .var .i, .var .i] ++ jN 10 ++ [.var (.list .i)]), [], []⟩) <| none
theorem z02m (N : Nat) (a0 : (List Int)) : z0t (z0p.mk' (z0i z4p) znq zd9) N 400 124 [(.list .i)] [.bool] a0 = zit N a0 := by kernel_rfl
noncomputable def zj8 : List (FuncId × Spec) := (124, ⟨[(.list .i)], [.bool], ziu⟩) :: z4p
theorem zyl : zj Tryz.prog (zl zj8) := z7 zr z0w zh zhb (by kernel_rfl) ⟨_, Tryz.func124, by rfl⟩ (tm := znq) (gh := zd9) fun x y h => by obtain ⟨N, h⟩ := zi h; exact ⟨N, 400, (z02m N x).trans h⟩
noncomputable def zkf : Nat -> Option Tmpl := fun cx => cond (Nat.beq cx 106) (some ⟨[], [], 19, [.st .record], ([.var (.list .i), .fix (.fn 123 [] []), J, J, J, J, J, .var .i, .var .i] ++ jN 10 ++ [.agg .record]), [], []⟩) <| none
theorem zym (N : Nat) (a0 : Record) : z0t (z0p.mk' (z0i zj8) zkf zd9) N 400 112 [.record] [.bool] a0 = zfo N a0 := by kernel_rfl
noncomputable def zg0 : List (FuncId × Spec) := (112, ⟨[.record], [.bool], zfp⟩) :: zj8
theorem zvf : zj Tryz.prog (zl zg0) := z7 zr z0w zh zyl (by kernel_rfl) ⟨_, Tryz.func112, by rfl⟩ (tm := zkf) (gh := zd9) fun x y h => by obtain ⟨N, h⟩ := zi h; exact ⟨N, 400, (zym N x).trans h⟩
noncomputable def znr : Nat -> Option Tmpl := fun cx => cond (Nat.beq cx 6) (some ⟨[.tmp 3 (.int .u8)], [(0, (.int .u8))], 26, [.dead, .blk (.int .u8) 0 true], ([.var .i, J, J, .fix (.bref 1 0)] ++ jN 22 ++ [.var (.list (.int .u8))]), [], []⟩) <| none
theorem z02n (N : Nat) (a0 : Int) : z0t (z0p.mk' (z0i zg0) znr zd9) N 400 125 [.i] [.str] a0 = ziv N a0 := by kernel_rfl
noncomputable def zj9 : List (FuncId × Spec) := (125, ⟨[.i], [.str], zeg⟩) :: zg0
theorem zyn : zj Tryz.prog (zl zj9) := z7 zr z0w zh zvf (by kernel_rfl) ⟨_, Tryz.func125, by rfl⟩ (tm := znr) (gh := zd9) fun x y h => by obtain ⟨N, h⟩ := zi h; exact ⟨N, 400, (z02n N x).trans h⟩
noncomputable def zkg : Nat -> Option Tmpl := fun cx => cond (Nat.beq cx 1) (some ⟨[], [], 26, [], ([J, J, J, J, .var .str] ++ jN 6 ++ [.var (.list .i), .var .i, .var .i] ++ jN 12), [], []⟩) <| none
theorem zyo (N : Nat) (a0 : (List Int)) : z0t (z0p.mk' (z0i zj9) zkg zd9) N 400 113 [(.list .i)] [.str, .i] a0 = zfq N a0 := by kernel_rfl
noncomputable def zg1 : List (FuncId × Spec) := (113, ⟨[(.list .i)], [.str, .i], z7e⟩) :: zj9
theorem zvg : zj Tryz.prog (zl zg1) := z7 zr z0w zh zyn (by kernel_rfl) ⟨_, Tryz.func113, by rfl⟩ (tm := zkg) (gh := zd9) fun x y h => by obtain ⟨N, h⟩ := zi h; exact ⟨N, 400, (zyo N x).trans h⟩
noncomputable def zkh : Nat -> Option Tmpl := fun cx => cond (Nat.beq cx 6) (some ⟨[], [], 23, [.blk (.int .u8) 0 false], ([.var .i, J, J, .fix (.ptr 0 0 0 0)] ++ jN 6 ++ [.var .i] ++ jN 12 ++ [.var (.list (.int .u8))]), [], []⟩) <| none
theorem zyp (N : Nat) (a0 : Int) : z0t (z0p.mk' (z0i zg1) zkh zd9) N 400 114 [.i] [.str] a0 = zfr N a0 := by kernel_rfl
noncomputable def zg2 : List (FuncId × Spec) := (114, ⟨[.i], [.str], zfs⟩) :: zg1
theorem zvh : zj Tryz.prog (zl zg2) := z7 zr z0w zh zvg (by kernel_rfl) ⟨_, Tryz.func114, by rfl⟩ (tm := zkh) (gh := zd9) fun x y h => by obtain ⟨N, h⟩ := zi h; exact ⟨N, 400, (zyp N x).trans h⟩
noncomputable def zqy : Nat -> Option Tmpl := fun cx => cond (Nat.beq cx 1) (some ⟨[], [], 32, [], ([.var .str, J, J, .var (.int .u32), J, J, J, .var .i, .var .i] ++ jN 23), [], []⟩) <| cond (Nat.beq cx 29) (some ⟨[], [], 32, [], ([.var .str, J, J, .var (.int .u32), J, J, J, .var .i, .var .i] ++ jN 8 ++ [.var .i] ++ jN 14), [], []⟩) <| none
theorem z05j (N : Nat) (a0 : Str) : z0t (z0p.mk' (z0i zg2) zqy zd9) N 400 115 [.str] [.i] a0 = zv8 N a0 := by kernel_rfl
noncomputable def zns : List (FuncId × Spec) := (115, ⟨[.str], [.i], zn9⟩) :: zg2
theorem z02o : zj Tryz.prog (zl zns) := z7 zr z0w zh zvh (by kernel_rfl) ⟨_, Tryz.func115, by rfl⟩ (tm := zqy) (gh := zd9) fun x y h => by obtain ⟨N, h⟩ := zi h; exact ⟨N, 400, (z05j N x).trans h⟩
theorem zvi (N : Nat) (a0 : Record) (a1 : Str) : z0t (z0p.mk' (z0i zns) z8p zd9) N 400 94 [.record, .str] [.str, .i] (a0, a1) = z8b a0 a1 := by kernel_rfl
noncomputable def zdb : List (FuncId × Spec) := (94, ⟨[.record, .str], [.str, .i], zcy⟩) :: zns
theorem zsj : zj Tryz.prog (zl zdb) := z7 zr z0w zh z02o (by kernel_rfl) ⟨_, Tryz.func94, by rfl⟩ (tm := z8p) (gh := zd9) fun x y h => ⟨0, 400, (zvi 0 x.1 x.2).trans h⟩
theorem zvj (N : Nat) (a0 : Str) (a1 : Str) : z0t (z0p.mk' (z0i zdb) z8p zd9) N 400 83 [.str, .str] [.record, .i] (a0, a1) = z8l a0 a1 := by kernel_rfl
noncomputable def zdc : List (FuncId × Spec) := (83, ⟨[.str, .str], [.record, .i], zd4⟩) :: zdb
theorem zsk : zj Tryz.prog (zl zdc) := z7 zr z0w zh zsj (by kernel_rfl) ⟨_, Tryz.func83, by rfl⟩ (tm := z8p) (gh := zd9) fun x y h => ⟨0, 400, (zvj 0 x.1 x.2).trans h⟩
theorem zyq (N : Nat) (a0 : Page) : z0t (z0p.mk' (z0i zdc) z8p zd9) N 400 66 [.page] [.i, .record] a0 = zb1 a0 := by kernel_rfl
noncomputable def zg3 : List (FuncId × Spec) := (66, ⟨[.page], [.i, .record], zft⟩) :: zdc
theorem zvk : zj Tryz.prog (zl zg3) := z7 zr z0w zh zsk (by kernel_rfl) ⟨_, Tryz.func66, by rfl⟩ (tm := z8p) (gh := zd9) fun x y h => ⟨0, 400, (zyq 0 x).trans h⟩
theorem zvl (N : Nat) (a0 : Int) (a1 : Int) : z0t (z0p.mk' (z0i zg3) z8p zd9) N 400 82 [.i, .i] [.i] (a0, a1) = zk6 a0 a1 := by kernel_rfl
noncomputable def zdd : List (FuncId × Spec) := (82, ⟨[.i, .i], [.i], zcz⟩) :: zg3
theorem zsl : zj Tryz.prog (zl zdd) := z7 zr z0w zh zvk (by kernel_rfl) ⟨_, Tryz.func82, by rfl⟩ (tm := z8p) (gh := zd9) fun x y h => ⟨0, 400, (zvl 0 x.1 x.2).trans h⟩
noncomputable def znt : Nat -> Option Tmpl := fun cx => cond (Nat.beq cx 1) (some ⟨[.cell 1 0 0 .found], [(5, .found)], 38, [.raw 4 1, .raw 1 1, .raw 4 1, .dfr, .loop 27, .dead, .blk .found 0 true], ([.fix (.yield 4), .fix (.ptr 2 0 0 0)] ++ jN 6 ++ [.fix (.ptr 2 0 0 0), .var (.list .block), .var .i, .var .i] ++ jN 30 ++ [.fix (.bref 6 0), J, J, J, J, J, .fix (.ptr 0 0 0 0), .fix (.ptr 1 0 0 0), J, J, J, J, J, .fix (.fn 81 [] [(.ptr 2 0 0 0)])] ++ jN 18 ++ [.var (.list .found)]), [], [.bk 8 6]⟩) <| cond (Nat.beq cx 29) (some ⟨[], [(6, .found)], 38, [.raw 4 1, .raw 1 1, .raw 4 1, .dfr, .loop 27, .dead, .dead, .raw 4 1, .blk .found 0 true], ([.fix (.yield 4), .fix (.ptr 2 0 0 0), J, .var .i, .fix (.ptr 7 0 0 0), J, J, J, .fix (.ptr 2 0 0 0), .var (.list .block), .var .i, .var .i, J, J, J, J, .fix (.ptr 7 0 0 0), .var (.list .page), .var .i, .var .i] ++ jN 22 ++ [.fix (.bref 8 0), J, J, J, J, J, .fix (.ptr 0 0 0 0), .fix (.ptr 1 0 0 0), J, J, J, J, J, .fix (.fn 81 [] [(.ptr 2 0 0 0)])] ++ jN 22 ++ [.var (.list .found)]), [], []⟩) <| none
theorem z02p (N : Nat) (a0 : Chip) : z0t (z0p.mk' (z0i zdd) znt zd9) N 400 50 [.chip] [(.list .found)] a0 = zeh N a0 := by kernel_rfl
noncomputable def zja : List (FuncId × Spec) := (50, ⟨[.chip], [(.list .found)], zix⟩) :: zdd
theorem zyr : zj Tryz.prog (zl zja) := z7 zr z0w zh zsl (by kernel_rfl) ⟨_, Tryz.func50, by rfl⟩ (tm := znt) (gh := zd9) fun x y h => by obtain ⟨N, h⟩ := zi h; exact ⟨N, 400, (z02p N x).trans h⟩
end Clk.YtpncgjcflkhemaaGreat
namespace Clk.YtpncgjcflkhemaaGreat
open Go Go.Proofs Go.Proofs.YtpncgjcflkhemaaGreat
theorem zjb (N : Nat) (a0 : Int) (a1 : Int) : z0t (z0p.mk' (z0i zja) z8p zd9) N 400 106 [(.int .u64), (.int .u64)] [(.int .u64), (.int .u64)] (a0, a1) = za1 a0 a1 := by kernel_rfl
noncomputable def z4q : List (FuncId × Spec) := (106, ⟨[(.int .u64), (.int .u64)], [(.int .u64), (.int .u64)], za2⟩) :: zja
theorem zhc : zj Tryz.prog (zl z4q) := z7 zr z0w zh zyr (by kernel_rfl) ⟨_, Tryz.func106, by rfl⟩ (tm := z8p) (gh := zd9) fun x y h => ⟨0, 400, (zjb 0 x.1 x.2).trans h⟩
theorem znu (N : Nat) (a0 : Int) (a1 : Int) : z0t (z0p.mk' (z0i z4q) z8p zd9) N 400 87 [(.int .u64), (.int .u64)] [(.int .u64), (.int .u64)] (a0, a1) = zd1 a0 a1 := by kernel_rfl
noncomputable def z7l : List (FuncId × Spec) := (87, ⟨[(.int .u64), (.int .u64)], [(.int .u64), (.int .u64)], zd2⟩) :: z4q
theorem zl7 : zj Tryz.prog (zl z7l) := z7 zr z0w zh zhc (by kernel_rfl) ⟨_, Tryz.func87, by rfl⟩ (tm := z8p) (gh := zd9) fun x y h => ⟨0, 400, (znu 0 x.1 x.2).trans h⟩
noncomputable def zc8 : Nat -> Option Tmpl := fun cx => cond (Nat.beq cx 26) (some ⟨[], [], 48, [.blk .i 0 false], (jN 7 ++ [.fix (.bref 0 0), .var .i] ++ jN 21 ++ [.fix (.bref 0 0), .fix (.bref 0 0)] ++ jN 16 ++ [.var (.list .i)]), [], []⟩) <| none
theorem znv (N : Nat) (a0 : (List Int)) (a1 : Int) : z0t (z0p.mk' (z0i z7l) zc8 zd9) N 400 71 [(.list .i), .i] [(.list .i)] (a0, a1) = z7i N a0 a1 := by kernel_rfl
noncomputable def z7m : List (FuncId × Spec) := (71, ⟨[(.list .i), .i], [(.list .i)], z3z⟩) :: z7l
theorem zl8 : zj Tryz.prog (zl z7m) := z7 zr z0w zh zl7 (by kernel_rfl) ⟨_, Tryz.func71, by rfl⟩ (tm := zc8) (gh := zd9) fun x y h => by obtain ⟨N, h⟩ := zi h; exact ⟨N, 400, (znv N x.1 x.2).trans h⟩
theorem zvm (N : Nat) (a0 : Int) : z0t (z0p.mk' (z0i z7m) z8p zd9) N 400 53 [.i] [.table] a0 = z8k a0 := by kernel_rfl
noncomputable def zde : List (FuncId × Spec) := (53, ⟨[.i], [.table], zd3⟩) :: z7m
theorem zsm : zj Tryz.prog (zl zde) := z7 zr z0w zh zl8 (by kernel_rfl) ⟨_, Tryz.func53, by rfl⟩ (tm := z8p) (gh := zd9) fun x y h => ⟨0, 400, (zvm 0 x).trans h⟩
theorem zpj (N : Nat) (a0 : Found) (a1 : Int) : z0t (z0p.mk' (z0i zde) z8p zd9) N 400 73 [.found, .i] [.i, .bool] (a0, a1) = z59 a0 a1 := by kernel_rfl
noncomputable def z9d : List (FuncId × Spec) := (73, ⟨[.found, .i], [.i, .bool], z96⟩) :: zde
theorem znw : zj Tryz.prog (zl z9d) := z7 zr z0w zh zsm (by kernel_rfl) ⟨_, Tryz.func73, by rfl⟩ (tm := z8p) (gh := zd9) fun x y h => ⟨0, 400, (zpj 0 x.1 x.2).trans h⟩
noncomputable def zdf : Nat -> Option Tmpl := fun cx => cond (Nat.beq cx 1) (some ⟨[], [], 62, [.raw 2 1, .st .found, .raw 2 1, .dead, .dead, .dead, .dead, .dead, .dead, .dead, .dead, .dead, .dead, .blk .i 0 false, .blk .i 0 false], ([J, J, .fix (.ptr 0 0 0 0), .fix (.ptr 1 0 0 0), .fix (.ptr 2 0 0 0), J, J, J, J, .fix (.ptr 0 0 0 0), J, .fix (.bref 13 0), .fix (.ptr 0 0 0 1), J, .fix (.bref 14 0), .fix (.ptr 0 0 0 0), .fix (.ptr 0 0 0 1), .fix (.ptr 1 0 0 1), .fix (.ptr 1 0 0 3), .var (.list .i), .var .i, .var .i] ++ jN 40 ++ [.fix (.bref 13 0), .fix (.bref 14 0), .agg .found, J, J, .var (.list .i), .var (.list .i)]), [], []⟩) <| none
theorem zpk (N : Nat) (a0 : Table) (a1 : Found) : z0t (z0p.mk' (z0i z9d) zdf zd9) N 400 54 [.table, .found] [.table] (a0, a1) = z5a N a0 a1 := by kernel_rfl
noncomputable def z9e : List (FuncId × Spec) := (54, ⟨[.table, .found], [.table], z97⟩) :: z9d
theorem znx : zj Tryz.prog (zl z9e) := z7 zr z0w zh znw (by kernel_rfl) ⟨_, Tryz.func54, by rfl⟩ (tm := zdf) (gh := zd9) fun x y h => by obtain ⟨N, h⟩ := zi h; exact ⟨N, 400, (zpk N x.1 x.2).trans h⟩
noncomputable def zc9 : Nat -> Option Tmpl := fun cx => cond (Nat.beq cx 1) (some ⟨[], [], 21, [.raw 4 1, .raw 2 1, .st .table, .raw 2 1], ([J, J, .fix (.fn 54 [] []), J, .fix (.ptr 2 0 0 0), J, .fix (.ptr 3 0 0 0), J, J, .var (.list .found), .var .i, .var .i] ++ jN 15 ++ [.agg .table, J, J]), [], []⟩) <| cond (Nat.beq cx 30) (some ⟨[], [], 21, [.raw 4 1, .raw 2 1, .raw 2 1, .raw 2 1], ([J, .var .i, .fix (.fn 51 [] [])] ++ jN 6 ++ [.var (.list .found), .var .i, .var .i] ++ jN 19), [], []⟩) <| none
theorem zny (N : Nat) (a0 : Chip) (a1 : Int) : z0t (z0p.mk' (z0i z9e) zc9 zd9) N 400 35 [.chip, .i] [.table, .i] (a0, a1) = z43 N a0 a1 := by kernel_rfl
noncomputable def z7n : List (FuncId × Spec) := (35, ⟨[.chip, .i], [.table, .i], z1w⟩) :: z9e
theorem zl9 : zj Tryz.prog (zl z7n) := z7 zr z0w zh znx (by kernel_rfl) ⟨_, Tryz.func35, by rfl⟩ (tm := zc9) (gh := zd9) fun x y h => by obtain ⟨N, h⟩ := zi h; exact ⟨N, 400, (zny N x.1 x.2).trans h⟩
noncomputable def zhd : Nat -> Option Tmpl := fun cx => cond (Nat.beq cx 1) (some ⟨[], [], 19, [.st .geometry, .st .chip, .raw 12 1], ([.var (.list .block), .fix (.fn 32 [] [(.ptr 0 0 0 0)]), J, J, J, J, J, .var .i, .var .i] ++ jN 10 ++ [.agg .geometry, .agg .chip] ++ jN 12), [], []⟩) <| cond (Nat.beq cx 122) (some ⟨[], [], 19, [.st .geometry, .raw 4 1, .raw 12 1, .dead, .dead, .dead, .dead, .st .device, .dead], ([.var (.list .block), .fix (.fn 37 [] [(.ptr 0 0 0 0)]), J, J, J, J, J, .var .i, .var .i] ++ jN 10 ++ [.agg .geometry] ++ jN 16 ++ [.agg .device]), [], []⟩) <| cond (Nat.beq cx 470) (some ⟨[], [], 19, [.st .geometry, .raw 4 1, .raw 12 1, .raw 4 1, .dead, .dead, .dead, .dead, .st .device, .dead], ([.var (.list .block), .fix (.fn 37 [] [(.ptr 0 0 0 0)]), J, J, J, J, J, .var .i, .var .i] ++ jN 10 ++ [.agg .geometry] ++ jN 20 ++ [.agg .device]), [], []⟩) <| none
theorem zvn (N : Nat) (a0 : Geometry) (a1 : Chip) : z0t (z0p.mk' (z0i z7n) zhd zd9) N 400 14 [.geometry, .chip] [.device, .i] (a0, a1) = z8o N a0 a1 := by kernel_rfl
noncomputable def zdg : List (FuncId × Spec) := (14, ⟨[.geometry, .chip], [.device, .i], z1z⟩) :: z7n
theorem zsn : zj Tryz.prog (zl zdg) := z7 zr z0w zh zl9 (by kernel_rfl) ⟨_, Tryz.func14, by rfl⟩ (tm := zhd) (gh := zd9) fun x y h => by obtain ⟨N, h⟩ := zi h; exact ⟨N, 400, (zvn N x.1 x.2).trans h⟩
noncomputable def znz : Nat -> Option Tmpl := fun cx => cond (Nat.beq cx 1) (some ⟨[], [], 19, [.raw 1 1, .raw 4 1], ([.var (.list .i), .fix (.fn 42 [] [(.ptr 0 0 0 0)]), J, J, J, J, J, .var .i, .var .i] ++ jN 10 ++ [.var .i, J, J, J, J]), [], []⟩) <| cond (Nat.beq cx 122) (some ⟨[], [], 64, [.raw 1 1, .raw 4 1, .nst false 0 false, .raw 4 1], ([J, .var .i, .var (.list .i), .fix (.ptr 0 0 0 0), J, J, .fix (.ptr 1 0 0 0), J, .fix (.fn 42 [] [(.ptr 0 0 0 0)]), .fix (.ptr 3 0 0 0), J, J, J, .fix (.fn 42 [] [(.ptr 0 0 0 0)])] ++ jN 16 ++ [.fix (.fn 42 [] [(.ptr 0 0 0 0)]), J, J, J, J, .fix (.bref 2 0), J, .fix (.ptr 3 0 0 0), .fix (.bref 2 0), .var .i, .var .i] ++ jN 28 ++ [.var (.list .block), .fix (.bref 2 0), .var .bool, .var .bool, .var .i]), [.nest 2 false], [.abs 2]⟩) <| cond (Nat.beq cx 470) (some ⟨[], [], 64, [.raw 1 1, .raw 4 1, .nst false 0 false, .raw 4 1], ([J, .var .i, .var (.list .i), .fix (.ptr 0 0 0 0), J, J, .fix (.ptr 1 0 0 0), J, .fix (.fn 42 [] [(.ptr 0 0 0 0)]), .fix (.ptr 3 0 0 0), J, J, J, .fix (.fn 42 [] [(.ptr 0 0 0 0)])] ++ jN 16 ++ [.fix (.fn 42 [] [(.ptr 0 0 0 0)]), J, J, J, J, .fix (.bref 2 0), J, .fix (.ptr 3 0 0 0), .fix (.bref 2 0), .var .i, .var .i] ++ jN 28 ++ [.var (.list .block), .fix (.bref 2 0), .var .bool, .var .bool, .var .i]), [.nest 2 false], [.abs 2]⟩) <| cond (Nat.beq cx 1966) (some ⟨[], [], 64, [.raw 1 1, .raw 4 1, .nst false 0 false, .raw 4 1], ([J, J, J, .fix (.ptr 0 0 0 0), J, J, .fix (.ptr 1 0 0 0), J, .fix (.fn 42 [] [(.ptr 0 0 0 0)]), .fix (.ptr 3 0 0 0), J, J, J, .fix (.fn 42 [] [(.ptr 0 0 0 0)])] ++ jN 16 ++ [.fix (.fn 42 [] [(.ptr 0 0 0 0)]), J, J, J, J, .fix (.bref 2 0), J, .fix (.ptr 3 0 0 0), .fix (.bref 2 0)] ++ jN 12 ++ [.var (.list .i), .var .i, .var .i] ++ jN 15 ++ [.var (.list .block), .fix (.bref 2 0), .var .bool, .var .bool, .var .i]), [], []⟩) <| cond (Nat.beq cx 7534) (some ⟨[], [], 64, [.raw 1 1, .raw 4 1, .nst false 0 false, .raw 4 1], ([J, J, J, .fix (.ptr 0 0 0 0), J, J, .fix (.ptr 1 0 0 0), J, .fix (.fn 42 [] [(.ptr 0 0 0 0)]), .fix (.ptr 3 0 0 0), J, J, J, .fix (.fn 42 [] [(.ptr 0 0 0 0)])] ++ jN 16 ++ [.fix (.fn 42 [] [(.ptr 0 0 0 0)]), J, J, J, J, .fix (.bref 2 0), J, .fix (.ptr 3 0 0 0), .fix (.bref 2 0)] ++ jN 12 ++ [.var (.list .i), .var .i, .var .i] ++ jN 15 ++ [.var (.list .block), .fix (.bref 2 0), .var .bool, .var .bool, .var .i]), [], []⟩) <| none
theorem z02q (N : Nat) (a0 : Int) (a1 : Int) (a2 : (List Int)) : z0t (z0p.mk' (z0i zdg) znz zd9) N 400 22 [.i, .i, (.list .i)] [.chip, .i] (a0, a1, a2) = zej N a0 a1 a2 := by kernel_rfl
noncomputable def zjc : List (FuncId × Spec) := (22, ⟨[.i, .i, (.list .i)], [.chip, .i], ziz⟩) :: zdg
theorem zys : zj Tryz.prog (zl zjc) := z7 zr z0w zh zsn (by kernel_rfl) ⟨_, Tryz.func22, by rfl⟩ (tm := znz) (gh := zd9) fun x y h => by obtain ⟨N, h⟩ := zi h; exact ⟨N, 400, (z02q N x.1 x.2.1 x.2.2).trans h⟩
noncomputable def zki : Nat -> Option Tmpl := fun cx => cond (Nat.beq cx 1) (some ⟨[], [], 18, [.raw 4 1], ([J, .fix (.ptr 0 0 0 0), .var .i, J, J, .fix (.ptr 0 0 0 0), .var (.list .block), .var .i, .var .i] ++ jN 13), [], []⟩) <| none
theorem zyt (N : Nat) (a0 : Chip) : z0t (z0p.mk' (z0i zjc) zki zd9) N 400 23 [.chip] [.i] a0 = znd N a0 := by kernel_rfl
noncomputable def zg4 : List (FuncId × Spec) := (23, ⟨[.chip], [.i], zb8⟩) :: zjc
theorem zvo : zj Tryz.prog (zl zg4) := z7 zr z0w zh zys (by kernel_rfl) ⟨_, Tryz.func23, by rfl⟩ (tm := zki) (gh := zd9) fun x y h => by obtain ⟨N, h⟩ := zi h; exact ⟨N, 400, (zyt N x).trans h⟩
theorem zso (N : Nat) (a0 : Geometry) (a1 : (List Int)) : z0t (z0p.mk' (z0i zg4) z8p zd9) N 400 6 [.geometry, (.list .i)] [.device, .i] (a0, a1) = z6n a0 a1 := by kernel_rfl
noncomputable def zbd : List (FuncId × Spec) := (6, ⟨[.geometry, (.list .i)], [.device, .i], z18⟩) :: zg4
theorem zpl : zj Tryz.prog (zl zbd) := z7 zr z0w zh zvo (by kernel_rfl) ⟨_, Tryz.func6, by rfl⟩ (tm := z8p) (gh := zd9) fun x y h => ⟨0, 400, (zso 0 x.1 x.2).trans h⟩
theorem zvp (N : Nat) (a0 : Geometry) : z0t (z0p.mk' (z0i zbd) z8p zd9) N 400 10 [.geometry] [.bool] a0 = z3e a0 := by kernel_rfl
noncomputable def zdh : List (FuncId × Spec) := (10, ⟨[.geometry], [.bool], z3f⟩) :: zbd
theorem zsp : zj Tryz.prog (zl zdh) := z7 zr z0w zh zpl (by kernel_rfl) ⟨_, Tryz.func10, by rfl⟩ (tm := z8p) (gh := zd9) fun x y h => ⟨0, 400, (zvp 0 x).trans h⟩
noncomputable def zkj : Nat -> Option Tmpl := fun cx => cond (Nat.beq cx 1) (some ⟨[.cell 1 0 0 .i, .cell 1 0 1 .i], [(2, .i), (3, .i)], 25, [.raw 2 1, .raw 2 1, .dead, .dead, .blk .i 0 true, .blk .i 0 true], ([.var .i, J, .fix (.ptr 0 0 0 0), .fix (.ptr 1 0 0 0), .var .i] ++ jN 22 ++ [.fix (.bref 4 0), .fix (.bref 5 0), .var (.list .i), .var (.list .i)]), [], []⟩) <| none
theorem zyu (N : Nat) (a0 : Int) : z0t (z0p.mk' (z0i zdh) zkj zd9) N 400 56 [.i] [.table] a0 = zn0 N a0 := by kernel_rfl
noncomputable def zg5 : List (FuncId × Spec) := (56, ⟨[.i], [.table], zn1⟩) :: zdh
theorem zvq : zj Tryz.prog (zl zg5) := z7 zr z0w zh zsp (by kernel_rfl) ⟨_, Tryz.func56, by rfl⟩ (tm := zkj) (gh := zd9) fun x y h => by obtain ⟨N, h⟩ := zi h; exact ⟨N, 400, (zyu N x).trans h⟩
noncomputable def zhe : Nat -> Option Tmpl := fun cx => cond (Nat.beq cx 1) (some ⟨[], [], 46, [], ([.var (.list .i), J, J, .var .i] ++ jN 42), [], []⟩) <| none
theorem zvr (N : Nat) (a0 : (List Int)) : z0t (z0p.mk' (z0i zg5) zhe zd9) N 400 90 [(.list .i)] [.bool] a0 = zk1 N a0 := by kernel_rfl
noncomputable def zdi : List (FuncId × Spec) := (90, ⟨[(.list .i)], [.bool], zco⟩) :: zg5
theorem zsq : zj Tryz.prog (zl zdi) := z7 zr z0w zh zvq (by kernel_rfl) ⟨_, Tryz.func90, by rfl⟩ (tm := zhe) (gh := zd9) fun x y h => by obtain ⟨N, h⟩ := zi h; exact ⟨N, 400, (zvr N x).trans h⟩
noncomputable def zf3 : Nat -> Option Tmpl := fun cx => cond (Nat.beq cx 26) (some ⟨[], [], 58, [.st .record], ([J, .fix (.ptr 0 0 0 0), J, .var .i, .fix (.ptr 0 0 0 1), J, J, J, .fix (.ptr 0 0 0 1), J, J, J, J, .fix (.ptr 0 0 0 2), J, J, J, J, .fix (.ptr 0 0 0 0)] ++ jN 39 ++ [.agg .record]), [], []⟩) <| none
theorem zsr (N : Nat) (a0 : Record) : z0t (z0p.mk' (z0i zdi) zf3 zd9) N 400 77 [.record] [.bool] a0 = zai N a0 := by kernel_rfl
noncomputable def zbe : List (FuncId × Spec) := (77, ⟨[.record], [.bool], zaj⟩) :: zdi
theorem zpm : zj Tryz.prog (zl zbe) := z7 zr z0w zh zsq (by kernel_rfl) ⟨_, Tryz.func77, by rfl⟩ (tm := zf3) (gh := zd9) fun x y h => by obtain ⟨N, h⟩ := zi h; exact ⟨N, 400, (zsr N x).trans h⟩
noncomputable def zkk : Nat -> Option Tmpl := fun cx => cond (Nat.beq cx 6) (some ⟨[], [], 28, [], ([.var .i, J, J, .var .str] ++ jN 24), [], []⟩) <| none
theorem zyv (N : Nat) (a0 : Int) : z0t (z0p.mk' (z0i zbe) zkk zd9) N 400 108 [.i] [.str] a0 = zfl N a0 := by kernel_rfl
noncomputable def zg6 : List (FuncId × Spec) := (108, ⟨[.i], [.str], zak⟩) :: zbe
theorem zvs : zj Tryz.prog (zl zg6) := z7 zr z0w zh zpm (by kernel_rfl) ⟨_, Tryz.func108, by rfl⟩ (tm := zkk) (gh := zd9) fun x y h => by obtain ⟨N, h⟩ := zi h; exact ⟨N, 400, (zyv N x).trans h⟩
noncomputable def zhf : Nat -> Option Tmpl := fun cx => cond (Nat.beq cx 1) (some ⟨[], [], 27, [], ([.var (.list .i), J, J, J, .var .str, .var .i] ++ jN 21), [], []⟩) <| none
theorem zvt (N : Nat) (a0 : (List Int)) : z0t (z0p.mk' (z0i zg6) zhf zd9) N 400 91 [(.list .i)] [.str, .i] a0 = zcp N a0 := by kernel_rfl
noncomputable def zdj : List (FuncId × Spec) := (91, ⟨[(.list .i)], [.str, .i], z5h⟩) :: zg6
theorem zss : zj Tryz.prog (zl zdj) := z7 zr z0w zh zvs (by kernel_rfl) ⟨_, Tryz.func91, by rfl⟩ (tm := zhf) (gh := zd9) fun x y h => by obtain ⟨N, h⟩ := zi h; exact ⟨N, 400, (zvt N x).trans h⟩
noncomputable def zhg : Nat -> Option Tmpl := fun cx => cond (Nat.beq cx 1) (some ⟨[.tmp 4 .i], [(2, .i)], 54, [.st .record, .blk .i 0 false, .dead, .blk .i 0 true], ([J, .fix (.ptr 0 0 0 0), J, .fix (.bref 1 0), .fix (.bref 3 0), .var .i] ++ jN 6 ++ [.fix (.ptr 0 0 0 0), J, .fix (.ptr 0 0 0 1), J, .fix (.bref 1 0)] ++ jN 37 ++ [.agg .record, .var (.list .i), .var (.list .i)]), [], []⟩) <| none
theorem zvu (N : Nat) (a0 : Record) : z0t (z0p.mk' (z0i zdj) zhg zd9) N 400 78 [.record] [.str] a0 = zk2 N a0 := by kernel_rfl
noncomputable def zdk : List (FuncId × Spec) := (78, ⟨[.record], [.str], zcq⟩) :: zdj
theorem zst : zj Tryz.prog (zl zdk) := z7 zr z0w zh zss (by kernel_rfl) ⟨_, Tryz.func78, by rfl⟩ (tm := zhg) (gh := zd9) fun x y h => by obtain ⟨N, h⟩ := zi h; exact ⟨N, 400, (zvu N x).trans h⟩
theorem zsu (N : Nat) (a0 : Int) : z0t (z0p.mk' (z0i zdk) z8p zd9) N 400 79 [.i] [.str] a0 = zal a0 := by kernel_rfl
noncomputable def zbf : List (FuncId × Spec) := (79, ⟨[.i], [.str], z60⟩) :: zdk
theorem zpn : zj Tryz.prog (zl zbf) := z7 zr z0w zh zst (by kernel_rfl) ⟨_, Tryz.func79, by rfl⟩ (tm := z8p) (gh := zd9) fun x y h => ⟨0, 400, (zsu 0 x).trans h⟩
theorem zvv (N : Nat) (a0 : Int) : z0t (z0p.mk' (z0i zbf) z8p zd9) N 400 92 [.i] [.i] a0 = zcr a0 := by kernel_rfl
noncomputable def zdl : List (FuncId × Spec) := (92, ⟨[.i], [.i], z81⟩) :: zbf
theorem zsv : zj Tryz.prog (zl zdl) := z7 zr z0w zh zpn (by kernel_rfl) ⟨_, Tryz.func92, by rfl⟩ (tm := z8p) (gh := zd9) fun x y h => ⟨0, 400, (zvv 0 x).trans h⟩
noncomputable def zkl : Nat -> Option Tmpl := fun cx => cond (Nat.beq cx 1) (some ⟨[], [], 26, [], ([.var .str, J, J, .var .i, .var .i] ++ jN 21), [], []⟩) <| cond (Nat.beq cx 29) (some ⟨[], [], 26, [], ([.var .str, J, J, .var .i, .var .i, .var .i] ++ jN 20), [], []⟩) <| none
theorem zyw (N : Nat) (a0 : Str) : z0t (z0p.mk' (z0i zdl) zkl zd9) N 400 80 [.str] [.i] a0 = zn2 N a0 := by kernel_rfl
noncomputable def zg7 : List (FuncId × Spec) := (80, ⟨[.str], [.i], zfm⟩) :: zdl
theorem zvw : zj Tryz.prog (zl zg7) := z7 zr z0w zh zsv (by kernel_rfl) ⟨_, Tryz.func80, by rfl⟩ (tm := zkl) (gh := zd9) fun x y h => by obtain ⟨N, h⟩ := zi h; exact ⟨N, 400, (zyw N x).trans h⟩
theorem zpo (N : Nat) (a0 : Record) (a1 : Str) : z0t (z0p.mk' (z0i zg7) z8p zd9) N 400 64 [.record, .str] [.str, .i] (a0, a1) = z4y a0 a1 := by kernel_rfl
noncomputable def z9f : List (FuncId × Spec) := (64, ⟨[.record, .str], [.str, .i], z4z⟩) :: zg7
theorem zo0 : zj Tryz.prog (zl z9f) := z7 zr z0w zh zvw (by kernel_rfl) ⟨_, Tryz.func64, by rfl⟩ (tm := z8p) (gh := zd9) fun x y h => ⟨0, 400, (zpo 0 x.1 x.2).trans h⟩
noncomputable def zhh : Nat -> Option Tmpl := fun cx => cond (Nat.beq cx 1) (some ⟨[], [], 48, [], ([.var .str, J, J, J, J, .var .i, .var .i, .var .i] ++ jN 40), [], []⟩) <| none
theorem zvx (N : Nat) (a0 : Str) : z0t (z0p.mk' (z0i z9f) zhh zd9) N 400 121 [.str] [.i, .str, .bool] a0 = zk3 N a0 := by kernel_rfl
noncomputable def zdm : List (FuncId × Spec) := (121, ⟨[.str], [.i, .str, .bool], zcs⟩) :: z9f
theorem zsw : zj Tryz.prog (zl zdm) := z7 zr z0w zh zo0 (by kernel_rfl) ⟨_, Tryz.func121, by rfl⟩ (tm := zhh) (gh := zd9) fun x y h => by obtain ⟨N, h⟩ := zi h; exact ⟨N, 400, (zvx N x).trans h⟩
noncomputable def zdn : Nat -> Option Tmpl := fun cx => cond (Nat.beq cx 6) (some ⟨[.tmp 8 .i], [(0, .i)], 47, [.dead, .blk .i 0 true], ([J, J, J, J, J, .var .i, .var .str, J, .fix (.bref 1 0), .var .i] ++ jN 37 ++ [.var (.list .i)]), [], []⟩) <| none
theorem zpp (N : Nat) (a0 : Str) : z0t (z0p.mk' (z0i zdm) zdn zd9) N 400 107 [.str] [(.list .i), .str, .i] a0 = zet N a0 := by kernel_rfl
noncomputable def z9g : List (FuncId × Spec) := (107, ⟨[.str], [(.list .i), .str, .i], z51⟩) :: zdm
theorem zo1 : zj Tryz.prog (zl z9g) := z7 zr z0w zh zsw (by kernel_rfl) ⟨_, Tryz.func107, by rfl⟩ (tm := zdn) (gh := zd9) fun x y h => by obtain ⟨N, h⟩ := zi h; exact ⟨N, 400, (zpp N x).trans h⟩
noncomputable def zdo : Nat -> Option Tmpl := fun cx => cond (Nat.beq cx 6) (some ⟨[.cell 9 0 3 .i], [(11, .i)], 91, [.raw 4 1, .dead, .dead, .dead, .dead, .dead, .dead, .dead, .dead, .raw 4 1, .dead, .dead, .blk .i 0 true], ([.var .str, .var .str, J, J, .fix (.ptr 0 0 0 0)] ++ jN 6 ++ [.var (.list .i), J, J, .fix (.ptr 9 0 0 0), .var .i] ++ jN 79 ++ [.var .i, .var .i, .var (.list .i), .fix (.bref 12 0), .var (.list .i)]), [], []⟩) <| none
theorem zpq (N : Nat) (a0 : Str) (a1 : Str) : z0t (z0p.mk' (z0i z9g) zdo zd9) N 400 88 [.str, .str] [.record, .i] (a0, a1) = zeu N a0 a1 := by kernel_rfl
noncomputable def z9h : List (FuncId × Spec) := (88, ⟨[.str, .str], [.record, .i], zev⟩) :: z9g
theorem zo2 : zj Tryz.prog (zl z9h) := z7 zr z0w zh zo1 (by kernel_rfl) ⟨_, Tryz.func88, by rfl⟩ (tm := zdo) (gh := zd9) fun x y h => by obtain ⟨N, h⟩ := zi h; exact ⟨N, 400, (zpq N x.1 x.2).trans h⟩
end Clk.YtpncgjcflkhemaaGreat
namespace Clk.YtpncgjcflkhemaaGreat
open Go Go.Proofs Go.Proofs.YtpncgjcflkhemaaGreat
theorem zvy (N : Nat) (a0 : Page) : z0t (z0p.mk' (z0i z9h) z8p zd9) N 400 74 [.page] [.i, .record] a0 = zk4 a0 := by kernel_rfl
noncomputable def zdp : List (FuncId × Spec) := (74, ⟨[.page], [.i, .record], zk5⟩) :: z9h
theorem zsx : zj Tryz.prog (zl zdp) := z7 zr z0w zh zo2 (by kernel_rfl) ⟨_, Tryz.func74, by rfl⟩ (tm := z8p) (gh := zd9) fun x y h => ⟨0, 400, (zvy 0 x).trans h⟩
theorem zsy (N : Nat) (a0 : Int) (a1 : Int) : z0t (z0p.mk' (z0i zdp) z8p zd9) N 400 75 [.i, .i] [.i] (a0, a1) = z61 a0 a1 := by kernel_rfl
noncomputable def zbg : List (FuncId × Spec) := (75, ⟨[.i, .i], [.i], zam⟩) :: zdp
theorem zpr : zj Tryz.prog (zl zbg) := z7 zr z0w zh zsx (by kernel_rfl) ⟨_, Tryz.func75, by rfl⟩ (tm := z8p) (gh := zd9) fun x y h => ⟨0, 400, (zsy 0 x.1 x.2).trans h⟩
theorem zsz (N : Nat) (a0 : Found) (a1 : Found) : z0t (z0p.mk' (z0i zbg) z8p zd9) N 400 89 [.found, .found] [.bool] (a0, a1) = zh5 a0 a1 := by kernel_rfl
noncomputable def zbh : List (FuncId × Spec) := (89, ⟨[.found, .found], [.bool], zh6⟩) :: zbg
theorem zps : zj Tryz.prog (zl zbh) := z7 zr z0w zh zpr (by kernel_rfl) ⟨_, Tryz.func89, by rfl⟩ (tm := z8p) (gh := zd9) fun x y h => ⟨0, 400, (zsz 0 x.1 x.2).trans h⟩
noncomputable def zkm : Nat -> Option Tmpl := fun cx => cond (Nat.beq cx 1) (some ⟨[.tmp 5 .found], [(1, .found)], 42, [.st .found, .dead, .blk .found 0 true], ([.var (.list .found), J, J, .fix (.ptr 0 0 0 0), J, .fix (.bref 2 0), .var .bool, .var .i] ++ jN 34 ++ [.agg .found, .var (.list .found)]), [], []⟩) <| none
theorem zyx (N : Nat) (a0 : (List Found)) (a1 : Found) : z0t (z0p.mk' (z0i zbh) zkm zd9) N 400 76 [(.list .found), .found] [(.list .found)] (a0, a1) = zn5 N a0 a1 := by kernel_rfl
noncomputable def zg8 : List (FuncId × Spec) := (76, ⟨[(.list .found), .found], [(.list .found)], zn6⟩) :: zbh
theorem zvz : zj Tryz.prog (zl zg8) := z7 zr z0w zh zps (by kernel_rfl) ⟨_, Tryz.func76, by rfl⟩ (tm := zkm) (gh := zd9) fun x y h => by obtain ⟨N, h⟩ := zi h; exact ⟨N, 400, (zyx N x.1 x.2).trans h⟩
noncomputable def zkn : Nat -> Option Tmpl := fun cx => cond (Nat.beq cx 1) (some ⟨[], [], 55, [.st .chip], ([J, .fix (.ptr 0 0 0 0), J, .var (.list .found), .var .i] ++ jN 50 ++ [.agg .chip]), [], []⟩) <| cond (Nat.beq cx 29) (some ⟨[], [], 55, [.st .chip], ([J, .fix (.ptr 0 0 0 0), J, .var (.list .found), .var .i, .var .i, J, J, J, J, .fix (.ptr 0 0 0 0)] ++ jN 44 ++ [.agg .chip]), [], []⟩) <| none
theorem zyy (N : Nat) (a0 : Chip) : z0t (z0p.mk' (z0i zg8) zkn zd9) N 400 57 [.chip] [(.list .found)] a0 = zn7 N a0 := by kernel_rfl
noncomputable def zg9 : List (FuncId × Spec) := (57, ⟨[.chip], [(.list .found)], zn8⟩) :: zg8
theorem zw0 : zj Tryz.prog (zl zg9) := z7 zr z0w zh zvz (by kernel_rfl) ⟨_, Tryz.func57, by rfl⟩ (tm := zkn) (gh := zd9) fun x y h => by obtain ⟨N, h⟩ := zi h; exact ⟨N, 400, (zyy N x).trans h⟩
noncomputable def zf4 : Nat -> Option Tmpl := fun cx => cond (Nat.beq cx 1) (some ⟨[], [], 92, [.raw 2 1, .st .found, .raw 2 1, .dead, .dead, .blk .i 0 false, .dead, .dead, .blk .i 0 false, .dead, .raw 2 1, .dead], ([J, J, .fix (.ptr 0 0 0 0), .fix (.ptr 1 0 0 0), .fix (.ptr 2 0 0 0), .fix (.ptr 10 0 0 0), .var .i, J, .fix (.ptr 0 0 0 0), J, .fix (.bref 5 0), .fix (.ptr 0 0 0 1), J, .fix (.bref 8 0)] ++ jN 80 ++ [.agg .found, J, J, .var (.list .i), .var (.list .i), .fix (.bref 5 0), .fix (.bref 8 0)]), [], []⟩) <| none
theorem zt0 (N : Nat) (a0 : Table) (a1 : Found) : z0t (z0p.mk' (z0i zg9) zf4 zd9) N 400 58 [.table, .found] [.table] (a0, a1) = zh3 N a0 a1 := by kernel_rfl
noncomputable def zbi : List (FuncId × Spec) := (58, ⟨[.table, .found], [.table], zh4⟩) :: zg9
theorem zpt : zj Tryz.prog (zl zbi) := z7 zr z0w zh zw0 (by kernel_rfl) ⟨_, Tryz.func58, by rfl⟩ (tm := zf4) (gh := zd9) fun x y h => by obtain ⟨N, h⟩ := zi h; exact ⟨N, 400, (zt0 N x.1 x.2).trans h⟩
noncomputable def zdq : Nat -> Option Tmpl := fun cx => cond (Nat.beq cx 1) (some ⟨[], [], 37, [.raw 4 1, .raw 2 1, .st .table], ([J, J, .fix (.ptr 0 0 0 0), J, .fix (.ptr 1 0 0 0), J, .fix (.ptr 2 0 0 0), .var (.list .found), .var .i, .var .i] ++ jN 33 ++ [.agg .table]), [], []⟩) <| none
theorem zpu (N : Nat) (a0 : Chip) (a1 : Int) : z0t (z0p.mk' (z0i zbi) zdq zd9) N 400 38 [.chip, .i] [.table, .i] (a0, a1) = zew N a0 a1 := by kernel_rfl
noncomputable def z9i : List (FuncId × Spec) := (38, ⟨[.chip, .i], [.table, .i], zex⟩) :: zbi
theorem zo3 : zj Tryz.prog (zl z9i) := z7 zr z0w zh zpt (by kernel_rfl) ⟨_, Tryz.func38, by rfl⟩ (tm := zdq) (gh := zd9) fun x y h => by obtain ⟨N, h⟩ := zi h; exact ⟨N, 400, (zpu N x.1 x.2).trans h⟩
noncomputable def zo4 : Nat -> Option Tmpl := fun cx => cond (Nat.beq cx 1) (some ⟨[.tmp 3 .block], [(4, .block)], 29, [.raw 4 1, .raw 4 1, .st .chip, .raw 4 1, .dead, .nst true 0 true], ([J, .fix (.ptr 2 0 0 0), .fix (.ptr 3 0 0 0), .fix (.bref 5 0), .var .i] ++ jN 32 ++ [.agg .chip, J, J, J, J, .var (.list .block)]), [.nest 5 true], [.abs 5]⟩) <| none
theorem z02r (N : Nat) (a0 : Chip) : z0t (z0p.mk' (z0i z9i) zo4 zd9) N 400 39 [.chip] [.chip] a0 = zqt N a0 := by kernel_rfl
noncomputable def zjd : List (FuncId × Spec) := (39, ⟨[.chip], [.chip], zqu⟩) :: z9i
theorem zyz : zj Tryz.prog (zl zjd) := z7 zr z0w zh zo3 (by kernel_rfl) ⟨_, Tryz.func39, by rfl⟩ (tm := zo4) (gh := zd9) fun x y h => by obtain ⟨N, h⟩ := zi h; exact ⟨N, 400, (z02r N x).trans h⟩
noncomputable def zf5 : Nat -> Option Tmpl := fun cx => cond (Nat.beq cx 6) (some ⟨[], [], 76, [.st .geometry, .st .chip, .raw 12 1], ([J, J, .fix (.ptr 0 0 0 0), .fix (.ptr 1 0 0 0), .fix (.ptr 2 0 0 0), J, .var .i, .var .i] ++ jN 7 ++ [.fix (.ptr 1 0 0 0), J, J, .fix (.ptr 0 0 0 0)] ++ jN 57 ++ [.agg .geometry, .agg .chip] ++ jN 12), [], []⟩) <| none
theorem zt1 (N : Nat) (a0 : Geometry) (a1 : Chip) : z0t (z0p.mk' (z0i zjd) zf5 zd9) N 400 15 [.geometry, .chip] [.device, .i] (a0, a1) = zh7 N a0 a1 := by kernel_rfl
noncomputable def zbj : List (FuncId × Spec) := (15, ⟨[.geometry, .chip], [.device, .i], zan⟩) :: zjd
theorem zpv : zj Tryz.prog (zl zbj) := z7 zr z0w zh zyz (by kernel_rfl) ⟨_, Tryz.func15, by rfl⟩ (tm := zf5) (gh := zd9) fun x y h => by obtain ⟨N, h⟩ := zi h; exact ⟨N, 400, (zt1 N x.1 x.2).trans h⟩
noncomputable def zko : Nat -> Option Tmpl := fun cx => cond (Nat.beq cx 6) (some ⟨[.cell 1 0 0 .block], [(2, .block)], 68, [.raw 4 1, .raw 4 1, .dead, .nst true 0 true], ([.var .i, .var .i, .var (.list .i), J, J, J, .fix (.ptr 0 0 0 0), J, .fix (.ptr 1 0 0 0), .var .i] ++ jN 62 ++ [.fix (.bref 3 0), .var .bool, .var .bool, .var .i, .var (.list .block)]), [.nest 3 true], [.abs 3]⟩) <| cond (Nat.beq cx 110) (some ⟨[], [], 68, [.raw 4 1, .raw 4 1, .dead, .nst true 0 false], ([.var .i, J, .var (.list .i), J, J, J, .fix (.ptr 0 0 0 0), J, .fix (.ptr 1 0 0 0), J, .var .i] ++ jN 61 ++ [.fix (.bref 3 0), .var .bool, .var .bool, .var .i, .var (.list .block)]), [], []⟩) <| none
theorem zz0 (N : Nat) (a0 : Int) (a1 : Int) (a2 : (List Int)) : z0t (z0p.mk' (z0i zbj) zko zd9) N 400 24 [.i, .i, (.list .i)] [.chip, .i] (a0, a1, a2) = zap N a0 a1 a2 := by kernel_rfl
noncomputable def zga : List (FuncId × Spec) := (24, ⟨[.i, .i, (.list .i)], [.chip, .i], zaq⟩) :: zbj
theorem zw1 : zj Tryz.prog (zl zga) := z7 zr z0w zh zpv (by kernel_rfl) ⟨_, Tryz.func24, by rfl⟩ (tm := zko) (gh := zd9) fun x y h => by obtain ⟨N, h⟩ := zi h; exact ⟨N, 400, (zz0 N x.1 x.2.1 x.2.2).trans h⟩
noncomputable def zhi : Nat -> Option Tmpl := fun cx => cond (Nat.beq cx 1) (some ⟨[], [], 21, [.st .chip], ([J, .fix (.ptr 0 0 0 0), J, .var .i, .var .i] ++ jN 16 ++ [.agg .chip]), [], []⟩) <| none
theorem zw2 (N : Nat) (a0 : Chip) : z0t (z0p.mk' (z0i zga) zhi zd9) N 400 25 [.chip] [.i] a0 = zk7 N a0 := by kernel_rfl
noncomputable def zdr : List (FuncId × Spec) := (25, ⟨[.chip], [.i], zd0⟩) :: zga
theorem zt2 : zj Tryz.prog (zl zdr) := z7 zr z0w zh zw1 (by kernel_rfl) ⟨_, Tryz.func25, by rfl⟩ (tm := zhi) (gh := zd9) fun x y h => by obtain ⟨N, h⟩ := zi h; exact ⟨N, 400, (zw2 N x).trans h⟩
theorem zpw (N : Nat) (a0 : Geometry) (a1 : (List Int)) : z0t (z0p.mk' (z0i zdr) z8p zd9) N 400 7 [.geometry, (.list .i)] [.device, .i] (a0, a1) = zf0 a0 a1 := by kernel_rfl
noncomputable def z9j : List (FuncId × Spec) := (7, ⟨[.geometry, (.list .i)], [.device, .i], z98⟩) :: zdr
theorem zo5 : zj Tryz.prog (zl z9j) := z7 zr z0w zh zt2 (by kernel_rfl) ⟨_, Tryz.func7, by rfl⟩ (tm := z8p) (gh := zd9) fun x y h => ⟨0, 400, (zpw 0 x.1 x.2).trans h⟩
theorem zt3 (N : Nat) (a0 : Int) : z0t (z0p.mk' (z0i z9j) z8p zd9) N 400 12 [(.int .u8)] [.geometry] a0 = z62 a0 := by kernel_rfl
noncomputable def zbk : List (FuncId × Spec) := (12, ⟨[(.int .u8)], [.geometry], z3r⟩) :: z9j
theorem zpx : zj Tryz.prog (zl zbk) := z7 zr z0w zh zo5 (by kernel_rfl) ⟨_, Tryz.func12, by rfl⟩ (tm := z8p) (gh := zd9) fun x y h => ⟨0, 400, (zt3 0 x).trans h⟩
theorem zz1 (N : Nat) (a0 : Chip) (a1 : Int) : z0t (z0p.mk' (z0i zbk) z8p zd9) N 400 59 [.chip, .i] [.page, .bool] (a0, a1) = zb4 a0 a1 := by kernel_rfl
noncomputable def zgb : List (FuncId × Spec) := (59, ⟨[.chip, .i], [.page, .bool], zfu⟩) :: zbk
theorem zw3 : zj Tryz.prog (zl zgb) := z7 zr z0w zh zpx (by kernel_rfl) ⟨_, Tryz.func59, by rfl⟩ (tm := z8p) (gh := zd9) fun x y h => ⟨0, 400, (zz1 0 x.1 x.2).trans h⟩
theorem z02s (N : Nat) (a0 : Chip) (a1 : Table) (a2 : Int) : z0t (z0p.mk' (z0i zgb) z8p zd9) N 400 40 [.chip, .table, .i] [.str] (a0, a1, a2) = zek a0 a1 a2 := by kernel_rfl
noncomputable def zje : List (FuncId × Spec) := (40, ⟨[.chip, .table, .i], [.str], zj0⟩) :: zgb
theorem zz2 : zj Tryz.prog (zl zje) := z7 zr z0w zh zw3 (by kernel_rfl) ⟨_, Tryz.func40, by rfl⟩ (tm := z8p) (gh := zd9) fun x y h => ⟨0, 400, (z02s 0 x.1 x.2.1 x.2.2).trans h⟩
noncomputable def zo6 : Nat -> Option Tmpl := fun cx => cond (Nat.beq cx 1) (some ⟨[], [], 26, [.st .device, .blk .str 0 false], ([J, .fix (.ptr 0 0 0 0), J, .fix (.bref 1 0), J, .fix (.ptr 0 0 0 8), .fix (.ptr 0 0 0 8), J, J, .fix (.bref 1 0), .fix (.bref 1 0), .var .i, .var .i] ++ jN 13 ++ [.agg .device, .var (.list .str)]), [], []⟩) <| none
theorem z02t (N : Nat) (a0 : Device) : z0t (z0p.mk' (z0i zje) zo6 zd9) N 400 17 [.device] [(.list .str)] a0 = zel N a0 := by kernel_rfl
noncomputable def zjf : List (FuncId × Spec) := (17, ⟨[.device], [(.list .str)], za4⟩) :: zje
theorem zz3 : zj Tryz.prog (zl zjf) := z7 zr z0w zh zz2 (by kernel_rfl) ⟨_, Tryz.func17, by rfl⟩ (tm := zo6) (gh := zd9) fun x y h => by obtain ⟨N, h⟩ := zi h; exact ⟨N, 400, (z02t N x).trans h⟩
theorem zpy (N : Nat) (a0 : Device) : z0t (z0p.mk' (z0i zjf) z8p zd9) N 400 19 [.device] [.i] a0 = z5c a0 := by kernel_rfl
noncomputable def z9k : List (FuncId × Spec) := (19, ⟨[.device], [.i], z5d⟩) :: zjf
theorem zo7 : zj Tryz.prog (zl z9k) := z7 zr z0w zh zz3 (by kernel_rfl) ⟨_, Tryz.func19, by rfl⟩ (tm := z8p) (gh := zd9) fun x y h => ⟨0, 400, (zpy 0 x).trans h⟩
theorem zt4 (N : Nat) : z0t (z0p.mk' (z0i z9k) z8p zd9) N 400 8 [] [.bool] () = z6p := by kernel_rfl
noncomputable def zbl : List (FuncId × Spec) := (8, ⟨[], [.bool], z2f⟩) :: z9k
theorem zpz : zj Tryz.prog (zl zbl) := z7 zr z0w zh zo7 (by kernel_rfl) ⟨_, Tryz.func8, by rfl⟩ (tm := z8p) (gh := zd9) fun x y h => ⟨0, 400, (zt4 0 ).trans h⟩
noncomputable def zhj : Nat -> Option Tmpl := fun cx => cond (Nat.beq cx 6) (some ⟨[], [], 100, [.st .chip, .st .chip], ([J, J, .fix (.ptr 0 0 0 0), .fix (.ptr 1 0 0 0), J, .var .i, J, J, J, .fix (.ptr 0 0 0 0), J, J, .fix (.ptr 1 0 0 0), J, J, J, J, .fix (.ptr 0 0 0 1), J, .fix (.ptr 1 0 0 1), J, J, J, J, .fix (.ptr 0 0 0 2), J, .fix (.ptr 1 0 0 2), J, J, J, J, .fix (.ptr 0 0 0 3), J, .fix (.ptr 1 0 0 3)] ++ jN 66 ++ [.agg .chip, .agg .chip]), [], []⟩) <| cond (Nat.beq cx 438) (some ⟨[], [], 100, [.st .chip, .st .chip, .dead, .dead, .dead, .dead, .dead, .dead, .dead, .dead, .dead, .dead, .st .block, .st .block, .dead, .dead], ([J, J, .fix (.ptr 0 0 0 0), .fix (.ptr 1 0 0 0), J, .var .i, .fix (.ptr 12 0 0 0), .fix (.ptr 13 0 0 0), .var .i, .fix (.ptr 0 0 0 0), J, J, .fix (.ptr 1 0 0 0), J, J, J, J, .fix (.ptr 0 0 0 1), J, .fix (.ptr 1 0 0 1), J, J, J, J, .fix (.ptr 0 0 0 2), J, .fix (.ptr 1 0 0 2), J, J, J, J, .fix (.ptr 0 0 0 3), J, .fix (.ptr 1 0 0 3), J, J, J, J, .fix (.ptr 0 0 0 0), J, J, J, J, J, .fix (.ptr 0 0 0 0), J, J, J, J, .fix (.ptr 1 0 0 0), J, J, J, J, .fix (.ptr 12 0 0 1), J, .fix (.ptr 13 0 0 1), J, J, J, .fix (.ptr 12 0 0 2), J, .fix (.ptr 13 0 0 2), J, J, J, J, .fix (.ptr 12 0 0 3), J, .fix (.ptr 13 0 0 3), J, J, J, J, .fix (.ptr 12 0 0 0), J, J, .fix (.ptr 13 0 0 0)] ++ jN 22 ++ [.agg .chip, .agg .chip, .agg .block, .agg .block]), [], []⟩) <| none
theorem zw4 (N : Nat) (a0 : Chip) (a1 : Chip) : z0t (z0p.mk' (z0i zbl) zhj zd9) N 400 21 [.chip, .chip] [.bool] (a0, a1) = z8h N a0 a1 := by kernel_rfl
noncomputable def zds : List (FuncId × Spec) := (21, ⟨[.chip, .chip], [.bool], z8i⟩) :: zbl
theorem zt5 : zj Tryz.prog (zl zds) := z7 zr z0w zh zpz (by kernel_rfl) ⟨_, Tryz.func21, by rfl⟩ (tm := zhj) (gh := zd9) fun x y h => by obtain ⟨N, h⟩ := zi h; exact ⟨N, 400, (zw4 N x.1 x.2).trans h⟩
noncomputable def zhk : Nat -> Option Tmpl := fun cx => cond (Nat.beq cx 6) (some ⟨[], [], 26, [], ([.var (.list .i), .var (.list .i), J, J, J, .var .i] ++ jN 20), [], []⟩) <| none
theorem zw5 (N : Nat) (a0 : (List Int)) (a1 : (List Int)) : z0t (z0p.mk' (z0i zds) zhk zd9) N 400 28 [(.list .i), (.list .i)] [.bool] (a0, a1) = z8d N a0 a1 := by kernel_rfl
noncomputable def zdt : List (FuncId × Spec) := (28, ⟨[(.list .i), (.list .i)], [.bool], z8e⟩) :: zds
theorem zt6 : zj Tryz.prog (zl zdt) := z7 zr z0w zh zt5 (by kernel_rfl) ⟨_, Tryz.func28, by rfl⟩ (tm := zhk) (gh := zd9) fun x y h => by obtain ⟨N, h⟩ := zi h; exact ⟨N, 400, (zw5 N x.1 x.2).trans h⟩
theorem zw6 (N : Nat) (a0 : Device) (a1 : Device) : z0t (z0p.mk' (z0i zdt) z8p zd9) N 400 11 [.device, .device] [.bool] (a0, a1) = z8j a0 a1 := by kernel_rfl
noncomputable def zdu : List (FuncId × Spec) := (11, ⟨[.device, .device], [.bool], z3g⟩) :: zdt
theorem zt7 : zj Tryz.prog (zl zdu) := z7 zr z0w zh zt6 (by kernel_rfl) ⟨_, Tryz.func11, by rfl⟩ (tm := z8p) (gh := zd9) fun x y h => ⟨0, 400, (zw6 0 x.1 x.2).trans h⟩
noncomputable def za6 : Nat -> Option Tmpl := fun cx => cond (Nat.beq cx 1) (some ⟨[.tmp 12 .i], [(1, .i)], 80, [.st .geometry, .dead, .blk .i 0 true], ([J, J, J, J, .var (.list (.int .u8))] ++ jN 6 ++ [.fix (.ptr 0 0 0 0), .fix (.bref 2 0), .var .i] ++ jN 66 ++ [.agg .geometry, .var (.list .i)]), [], []⟩) <| none
theorem zla (N : Nat) (a0 : Int) (a1 : Int) (a2 : Int) (a3 : Int) (a4 : (List Int)) : z0t (z0p.mk' (z0i zdu) za6 zd9) N 400 3 [(.int .u8), (.int .u8), (.int .u8), (.int .u8), (.list (.int .u8))] [.bool] (a0, a1, a2, a3, a4) = zc7 N a0 a1 a2 a3 a4 := by kernel_rfl
noncomputable def z5t : List (FuncId × Spec) := (3, ⟨[(.int .u8), (.int .u8), (.int .u8), (.int .u8), (.list (.int .u8))], [.bool], zl6⟩) :: zdu
theorem zjg : zj Tryz.prog (zl z5t) := z7 zr z0w zh zt7 (by kernel_rfl) ⟨_, Tryz.func3, by rfl⟩ (tm := za6) (gh := zd9) fun x y h => by obtain ⟨N, h⟩ := zi h; exact ⟨N, 400, (zla N x.1 x.2.1 x.2.2.1 x.2.2.2.1 x.2.2.2.2).trans h⟩
noncomputable def zhl : Nat -> Option Tmpl := fun cx => cond (Nat.beq cx 1365) (some ⟨[.cell 2 0 2 .i, .cell 2 0 3 .i], [(4, .i), (5, .i)], 55, [.raw 1 1, .raw 4 1, .raw 4 1, .raw 1 1, .dead, .dead, .blk .i 0 true, .blk .i 0 true], ([J, .fix (.ptr 0 0 0 0), .fix (.ptr 1 0 0 0), .fix (.ptr 2 0 0 0), .fix (.ptr 3 0 0 0), .fix (.fn 63 [] [(.ptr 3 0 0 0), (.ptr 0 0 0 0)]), .var .i, .var .i, .fix (.fn 63 [] [(.ptr 3 0 0 0), (.ptr 0 0 0 0)]), .fix (.fn 63 [] [(.ptr 3 0 0 0), (.ptr 0 0 0 0)]), J, J, .fix (.ptr 2 0 0 0), .fix (.fn 63 [] [(.ptr 3 0 0 0), (.ptr 0 0 0 0)]), J, .fix (.fn 63 [] [(.ptr 3 0 0 0), (.ptr 0 0 0 0)]), J, J, J, .fix (.ptr 2 0 0 1), .fix (.fn 63 [] [(.ptr 3 0 0 0), (.ptr 0 0 0 0)]), J, .fix (.fn 63 [] [(.ptr 3 0 0 0), (.ptr 0 0 0 0)])] ++ jN 32 ++ [.var (.list (.int .u16)), J, J, J, J, .var .i, .var .i, .fix (.bref 6 0), .fix (.bref 7 0), .var .i, .var (.list .i), .var (.list .i)]), [], []⟩) <| cond (Nat.beq cx 1366) (some ⟨[.cell 2 0 2 .i, .cell 2 0 3 .i], [(4, .i), (5, .i)], 55, [.raw 1 1, .raw 4 1, .raw 4 1, .raw 1 1, .dead, .dead, .blk .i 0 true, .blk .i 0 true], ([J, .fix (.ptr 0 0 0 0), .fix (.ptr 1 0 0 0), .fix (.ptr 2 0 0 0), .fix (.ptr 3 0 0 0), .fix (.fn 63 [] [(.ptr 3 0 0 0), (.ptr 0 0 0 0)]), .var .i, .var .i, .fix (.fn 63 [] [(.ptr 3 0 0 0), (.ptr 0 0 0 0)]), .fix (.fn 63 [] [(.ptr 3 0 0 0), (.ptr 0 0 0 0)]), J, J, .fix (.ptr 2 0 0 0), .fix (.fn 63 [] [(.ptr 3 0 0 0), (.ptr 0 0 0 0)]), J, .fix (.fn 63 [] [(.ptr 3 0 0 0), (.ptr 0 0 0 0)]), J, J, J, .fix (.ptr 2 0 0 1), .fix (.fn 63 [] [(.ptr 3 0 0 0), (.ptr 0 0 0 0)]), J, .fix (.fn 63 [] [(.ptr 3 0 0 0), (.ptr 0 0 0 0)])] ++ jN 32 ++ [.var (.list (.int .u16)), J, J, J, J, .var .i, .var .i, .fix (.bref 6 0), .fix (.bref 7 0), .var .i, .var (.list .i), .var (.list .i)]), [], []⟩) <| cond (Nat.beq cx 1369) (some ⟨[.cell 2 0 2 .i, .cell 2 0 3 .i], [(4, .i), (5, .i)], 55, [.raw 1 1, .raw 4 1, .raw 4 1, .raw 1 1, .dead, .dead, .blk .i 0 true, .blk .i 0 true], ([J, .fix (.ptr 0 0 0 0), .fix (.ptr 1 0 0 0), .fix (.ptr 2 0 0 0), .fix (.ptr 3 0 0 0), .fix (.fn 63 [] [(.ptr 3 0 0 0), (.ptr 0 0 0 0)]), .var .i, .var .i, .fix (.fn 63 [] [(.ptr 3 0 0 0), (.ptr 0 0 0 0)]), .fix (.fn 63 [] [(.ptr 3 0 0 0), (.ptr 0 0 0 0)]), J, J, .fix (.ptr 2 0 0 0), .fix (.fn 63 [] [(.ptr 3 0 0 0), (.ptr 0 0 0 0)]), J, .fix (.fn 63 [] [(.ptr 3 0 0 0), (.ptr 0 0 0 0)]), J, J, J, .fix (.ptr 2 0 0 1), .fix (.fn 63 [] [(.ptr 3 0 0 0), (.ptr 0 0 0 0)]), J, .fix (.fn 63 [] [(.ptr 3 0 0 0), (.ptr 0 0 0 0)])] ++ jN 32 ++ [.var (.list (.int .u16)), J, J, J, J, .var .i, .var .i, .fix (.bref 6 0), .fix (.bref 7 0), .var .i, .var (.list .i), .var (.list .i)]), [], []⟩) <| cond (Nat.beq cx 1370) (some ⟨[.cell 2 0 2 .i, .cell 2 0 3 .i], [(4, .i), (5, .i)], 55, [.raw 1 1, .raw 4 1, .raw 4 1, .raw 1 1, .dead, .dead, .blk .i 0 true, .blk .i 0 true], ([J, .fix (.ptr 0 0 0 0), .fix (.ptr 1 0 0 0), .fix (.ptr 2 0 0 0), .fix (.ptr 3 0 0 0), .fix (.fn 63 [] [(.ptr 3 0 0 0), (.ptr 0 0 0 0)]), .var .i, .var .i, .fix (.fn 63 [] [(.ptr 3 0 0 0), (.ptr 0 0 0 0)]), .fix (.fn 63 [] [(.ptr 3 0 0 0), (.ptr 0 0 0 0)]), J, J, .fix (.ptr 2 0 0 0), .fix (.fn 63 [] [(.ptr 3 0 0 0), (.ptr 0 0 0 0)]), J, .fix (.fn 63 [] [(.ptr 3 0 0 0), (.ptr 0 0 0 0)]), J, J, J, .fix (.ptr 2 0 0 1), .fix (.fn 63 [] [(.ptr 3 0 0 0), (.ptr 0 0 0 0)]), J, .fix (.fn 63 [] [(.ptr 3 0 0 0), (.ptr 0 0 0 0)])] ++ jN 32 ++ [.var (.list (.int .u16)), J, J, J, J, .var .i, .var .i, .fix (.bref 6 0), .fix (.bref 7 0), .var .i, .var (.list .i), .var (.list .i)]), [], []⟩) <| cond (Nat.beq cx 1381) (some ⟨[.cell 2 0 2 .i, .cell 2 0 3 .i], [(4, .i), (5, .i)], 55, [.raw 1 1, .raw 4 1, .raw 4 1, .raw 1 1, .dead, .dead, .blk .i 0 true, .blk .i 0 true], ([J, .fix (.ptr 0 0 0 0), .fix (.ptr 1 0 0 0), .fix (.ptr 2 0 0 0), .fix (.ptr 3 0 0 0), .fix (.fn 63 [] [(.ptr 3 0 0 0), (.ptr 0 0 0 0)]), .var .i, .var .i, .fix (.fn 63 [] [(.ptr 3 0 0 0), (.ptr 0 0 0 0)]), .fix (.fn 63 [] [(.ptr 3 0 0 0), (.ptr 0 0 0 0)]), J, J, .fix (.ptr 2 0 0 0), .fix (.fn 63 [] [(.ptr 3 0 0 0), (.ptr 0 0 0 0)]), J, .fix (.fn 63 [] [(.ptr 3 0 0 0), (.ptr 0 0 0 0)]), J, J, J, .fix (.ptr 2 0 0 1), .fix (.fn 63 [] [(.ptr 3 0 0 0), (.ptr 0 0 0 0)]), J, .fix (.fn 63 [] [(.ptr 3 0 0 0), (.ptr 0 0 0 0)])] ++ jN 32 ++ [.var (.list (.int .u16)), J, J, J, J, .var .i, .var .i, .fix (.bref 6 0), .fix (.bref 7 0), .var .i, .var (.list .i), .var (.list .i)]), [], []⟩) <| cond (Nat.beq cx 1382) (some ⟨[.cell 2 0 2 .i, .cell 2 0 3 .i], [(4, .i), (5, .i)], 55, [.raw 1 1, .raw 4 1, .raw 4 1, .raw 1 1, .dead, .dead, .blk .i 0 true, .blk .i 0 true], ([J, .fix (.ptr 0 0 0 0), .fix (.ptr 1 0 0 0), .fix (.ptr 2 0 0 0), .fix (.ptr 3 0 0 0), .fix (.fn 63 [] [(.ptr 3 0 0 0), (.ptr 0 0 0 0)]), .var .i, .var .i, .fix (.fn 63 [] [(.ptr 3 0 0 0), (.ptr 0 0 0 0)]), .fix (.fn 63 [] [(.ptr 3 0 0 0), (.ptr 0 0 0 0)]), J, J, .fix (.ptr 2 0 0 0), .fix (.fn 63 [] [(.ptr 3 0 0 0), (.ptr 0 0 0 0)]), J, .fix (.fn 63 [] [(.ptr 3 0 0 0), (.ptr 0 0 0 0)]), J, J, J, .fix (.ptr 2 0 0 1), .fix (.fn 63 [] [(.ptr 3 0 0 0), (.ptr 0 0 0 0)]), J, .fix (.fn 63 [] [(.ptr 3 0 0 0), (.ptr 0 0 0 0)])] ++ jN 32 ++ [.var (.list (.int .u16)), J, J, J, J, .var .i, .var .i, .fix (.bref 6 0), .fix (.bref 7 0), .var .i, .var (.list .i), .var (.list .i)]), [], []⟩) <| cond (Nat.beq cx 1385) (some ⟨[.cell 2 0 2 .i, .cell 2 0 3 .i], [(4, .i), (5, .i)], 55, [.raw 1 1, .raw 4 1, .raw 4 1, .raw 1 1, .dead, .dead, .blk .i 0 true, .blk .i 0 true], ([J, .fix (.ptr 0 0 0 0), .fix (.ptr 1 0 0 0), .fix (.ptr 2 0 0 0), .fix (.ptr 3 0 0 0), .fix (.fn 63 [] [(.ptr 3 0 0 0), (.ptr 0 0 0 0)]), .var .i, .var .i, .fix (.fn 63 [] [(.ptr 3 0 0 0), (.ptr 0 0 0 0)]), .fix (.fn 63 [] [(.ptr 3 0 0 0), (.ptr 0 0 0 0)]), J, J, .fix (.ptr 2 0 0 0), .fix (.fn 63 [] [(.ptr 3 0 0 0), (.ptr 0 0 0 0)]), J, .fix (.fn 63 [] [(.ptr 3 0 0 0), (.ptr 0 0 0 0)]), J, J, J, .fix (.ptr 2 0 0 1), .fix (.fn 63 [] [(.ptr 3 0 0 0), (.ptr 0 0 0 0)]), J, .fix (.fn 63 [] [(.ptr 3 0 0 0), (.ptr 0 0 0 0)])] ++ jN 32 ++ [.var (.list (.int .u16)), J, J, J, J, .var .i, .var .i, .fix (.bref 6 0), .fix (.bref 7 0), .var .i, .var (.list .i), .var (.list .i)]), [], []⟩) <| cond (Nat.beq cx 1386) (some ⟨[.cell 2 0 2 .i, .cell 2 0 3 .i], [(4, .i), (5, .i)], 55, [.raw 1 1, .raw 4 1, .raw 4 1, .raw 1 1, .dead, .dead, .blk .i 0 true, .blk .i 0 true], ([J, .fix (.ptr 0 0 0 0), .fix (.ptr 1 0 0 0), .fix (.ptr 2 0 0 0), .fix (.ptr 3 0 0 0), .fix (.fn 63 [] [(.ptr 3 0 0 0), (.ptr 0 0 0 0)]), .var .i, .var .i, .fix (.fn 63 [] [(.ptr 3 0 0 0), (.ptr 0 0 0 0)]), .fix (.fn 63 [] [(.ptr 3 0 0 0), (.ptr 0 0 0 0)]), J, J, .fix (.ptr 2 0 0 0), .fix (.fn 63 [] [(.ptr 3 0 0 0), (.ptr 0 0 0 0)]), J, .fix (.fn 63 [] [(.ptr 3 0 0 0), (.ptr 0 0 0 0)]), J, J, J, .fix (.ptr 2 0 0 1), .fix (.fn 63 [] [(.ptr 3 0 0 0), (.ptr 0 0 0 0)]), J, .fix (.fn 63 [] [(.ptr 3 0 0 0), (.ptr 0 0 0 0)])] ++ jN 32 ++ [.var (.list (.int .u16)), J, J, J, J, .var .i, .var .i, .fix (.bref 6 0), .fix (.bref 7 0), .var .i, .var (.list .i), .var (.list .i)]), [], []⟩) <| cond (Nat.beq cx 1429) (some ⟨[.cell 2 0 2 .i, .cell 2 0 3 .i], [(4, .i), (5, .i)], 55, [.raw 1 1, .raw 4 1, .raw 4 1, .raw 1 1, .dead, .dead, .blk .i 0 true, .blk .i 0 true], ([J, .fix (.ptr 0 0 0 0), .fix (.ptr 1 0 0 0), .fix (.ptr 2 0 0 0), .fix (.ptr 3 0 0 0), .fix (.fn 63 [] [(.ptr 3 0 0 0), (.ptr 0 0 0 0)]), .var .i, .var .i, .fix (.fn 63 [] [(.ptr 3 0 0 0), (.ptr 0 0 0 0)]), .fix (.fn 63 [] [(.ptr 3 0 0 0), (.ptr 0 0 0 0)]), J, J, .fix (.ptr 2 0 0 0), .fix (.fn 63 [] [(.ptr 3 0 0 0), (.ptr 0 0 0 0)]), J, .fix (.fn 63 [] [(.ptr 3 0 0 0), (.ptr 0 0 0 0)]), J, J, J, .fix (.ptr 2 0 0 1), .fix (.fn 63 [] [(.ptr 3 0 0 0), (.ptr 0 0 0 0)]), J, .fix (.fn 63 [] [(.ptr 3 0 0 0), (.ptr 0 0 0 0)])] ++ jN 32 ++ [.var (.list (.int .u16)), J, J, J, J, .var .i, .var .i, .fix (.bref 6 0), .fix (.bref 7 0), .var .i, .var (.list .i), .var (.list .i)]), [], []⟩) <| cond (Nat.beq cx 1430) (some ⟨[.cell 2 0 2 .i, .cell 2 0 3 .i], [(4, .i), (5, .i)], 55, [.raw 1 1, .raw 4 1, .raw 4 1, .raw 1 1, .dead, .dead, .blk .i 0 true, .blk .i 0 true], ([J, .fix (.ptr 0 0 0 0), .fix (.ptr 1 0 0 0), .fix (.ptr 2 0 0 0), .fix (.ptr 3 0 0 0), .fix (.fn 63 [] [(.ptr 3 0 0 0), (.ptr 0 0 0 0)]), .var .i, .var .i, .fix (.fn 63 [] [(.ptr 3 0 0 0), (.ptr 0 0 0 0)]), .fix (.fn 63 [] [(.ptr 3 0 0 0), (.ptr 0 0 0 0)]), J, J, .fix (.ptr 2 0 0 0), .fix (.fn 63 [] [(.ptr 3 0 0 0), (.ptr 0 0 0 0)]), J, .fix (.fn 63 [] [(.ptr 3 0 0 0), (.ptr 0 0 0 0)]), J, J, J, .fix (.ptr 2 0 0 1), .fix (.fn 63 [] [(.ptr 3 0 0 0), (.ptr 0 0 0 0)]), J, .fix (.fn 63 [] [(.ptr 3 0 0 0), (.ptr 0 0 0 0)])] ++ jN 32 ++ [.var (.list (.int .u16)), J, J, J, J, .var .i, .var .i, .fix (.bref 6 0), .fix (.bref 7 0), .var .i, .var (.list .i), .var (.list .i)]), [], []⟩) <| cond (Nat.beq cx 1433) (some ⟨[.cell 2 0 2 .i, .cell 2 0 3 .i], [(4, .i), (5, .i)], 55, [.raw 1 1, .raw 4 1, .raw 4 1, .raw 1 1, .dead, .dead, .blk .i 0 true, .blk .i 0 true], ([J, .fix (.ptr 0 0 0 0), .fix (.ptr 1 0 0 0), .fix (.ptr 2 0 0 0), .fix (.ptr 3 0 0 0), .fix (.fn 63 [] [(.ptr 3 0 0 0), (.ptr 0 0 0 0)]), .var .i, .var .i, .fix (.fn 63 [] [(.ptr 3 0 0 0), (.ptr 0 0 0 0)]), .fix (.fn 63 [] [(.ptr 3 0 0 0), (.ptr 0 0 0 0)]), J, J, .fix (.ptr 2 0 0 0), .fix (.fn 63 [] [(.ptr 3 0 0 0), (.ptr 0 0 0 0)]), J, .fix (.fn 63 [] [(.ptr 3 0 0 0), (.ptr 0 0 0 0)]), J, J, J, .fix (.ptr 2 0 0 1), .fix (.fn 63 [] [(.ptr 3 0 0 0), (.ptr 0 0 0 0)]), J, .fix (.fn 63 [] [(.ptr 3 0 0 0), (.ptr 0 0 0 0)])] ++ jN 32 ++ [.var (.list (.int .u16)), J, J, J, J, .var .i, .var .i, .fix (.bref 6 0), .fix (.bref 7 0), .var .i, .var (.list .i), .var (.list .i)]), [], []⟩) <| cond (Nat.beq cx 1434) (some ⟨[.cell 2 0 2 .i, .cell 2 0 3 .i], [(4, .i), (5, .i)], 55, [.raw 1 1, .raw 4 1, .raw 4 1, .raw 1 1, .dead, .dead, .blk .i 0 true, .blk .i 0 true], ([J, .fix (.ptr 0 0 0 0), .fix (.ptr 1 0 0 0), .fix (.ptr 2 0 0 0), .fix (.ptr 3 0 0 0), .fix (.fn 63 [] [(.ptr 3 0 0 0), (.ptr 0 0 0 0)]), .var .i, .var .i, .fix (.fn 63 [] [(.ptr 3 0 0 0), (.ptr 0 0 0 0)]), .fix (.fn 63 [] [(.ptr 3 0 0 0), (.ptr 0 0 0 0)]), J, J, .fix (.ptr 2 0 0 0), .fix (.fn 63 [] [(.ptr 3 0 0 0), (.ptr 0 0 0 0)]), J, .fix (.fn 63 [] [(.ptr 3 0 0 0), (.ptr 0 0 0 0)]), J, J, J, .fix (.ptr 2 0 0 1), .fix (.fn 63 [] [(.ptr 3 0 0 0), (.ptr 0 0 0 0)]), J, .fix (.fn 63 [] [(.ptr 3 0 0 0), (.ptr 0 0 0 0)])] ++ jN 32 ++ [.var (.list (.int .u16)), J, J, J, J, .var .i, .var .i, .fix (.bref 6 0), .fix (.bref 7 0), .var .i, .var (.list .i), .var (.list .i)]), [], []⟩) <| cond (Nat.beq cx 1445) (some ⟨[.cell 2 0 2 .i, .cell 2 0 3 .i], [(4, .i), (5, .i)], 55, [.raw 1 1, .raw 4 1, .raw 4 1, .raw 1 1, .dead, .dead, .blk .i 0 true, .blk .i 0 true], ([J, .fix (.ptr 0 0 0 0), .fix (.ptr 1 0 0 0), .fix (.ptr 2 0 0 0), .fix (.ptr 3 0 0 0), .fix (.fn 63 [] [(.ptr 3 0 0 0), (.ptr 0 0 0 0)]), .var .i, .var .i, .fix (.fn 63 [] [(.ptr 3 0 0 0), (.ptr 0 0 0 0)]), .fix (.fn 63 [] [(.ptr 3 0 0 0), (.ptr 0 0 0 0)]), J, J, .fix (.ptr 2 0 0 0), .fix (.fn 63 [] [(.ptr 3 0 0 0), (.ptr 0 0 0 0)]), J, .fix (.fn 63 [] [(.ptr 3 0 0 0), (.ptr 0 0 0 0)]), J, J, J, .fix (.ptr 2 0 0 1), .fix (.fn 63 [] [(.ptr 3 0 0 0), (.ptr 0 0 0 0)]), J, .fix (.fn 63 [] [(.ptr 3 0 0 0), (.ptr 0 0 0 0)])] ++ jN 32 ++ [.var (.list (.int .u16)), J, J, J, J, .var .i, .var .i, .fix (.bref 6 0), .fix (.bref 7 0), .var .i, .var (.list .i), .var (.list .i)]), [], []⟩) <| cond (Nat.beq cx 1446) (some ⟨[.cell 2 0 2 .i, .cell 2 0 3 .i], [(4, .i), (5, .i)], 55, [.raw 1 1, .raw 4 1, .raw 4 1, .raw 1 1, .dead, .dead, .blk .i 0 true, .blk .i 0 true], ([J, .fix (.ptr 0 0 0 0), .fix (.ptr 1 0 0 0), .fix (.ptr 2 0 0 0), .fix (.ptr 3 0 0 0), .fix (.fn 63 [] [(.ptr 3 0 0 0), (.ptr 0 0 0 0)]), .var .i, .var .i, .fix (.fn 63 [] [(.ptr 3 0 0 0), (.ptr 0 0 0 0)]), .fix (.fn 63 [] [(.ptr 3 0 0 0), (.ptr 0 0 0 0)]), J, J, .fix (.ptr 2 0 0 0), .fix (.fn 63 [] [(.ptr 3 0 0 0), (.ptr 0 0 0 0)]), J, .fix (.fn 63 [] [(.ptr 3 0 0 0), (.ptr 0 0 0 0)]), J, J, J, .fix (.ptr 2 0 0 1), .fix (.fn 63 [] [(.ptr 3 0 0 0), (.ptr 0 0 0 0)]), J, .fix (.fn 63 [] [(.ptr 3 0 0 0), (.ptr 0 0 0 0)])] ++ jN 32 ++ [.var (.list (.int .u16)), J, J, J, J, .var .i, .var .i, .fix (.bref 6 0), .fix (.bref 7 0), .var .i, .var (.list .i), .var (.list .i)]), [], []⟩) <| cond (Nat.beq cx 1449) (some ⟨[.cell 2 0 2 .i, .cell 2 0 3 .i], [(4, .i), (5, .i)], 55, [.raw 1 1, .raw 4 1, .raw 4 1, .raw 1 1, .dead, .dead, .blk .i 0 true, .blk .i 0 true], ([J, .fix (.ptr 0 0 0 0), .fix (.ptr 1 0 0 0), .fix (.ptr 2 0 0 0), .fix (.ptr 3 0 0 0), .fix (.fn 63 [] [(.ptr 3 0 0 0), (.ptr 0 0 0 0)]), .var .i, .var .i, .fix (.fn 63 [] [(.ptr 3 0 0 0), (.ptr 0 0 0 0)]), .fix (.fn 63 [] [(.ptr 3 0 0 0), (.ptr 0 0 0 0)]), J, J, .fix (.ptr 2 0 0 0), .fix (.fn 63 [] [(.ptr 3 0 0 0), (.ptr 0 0 0 0)]), J, .fix (.fn 63 [] [(.ptr 3 0 0 0), (.ptr 0 0 0 0)]), J, J, J, .fix (.ptr 2 0 0 1), .fix (.fn 63 [] [(.ptr 3 0 0 0), (.ptr 0 0 0 0)]), J, .fix (.fn 63 [] [(.ptr 3 0 0 0), (.ptr 0 0 0 0)])] ++ jN 32 ++ [.var (.list (.int .u16)), J, J, J, J, .var .i, .var .i, .fix (.bref 6 0), .fix (.bref 7 0), .var .i, .var (.list .i), .var (.list .i)]), [], []⟩) <| cond (Nat.beq cx 1450) (some ⟨[.cell 2 0 2 .i, .cell 2 0 3 .i], [(4, .i), (5, .i)], 55, [.raw 1 1, .raw 4 1, .raw 4 1, .raw 1 1, .dead, .dead, .blk .i 0 true, .blk .i 0 true], ([J, .fix (.ptr 0 0 0 0), .fix (.ptr 1 0 0 0), .fix (.ptr 2 0 0 0), .fix (.ptr 3 0 0 0), .fix (.fn 63 [] [(.ptr 3 0 0 0), (.ptr 0 0 0 0)]), .var .i, .var .i, .fix (.fn 63 [] [(.ptr 3 0 0 0), (.ptr 0 0 0 0)]), .fix (.fn 63 [] [(.ptr 3 0 0 0), (.ptr 0 0 0 0)]), J, J, .fix (.ptr 2 0 0 0), .fix (.fn 63 [] [(.ptr 3 0 0 0), (.ptr 0 0 0 0)]), J, .fix (.fn 63 [] [(.ptr 3 0 0 0), (.ptr 0 0 0 0)]), J, J, J, .fix (.ptr 2 0 0 1), .fix (.fn 63 [] [(.ptr 3 0 0 0), (.ptr 0 0 0 0)]), J, .fix (.fn 63 [] [(.ptr 3 0 0 0), (.ptr 0 0 0 0)])] ++ jN 32 ++ [.var (.list (.int .u16)), J, J, J, J, .var .i, .var .i, .fix (.bref 6 0), .fix (.bref 7 0), .var .i, .var (.list .i), .var (.list .i)]), [], []⟩) <| cond (Nat.beq cx 1621) (some ⟨[.cell 2 0 2 .i, .cell 2 0 3 .i], [(4, .i), (5, .i)], 55, [.raw 1 1, .raw 4 1, .raw 4 1, .raw 1 1, .dead, .dead, .blk .i 0 true, .blk .i 0 true], ([J, .fix (.ptr 0 0 0 0), .fix (.ptr 1 0 0 0), .fix (.ptr 2 0 0 0), .fix (.ptr 3 0 0 0), .fix (.fn 63 [] [(.ptr 3 0 0 0), (.ptr 0 0 0 0)]), .var .i, .var .i, .fix (.fn 63 [] [(.ptr 3 0 0 0), (.ptr 0 0 0 0)]), .fix (.fn 63 [] [(.ptr 3 0 0 0), (.ptr 0 0 0 0)]), J, J, .fix (.ptr 2 0 0 0), .fix (.fn 63 [] [(.ptr 3 0 0 0), (.ptr 0 0 0 0)]), J, .fix (.fn 63 [] [(.ptr 3 0 0 0), (.ptr 0 0 0 0)]), J, J, J, .fix (.ptr 2 0 0 1), .fix (.fn 63 [] [(.ptr 3 0 0 0), (.ptr 0 0 0 0)]), J, .fix (.fn 63 [] [(.ptr 3 0 0 0), (.ptr 0 0 0 0)])] ++ jN 32 ++ [.var (.list (.int .u16)), J, J, J, J, .var .i, .var .i, .fix (.bref 6 0), .fix (.bref 7 0), .var .i, .var (.list .i), .var (.list .i)]), [], []⟩) <| cond (Nat.beq cx 1622) (some ⟨[.cell 2 0 2 .i, .cell 2 0 3 .i], [(4, .i), (5, .i)], 55, [.raw 1 1, .raw 4 1, .raw 4 1, .raw 1 1, .dead, .dead, .blk .i 0 true, .blk .i 0 true], ([J, .fix (.ptr 0 0 0 0), .fix (.ptr 1 0 0 0), .fix (.ptr 2 0 0 0), .fix (.ptr 3 0 0 0), .fix (.fn 63 [] [(.ptr 3 0 0 0), (.ptr 0 0 0 0)]), .var .i, .var .i, .fix (.fn 63 [] [(.ptr 3 0 0 0), (.ptr 0 0 0 0)]), .fix (.fn 63 [] [(.ptr 3 0 0 0), (.ptr 0 0 0 0)]), J, J, .fix (.ptr 2 0 0 0), .fix (.fn 63 [] [(.ptr 3 0 0 0), (.ptr 0 0 0 0)]), J, .fix (.fn 63 [] [(.ptr 3 0 0 0), (.ptr 0 0 0 0)]), J, J, J, .fix (.ptr 2 0 0 1), .fix (.fn 63 [] [(.ptr 3 0 0 0), (.ptr 0 0 0 0)]), J, .fix (.fn 63 [] [(.ptr 3 0 0 0), (.ptr 0 0 0 0)])] ++ jN 32 ++ [.var (.list (.int .u16)), J, J, J, J, .var .i, .var .i, .fix (.bref 6 0), .fix (.bref 7 0), .var .i, .var (.list .i), .var (.list .i)]), [], []⟩) <| cond (Nat.beq cx 1625) (some ⟨[.cell 2 0 2 .i, .cell 2 0 3 .i], [(4, .i), (5, .i)], 55, [.raw 1 1, .raw 4 1, .raw 4 1, .raw 1 1, .dead, .dead, .blk .i 0 true, .blk .i 0 true], ([J, .fix (.ptr 0 0 0 0), .fix (.ptr 1 0 0 0), .fix (.ptr 2 0 0 0), .fix (.ptr 3 0 0 0), .fix (.fn 63 [] [(.ptr 3 0 0 0), (.ptr 0 0 0 0)]), .var .i, .var .i, .fix (.fn 63 [] [(.ptr 3 0 0 0), (.ptr 0 0 0 0)]), .fix (.fn 63 [] [(.ptr 3 0 0 0), (.ptr 0 0 0 0)]), J, J, .fix (.ptr 2 0 0 0), .fix (.fn 63 [] [(.ptr 3 0 0 0), (.ptr 0 0 0 0)]), J, .fix (.fn 63 [] [(.ptr 3 0 0 0), (.ptr 0 0 0 0)]), J, J, J, .fix (.ptr 2 0 0 1), .fix (.fn 63 [] [(.ptr 3 0 0 0), (.ptr 0 0 0 0)]), J, .fix (.fn 63 [] [(.ptr 3 0 0 0), (.ptr 0 0 0 0)])] ++ jN 32 ++ [.var (.list (.int .u16)), J, J, J, J, .var .i, .var .i, .fix (.bref 6 0), .fix (.bref 7 0), .var .i, .var (.list .i), .var (.list .i)]), [], []⟩) <| cond (Nat.beq cx 1626) (some ⟨[.cell 2 0 2 .i, .cell 2 0 3 .i], [(4, .i), (5, .i)], 55, [.raw 1 1, .raw 4 1, .raw 4 1, .raw 1 1, .dead, .dead, .blk .i 0 true, .blk .i 0 true], ([J, .fix (.ptr 0 0 0 0), .fix (.ptr 1 0 0 0), .fix (.ptr 2 0 0 0), .fix (.ptr 3 0 0 0), .fix (.fn 63 [] [(.ptr 3 0 0 0), (.ptr 0 0 0 0)]), .var .i, .var .i, .fix (.fn 63 [] [(.ptr 3 0 0 0), (.ptr 0 0 0 0)]), .fix (.fn 63 [] [(.ptr 3 0 0 0), (.ptr 0 0 0 0)]), J, J, .fix (.ptr 2 0 0 0), .fix (.fn 63 [] [(.ptr 3 0 0 0), (.ptr 0 0 0 0)]), J, .fix (.fn 63 [] [(.ptr 3 0 0 0), (.ptr 0 0 0 0)]), J, J, J, .fix (.ptr 2 0 0 1), .fix (.fn 63 [] [(.ptr 3 0 0 0), (.ptr 0 0 0 0)]), J, .fix (.fn 63 [] [(.ptr 3 0 0 0), (.ptr 0 0 0 0)])] ++ jN 32 ++ [.var (.list (.int .u16)), J, J, J, J, .var .i, .var .i, .fix (.bref 6 0), .fix (.bref 7 0), .var .i, .var (.list .i), .var (.list .i)]), [], []⟩) <| cond (Nat.beq cx 1637) (some ⟨[.cell 2 0 2 .i, .cell 2 0 3 .i], [(4, .i), (5, .i)], 55, [.raw 1 1, .raw 4 1, .raw 4 1, .raw 1 1, .dead, .dead, .blk .i 0 true, .blk .i 0 true], ([J, .fix (.ptr 0 0 0 0), .fix (.ptr 1 0 0 0), .fix (.ptr 2 0 0 0), .fix (.ptr 3 0 0 0), .fix (.fn 63 [] [(.ptr 3 0 0 0), (.ptr 0 0 0 0)]), .var .i, .var .i, .fix (.fn 63 [] [(.ptr 3 0 0 0), (.ptr 0 0 0 0)]), .fix (.fn 63 [] [(.ptr 3 0 0 0), (.ptr 0 0 0 0)]), J, J, .fix (.ptr 2 0 0 0), .fix (.fn 63 [] [(.ptr 3 0 0 0), (.ptr 0 0 0 0)]), J, .fix (.fn 63 [] [(.ptr 3 0 0 0), (.ptr 0 0 0 0)]), J, J, J, .fix (.ptr 2 0 0 1), .fix (.fn 63 [] [(.ptr 3 0 0 0), (.ptr 0 0 0 0)]), J, .fix (.fn 63 [] [(.ptr 3 0 0 0), (.ptr 0 0 0 0)])] ++ jN 32 ++ [.var (.list (.int .u16)), J, J, J, J, .var .i, .var .i, .fix (.bref 6 0), .fix (.bref 7 0), .var .i, .var (.list .i), .var (.list .i)]), [], []⟩) <| cond (Nat.beq cx 1638) (some ⟨[.cell 2 0 2 .i, .cell 2 0 3 .i], [(4, .i), (5, .i)], 55, [.raw 1 1, .raw 4 1, .raw 4 1, .raw 1 1, .dead, .dead, .blk .i 0 true, .blk .i 0 true], ([J, .fix (.ptr 0 0 0 0), .fix (.ptr 1 0 0 0), .fix (.ptr 2 0 0 0), .fix (.ptr 3 0 0 0), .fix (.fn 63 [] [(.ptr 3 0 0 0), (.ptr 0 0 0 0)]), .var .i, .var .i, .fix (.fn 63 [] [(.ptr 3 0 0 0), (.ptr 0 0 0 0)]), .fix (.fn 63 [] [(.ptr 3 0 0 0), (.ptr 0 0 0 0)]), J, J, .fix (.ptr 2 0 0 0), .fix (.fn 63 [] [(.ptr 3 0 0 0), (.ptr 0 0 0 0)]), J, .fix (.fn 63 [] [(.ptr 3 0 0 0), (.ptr 0 0 0 0)]), J, J, J, .fix (.ptr 2 0 0 1), .fix (.fn 63 [] [(.ptr 3 0 0 0), (.ptr 0 0 0 0)]), J, .fix (.fn 63 [] [(.ptr 3 0 0 0), (.ptr 0 0 0 0)])] ++ jN 32 ++ [.var (.list (.int .u16)), J, J, J, J, .var .i, .var .i, .fix (.bref 6 0), .fix (.bref 7 0), .var .i, .var (.list .i), .var (.list .i)]), [], []⟩) <| cond (Nat.beq cx 1641) (some ⟨[.cell 2 0 2 .i, .cell 2 0 3 .i], [(4, .i), (5, .i)], 55, [.raw 1 1, .raw 4 1, .raw 4 1, .raw 1 1, .dead, .dead, .blk .i 0 true, .blk .i 0 true], ([J, .fix (.ptr 0 0 0 0), .fix (.ptr 1 0 0 0), .fix (.ptr 2 0 0 0), .fix (.ptr 3 0 0 0), .fix (.fn 63 [] [(.ptr 3 0 0 0), (.ptr 0 0 0 0)]), .var .i, .var .i, .fix (.fn 63 [] [(.ptr 3 0 0 0), (.ptr 0 0 0 0)]), .fix (.fn 63 [] [(.ptr 3 0 0 0), (.ptr 0 0 0 0)]), J, J, .fix (.ptr 2 0 0 0), .fix (.fn 63 [] [(.ptr 3 0 0 0), (.ptr 0 0 0 0)]), J, .fix (.fn 63 [] [(.ptr 3 0 0 0), (.ptr 0 0 0 0)]), J, J, J, .fix (.ptr 2 0 0 1), .fix (.fn 63 [] [(.ptr 3 0 0 0), (.ptr 0 0 0 0)]), J, .fix (.fn 63 [] [(.ptr 3 0 0 0), (.ptr 0 0 0 0)])] ++ jN 32 ++ [.var (.list (.int .u16)), J, J, J, J, .var .i, .var .i, .fix (.bref 6 0), .fix (.bref 7 0), .var .i, .var (.list .i), .var (.list .i)]), [], []⟩) <| cond (Nat.beq cx 1642) (some ⟨[.cell 2 0 2 .i, .cell 2 0 3 .i], [(4, .i), (5, .i)], 55, [.raw 1 1, .raw 4 1, .raw 4 1, .raw 1 1, .dead, .dead, .blk .i 0 true, .blk .i 0 true], ([J, .fix (.ptr 0 0 0 0), .fix (.ptr 1 0 0 0), .fix (.ptr 2 0 0 0), .fix (.ptr 3 0 0 0), .fix (.fn 63 [] [(.ptr 3 0 0 0), (.ptr 0 0 0 0)]), .var .i, .var .i, .fix (.fn 63 [] [(.ptr 3 0 0 0), (.ptr 0 0 0 0)]), .fix (.fn 63 [] [(.ptr 3 0 0 0), (.ptr 0 0 0 0)]), J, J, .fix (.ptr 2 0 0 0), .fix (.fn 63 [] [(.ptr 3 0 0 0), (.ptr 0 0 0 0)]), J, .fix (.fn 63 [] [(.ptr 3 0 0 0), (.ptr 0 0 0 0)]), J, J, J, .fix (.ptr 2 0 0 1), .fix (.fn 63 [] [(.ptr 3 0 0 0), (.ptr 0 0 0 0)]), J, .fix (.fn 63 [] [(.ptr 3 0 0 0), (.ptr 0 0 0 0)])] ++ jN 32 ++ [.var (.list (.int .u16)), J, J, J, J, .var .i, .var .i, .fix (.bref 6 0), .fix (.bref 7 0), .var .i, .var (.list .i), .var (.list .i)]), [], []⟩) <| cond (Nat.beq cx 1685) (some ⟨[.cell 2 0 2 .i, .cell 2 0 3 .i], [(4, .i), (5, .i)], 55, [.raw 1 1, .raw 4 1, .raw 4 1, .raw 1 1, .dead, .dead, .blk .i 0 true, .blk .i 0 true], ([J, .fix (.ptr 0 0 0 0), .fix (.ptr 1 0 0 0), .fix (.ptr 2 0 0 0), .fix (.ptr 3 0 0 0), .fix (.fn 63 [] [(.ptr 3 0 0 0), (.ptr 0 0 0 0)]), .var .i, .var .i, .fix (.fn 63 [] [(.ptr 3 0 0 0), (.ptr 0 0 0 0)]), .fix (.fn 63 [] [(.ptr 3 0 0 0), (.ptr 0 0 0 0)]), J, J, .fix (.ptr 2 0 0 0), .fix (.fn 63 [] [(.ptr 3 0 0 0), (.ptr 0 0 0 0)]), J, .fix (.fn 63 [] [(.ptr 3 0 0 0), (.ptr 0 0 0 0)]), J, J, J, .fix (.ptr 2 0 0 1), .fix (.fn 63 [] [(.ptr 3 0 0 0), (.ptr 0 0 0 0)]), J, .fix (.fn 63 [] [(.ptr 3 0 0 0), (.ptr 0 0 0 0)])] ++ jN 32 ++ [.var (.list (.int .u16)), J, J, J, J, .var .i, .var .i, .fix (.bref 6 0), .fix (.bref 7 0), .var .i, .var (.list .i), .var (.list .i)]), [], []⟩) <| cond (Nat.beq cx 1686) (some ⟨[.cell 2 0 2 .i, .cell 2 0 3 .i], [(4, .i), (5, .i)], 55, [.raw 1 1, .raw 4 1, .raw 4 1, .raw 1 1, .dead, .dead, .blk .i 0 true, .blk .i 0 true], ([J, .fix (.ptr 0 0 0 0), .fix (.ptr 1 0 0 0), .fix (.ptr 2 0 0 0), .fix (.ptr 3 0 0 0), .fix (.fn 63 [] [(.ptr 3 0 0 0), (.ptr 0 0 0 0)]), .var .i, .var .i, .fix (.fn 63 [] [(.ptr 3 0 0 0), (.ptr 0 0 0 0)]), .fix (.fn 63 [] [(.ptr 3 0 0 0), (.ptr 0 0 0 0)]), J, J, .fix (.ptr 2 0 0 0), .fix (.fn 63 [] [(.ptr 3 0 0 0), (.ptr 0 0 0 0)]), J, .fix (.fn 63 [] [(.ptr 3 0 0 0), (.ptr 0 0 0 0)]), J, J, J, .fix (.ptr 2 0 0 1), .fix (.fn 63 [] [(.ptr 3 0 0 0), (.ptr 0 0 0 0)]), J, .fix (.fn 63 [] [(.ptr 3 0 0 0), (.ptr 0 0 0 0)])] ++ jN 32 ++ [.var (.list (.int .u16)), J, J, J, J, .var .i, .var .i, .fix (.bref 6 0), .fix (.bref 7 0), .var .i, .var (.list .i), .var (.list .i)]), [], []⟩) <| cond (Nat.beq cx 1689) (some ⟨[.cell 2 0 2 .i, .cell 2 0 3 .i], [(4, .i), (5, .i)], 55, [.raw 1 1, .raw 4 1, .raw 4 1, .raw 1 1, .dead, .dead, .blk .i 0 true, .blk .i 0 true], ([J, .fix (.ptr 0 0 0 0), .fix (.ptr 1 0 0 0), .fix (.ptr 2 0 0 0), .fix (.ptr 3 0 0 0), .fix (.fn 63 [] [(.ptr 3 0 0 0), (.ptr 0 0 0 0)]), .var .i, .var .i, .fix (.fn 63 [] [(.ptr 3 0 0 0), (.ptr 0 0 0 0)]), .fix (.fn 63 [] [(.ptr 3 0 0 0), (.ptr 0 0 0 0)]), J, J, .fix (.ptr 2 0 0 0), .fix (.fn 63 [] [(.ptr 3 0 0 0), (.ptr 0 0 0 0)]), J, .fix (.fn 63 [] [(.ptr 3 0 0 0), (.ptr 0 0 0 0)]), J, J, J, .fix (.ptr 2 0 0 1), .fix (.fn 63 [] [(.ptr 3 0 0 0), (.ptr 0 0 0 0)]), J, .fix (.fn 63 [] [(.ptr 3 0 0 0), (.ptr 0 0 0 0)])] ++ jN 32 ++ [.var (.list (.int .u16)), J, J, J, J, .var .i, .var .i, .fix (.bref 6 0), .fix (.bref 7 0), .var .i, .var (.list .i), .var (.list .i)]), [], []⟩) <| cond (Nat.beq cx 1690) (some ⟨[.cell 2 0 2 .i, .cell 2 0 3 .i], [(4, .i), (5, .i)], 55, [.raw 1 1, .raw 4 1, .raw 4 1, .raw 1 1, .dead, .dead, .blk .i 0 true, .blk .i 0 true], ([J, .fix (.ptr 0 0 0 0), .fix (.ptr 1 0 0 0), .fix (.ptr 2 0 0 0), .fix (.ptr 3 0 0 0), .fix (.fn 63 [] [(.ptr 3 0 0 0), (.ptr 0 0 0 0)]), .var .i, .var .i, .fix (.fn 63 [] [(.ptr 3 0 0 0), (.ptr 0 0 0 0)]), .fix (.fn 63 [] [(.ptr 3 0 0 0), (.ptr 0 0 0 0)]), J, J, .fix (.ptr 2 0 0 0), .fix (.fn 63 [] [(.ptr 3 0 0 0), (.ptr 0 0 0 0)]), J, .fix (.fn 63 [] [(.ptr 3 0 0 0), (.ptr 0 0 0 0)]), J, J, J, .fix (.ptr 2 0 0 1), .fix (.fn 63 [] [(.ptr 3 0 0 0), (.ptr 0 0 0 0)]), J, .fix (.fn 63 [] [(.ptr 3 0 0 0), (.ptr 0 0 0 0)])] ++ jN 32 ++ [.var (.list (.int .u16)), J, J, J, J, .var .i, .var .i, .fix (.bref 6 0), .fix (.bref 7 0), .var .i, .var (.list .i), .var (.list .i)]), [], []⟩) <| cond (Nat.beq cx 1701) (some ⟨[.cell 2 0 2 .i, .cell 2 0 3 .i], [(4, .i), (5, .i)], 55, [.raw 1 1, .raw 4 1, .raw 4 1, .raw 1 1, .dead, .dead, .blk .i 0 true, .blk .i 0 true], ([J, .fix (.ptr 0 0 0 0), .fix (.ptr 1 0 0 0), .fix (.ptr 2 0 0 0), .fix (.ptr 3 0 0 0), .fix (.fn 63 [] [(.ptr 3 0 0 0), (.ptr 0 0 0 0)]), .var .i, .var .i, .fix (.fn 63 [] [(.ptr 3 0 0 0), (.ptr 0 0 0 0)]), .fix (.fn 63 [] [(.ptr 3 0 0 0), (.ptr 0 0 0 0)]), J, J, .fix (.ptr 2 0 0 0), .fix (.fn 63 [] [(.ptr 3 0 0 0), (.ptr 0 0 0 0)]), J, .fix (.fn 63 [] [(.ptr 3 0 0 0), (.ptr 0 0 0 0)]), J, J, J, .fix (.ptr 2 0 0 1), .fix (.fn 63 [] [(.ptr 3 0 0 0), (.ptr 0 0 0 0)]), J, .fix (.fn 63 [] [(.ptr 3 0 0 0), (.ptr 0 0 0 0)])] ++ jN 32 ++ [.var (.list (.int .u16)), J, J, J, J, .var .i, .var .i, .fix (.bref 6 0), .fix (.bref 7 0), .var .i, .var (.list .i), .var (.list .i)]), [], []⟩) <| cond (Nat.beq cx 1702) (some ⟨[.cell 2 0 2 .i, .cell 2 0 3 .i], [(4, .i), (5, .i)], 55, [.raw 1 1, .raw 4 1, .raw 4 1, .raw 1 1, .dead, .dead, .blk .i 0 true, .blk .i 0 true], ([J, .fix (.ptr 0 0 0 0), .fix (.ptr 1 0 0 0), .fix (.ptr 2 0 0 0), .fix (.ptr 3 0 0 0), .fix (.fn 63 [] [(.ptr 3 0 0 0), (.ptr 0 0 0 0)]), .var .i, .var .i, .fix (.fn 63 [] [(.ptr 3 0 0 0), (.ptr 0 0 0 0)]), .fix (.fn 63 [] [(.ptr 3 0 0 0), (.ptr 0 0 0 0)]), J, J, .fix (.ptr 2 0 0 0), .fix (.fn 63 [] [(.ptr 3 0 0 0), (.ptr 0 0 0 0)]), J, .fix (.fn 63 [] [(.ptr 3 0 0 0), (.ptr 0 0 0 0)]), J, J, J, .fix (.ptr 2 0 0 1), .fix (.fn 63 [] [(.ptr 3 0 0 0), (.ptr 0 0 0 0)]), J, .fix (.fn 63 [] [(.ptr 3 0 0 0), (.ptr 0 0 0 0)])] ++ jN 32 ++ [.var (.list (.int .u16)), J, J, J, J, .var .i, .var .i, .fix (.bref 6 0), .fix (.bref 7 0), .var .i, .var (.list .i), .var (.list .i)]), [], []⟩) <| cond (Nat.beq cx 1705) (some ⟨[.cell 2 0 2 .i, .cell 2 0 3 .i], [(4, .i), (5, .i)], 55, [.raw 1 1, .raw 4 1, .raw 4 1, .raw 1 1, .dead, .dead, .blk .i 0 true, .blk .i 0 true], ([J, .fix (.ptr 0 0 0 0), .fix (.ptr 1 0 0 0), .fix (.ptr 2 0 0 0), .fix (.ptr 3 0 0 0), .fix (.fn 63 [] [(.ptr 3 0 0 0), (.ptr 0 0 0 0)]), .var .i, .var .i, .fix (.fn 63 [] [(.ptr 3 0 0 0), (.ptr 0 0 0 0)]), .fix (.fn 63 [] [(.ptr 3 0 0 0), (.ptr 0 0 0 0)]), J, J, .fix (.ptr 2 0 0 0), .fix (.fn 63 [] [(.ptr 3 0 0 0), (.ptr 0 0 0 0)]), J, .fix (.fn 63 [] [(.ptr 3 0 0 0), (.ptr 0 0 0 0)]), J, J, J, .fix (.ptr 2 0 0 1), .fix (.fn 63 [] [(.ptr 3 0 0 0), (.ptr 0 0 0 0)]), J, .fix (.fn 63 [] [(.ptr 3 0 0 0), (.ptr 0 0 0 0)])] ++ jN 32 ++ [.var (.list (.int .u16)), J, J, J, J, .var .i, .var .i, .fix (.bref 6 0), .fix (.bref 7 0), .var .i, .var (.list .i), .var (.list .i)]), [], []⟩) <| cond (Nat.beq cx 1706) (some ⟨[.cell 2 0 2 .i, .cell 2 0 3 .i], [(4, .i), (5, .i)], 55, [.raw 1 1, .raw 4 1, .raw 4 1, .raw 1 1, .dead, .dead, .blk .i 0 true, .blk .i 0 true], ([J, .fix (.ptr 0 0 0 0), .fix (.ptr 1 0 0 0), .fix (.ptr 2 0 0 0), .fix (.ptr 3 0 0 0), .fix (.fn 63 [] [(.ptr 3 0 0 0), (.ptr 0 0 0 0)]), .var .i, .var .i, .fix (.fn 63 [] [(.ptr 3 0 0 0), (.ptr 0 0 0 0)]), .fix (.fn 63 [] [(.ptr 3 0 0 0), (.ptr 0 0 0 0)]), J, J, .fix (.ptr 2 0 0 0), .fix (.fn 63 [] [(.ptr 3 0 0 0), (.ptr 0 0 0 0)]), J, .fix (.fn 63 [] [(.ptr 3 0 0 0), (.ptr 0 0 0 0)]), J, J, J, .fix (.ptr 2 0 0 1), .fix (.fn 63 [] [(.ptr 3 0 0 0), (.ptr 0 0 0 0)]), J, .fix (.fn 63 [] [(.ptr 3 0 0 0), (.ptr 0 0 0 0)])] ++ jN 32 ++ [.var (.list (.int .u16)), J, J, J, J, .var .i, .var .i, .fix (.bref 6 0), .fix (.bref 7 0), .var .i, .var (.list .i), .var (.list .i)]), [], []⟩) <| none
theorem zw7 (N : Nat) (a0 : (List Int)) : z0t (z0p.mk' (z0i z5t) zhl zd9) N 400 45 [(.list (.int .u16))] [.record] a0 = zct N a0 := by kernel_rfl
noncomputable def zdv : List (FuncId × Spec) := (45, ⟨[(.list (.int .u16))], [.record], zcu⟩) :: z5t
theorem zt8 : zj Tryz.prog (zl zdv) := z7 zr z0w zh zjg (by kernel_rfl) ⟨_, Tryz.func45, by rfl⟩ (tm := zhl) (gh := zd9) fun x y h => by obtain ⟨N, h⟩ := zi h; exact ⟨N, 400, (zw7 N x).trans h⟩
theorem zw8 (N : Nat) (a0 : Write) : z0t (z0p.mk' (z0i zdv) z8p zd9) N 400 46 [.write] [.page, .i] a0 = z83 a0 := by kernel_rfl
noncomputable def zdw : List (FuncId × Spec) := (46, ⟨[.write], [.page, .i], zcv⟩) :: zdv
theorem zt9 : zj Tryz.prog (zl zdw) := z7 zr z0w zh zt8 (by kernel_rfl) ⟨_, Tryz.func46, by rfl⟩ (tm := z8p) (gh := zd9) fun x y h => ⟨0, 400, (zw8 0 x).trans h⟩
theorem zw9 (N : Nat) (a0 : Int) (a1 : (List Int)) : z0t (z0p.mk' (z0i zdw) z8p zd9) N 400 29 [.i, (.list (.int .u16))] [.page] (a0, a1) = z84 a0 a1 := by kernel_rfl
noncomputable def zdx : List (FuncId × Spec) := (29, ⟨[.i, (.list (.int .u16))], [.page], z85⟩) :: zdw
theorem zta : zj Tryz.prog (zl zdx) := z7 zr z0w zh zt9 (by kernel_rfl) ⟨_, Tryz.func29, by rfl⟩ (tm := z8p) (gh := zd9) fun x y h => ⟨0, 400, (zw9 0 x.1 x.2).trans h⟩
end Clk.YtpncgjcflkhemaaGreat
namespace Clk.YtpncgjcflkhemaaGreat
open Go Go.Proofs Go.Proofs.YtpncgjcflkhemaaGreat
noncomputable def zdy : Nat -> Option Tmpl := fun cx => cond (Nat.beq cx 1) (some ⟨[.tmp 3 .block], [(4, .block)], 29, [.raw 4 1, .raw 4 1, .st .chip, .raw 4 1, .dead, .nst true 0 true], ([J, .fix (.ptr 2 0 0 0), .fix (.ptr 3 0 0 0), .fix (.bref 5 0), .var .i] ++ jN 32 ++ [.agg .chip, J, J, J, J, .var (.list .block)]), [.nest 5 true], [.abs 5]⟩) <| none
theorem zq0 (N : Nat) (a0 : Chip) : z0t (z0p.mk' (z0i zdx) zdy zd9) N 400 48 [.chip] [.chip, .i] a0 = zey N a0 := by kernel_rfl
noncomputable def z9l : List (FuncId × Spec) := (48, ⟨[.chip], [.chip, .i], zx⟩) :: zdx
theorem zo8 : zj Tryz.prog (zl z9l) := z7 zr z0w zh zta (by kernel_rfl) ⟨_, Tryz.func48, by rfl⟩ (tm := zdy) (gh := zd9) fun x y h => by obtain ⟨N, h⟩ := zi h; exact ⟨N, 400, (zq0 N x).trans h⟩
noncomputable def zf6 : Nat -> Option Tmpl := fun cx => cond (Nat.beq cx 5) (some ⟨[.tmp 3 .block], [(5, .block)], 29, [.raw 4 1, .raw 4 1, .raw 4 1, .st .chip, .raw 4 1, .dead, .nst true 0 true], ([J, .fix (.ptr 3 0 0 0), .fix (.ptr 4 0 0 0), .fix (.bref 6 0), .var .i] ++ jN 36 ++ [.agg .chip, J, J, J, J, .var (.list .block)]), [.nest 6 true], [.abs 6]⟩) <| cond (Nat.beq cx 26) (some ⟨[.tmp 3 .block], [(5, .block)], 29, [.raw 4 1, .st .fate, .raw 4 1, .st .chip, .raw 4 1, .dead, .nst true 0 true], ([J, .fix (.ptr 3 0 0 0), .fix (.ptr 4 0 0 0), .fix (.bref 6 0), .var .i] ++ jN 28 ++ [.agg .fate, J, J, J, J, .agg .chip, J, J, J, J, .var (.list .block)]), [.nest 6 true], [.abs 6]⟩) <| cond (Nat.beq cx 1722) (some ⟨[], [], 112, [.raw 4 1, .st .fate, .raw 4 1, .raw 4 1, .raw 4 1, .dead, .nst true 0 false, .raw 4 1], ([J, J, J, .fix (.ptr 0 0 0 0), J, .fix (.ptr 1 0 0 0), .fix (.ptr 2 0 0 0), J, .fix (.ptr 7 0 0 0), .pt 6 0 0, .var .i, .fix (.ptr 0 0 0 2)] ++ jN 7 ++ [.fix (.ptr 0 0 0 0), J, J, J, J, J, .fix (.ptr 0 0 0 0)] ++ jN 7 ++ [.fix (.ptr 1 0 0 0), J, J, J, J, .fix (.ptr 1 0 0 0)] ++ jN 9 ++ [.fix (.ptr 7 0 0 3), J, J, .fix (.ptr 7 0 0 3), .fix (.ptr 7 0 0 0), .fix (.bref 6 0), J, J, .fix (.ptr 1 0 0 0)] ++ jN 59 ++ [.agg .fate, J, J, J, J, .fix (.bref 6 0), J, J, J, .fix (.bref 6 0), J, J, J, .var (.list .block), .fix (.bref 6 0), .var .bool, .var .bool, .var .i]), [], [.abs 6]⟩) <| none
noncomputable def zf7 : Nat -> Nat -> Option (Nat × Nat) := fun cx id => cond (Nat.beq cx 6891 && Nat.beq id 13) (some (6, 9)) <| none
theorem ztb (N : Nat) (a0 : Chip) (a1 : Int) (a2 : Fate) : z0t (z0p.mk' (z0i z9l) zf6 zf7) N 400 30 [.chip, .i, .fate] [.chip, .i] (a0, a1, a2) = z64 N a0 a1 a2 := by kernel_rfl
noncomputable def zbm : List (FuncId × Spec) := (30, ⟨[.chip, .i, .fate], [.chip, .i], z65⟩) :: z9l
theorem zq1 : zj Tryz.prog (zl zbm) := z7 zr z0w zh zo8 (by kernel_rfl) ⟨_, Tryz.func30, by rfl⟩ (tm := zf6) (gh := zf7) fun x y h => by obtain ⟨N, h⟩ := zi h; exact ⟨N, 400, (ztb N x.1 x.2.1 x.2.2).trans h⟩
theorem ztc (N : Nat) (a0 : Chip) (a1 : Int) (a2 : Int) : z0t (z0p.mk' (z0i zbm) z8p zd9) N 400 49 [.chip, .i, .i] [.bool] (a0, a1, a2) = z63 a0 a1 a2 := by kernel_rfl
noncomputable def zbn : List (FuncId × Spec) := (49, ⟨[.chip, .i, .i], [.bool], zao⟩) :: zbm
theorem zq2 : zj Tryz.prog (zl zbn) := z7 zr z0w zh zq1 (by kernel_rfl) ⟨_, Tryz.func49, by rfl⟩ (tm := z8p) (gh := zd9) fun x y h => ⟨0, 400, (ztc 0 x.1 x.2.1 x.2.2).trans h⟩
noncomputable def zca : Nat -> Option Tmpl := fun cx => cond (Nat.beq cx 5) (some ⟨[.tmp 3 .block], [(6, .block)], 29, [.raw 4 1, .raw 3 1, .raw 4 1, .raw 4 1, .st .chip, .raw 4 1, .dead, .nst true 0 true], ([J, .fix (.ptr 4 0 0 0), .fix (.ptr 5 0 0 0), .fix (.bref 7 0), .var .i] ++ jN 39 ++ [.agg .chip, J, J, J, J, .var (.list .block)]), [.nest 7 true], [.abs 7]⟩) <| cond (Nat.beq cx 26) (some ⟨[.tmp 3 .block], [(6, .block)], 29, [.raw 4 1, .st .page, .st .fate, .raw 4 1, .st .chip, .raw 4 1, .dead, .nst true 0 true], ([J, .fix (.ptr 4 0 0 0), .fix (.ptr 5 0 0 0), .fix (.bref 7 0), .var .i] ++ jN 28 ++ [.agg .page, .agg .fate, J, J, J, J, .agg .chip, J, J, J, J, .var (.list .block)]), [.nest 7 true], [.abs 7]⟩) <| none
noncomputable def zcb : Nat -> Nat -> Option (Nat × Nat) := fun cx id => cond (Nat.beq cx 27541 && Nat.beq id 18) (some (7, 1)) <| cond (Nat.beq cx 27542 && Nat.beq id 18) (some (7, 1)) <| cond (Nat.beq cx 27545 && Nat.beq id 18) (some (7, 1)) <| cond (Nat.beq cx 27546 && Nat.beq id 18) (some (7, 1)) <| cond (Nat.beq cx 27557 && Nat.beq id 18) (some (7, 1)) <| cond (Nat.beq cx 27558 && Nat.beq id 18) (some (7, 1)) <| cond (Nat.beq cx 27561 && Nat.beq id 18) (some (7, 1)) <| cond (Nat.beq cx 27562 && Nat.beq id 18) (some (7, 1)) <| none
theorem zo9 (N : Nat) (a0 : Chip) (a1 : Int) (a2 : Int) (a3 : Page) (a4 : Fate) : z0t (z0p.mk' (z0i zbn) zca zcb) N 400 31 [.chip, .i, .i, .page, .fate] [.chip, .i] (a0, a1, a2, a3, a4) = z3s N a0 a1 a2 a3 a4 := by kernel_rfl
noncomputable def z7o : List (FuncId × Spec) := (31, ⟨[.chip, .i, .i, .page, .fate], [.chip, .i], z0o⟩) :: zbn
theorem zlb : zj Tryz.prog (zl z7o) := z7 zr z0w zh zq2 (by kernel_rfl) ⟨_, Tryz.func31, by rfl⟩ (tm := zca) (gh := zcb) fun x y h => by obtain ⟨N, h⟩ := zi h; exact ⟨N, 400, (zo9 N x.1 x.2.1 x.2.2.1 x.2.2.2.1 x.2.2.2.2).trans h⟩
noncomputable def zhm : Nat -> Option Tmpl := fun cx => cond (Nat.beq cx 1) (some ⟨[], [], 98, [.raw 4 1, .st .chip], ([.var (.list (.int .u16)), .var .i, J, J, J, J, .fix (.ptr 0 0 0 0), .fix (.ptr 1 0 0 0), J, .var .i, .var .i] ++ jN 91 ++ [.agg .chip]), [], []⟩) <| none
theorem zwa (N : Nat) (a0 : (List Int)) (a1 : Int) (a2 : Int) : z0t (z0p.mk' (z0i z7o) zhm zd9) N 400 13 [(.list (.int .u16)), .i, .i] [.chip] (a0, a1, a2) = z87 N a0 a1 a2 := by kernel_rfl
noncomputable def zdz : List (FuncId × Spec) := (13, ⟨[(.list (.int .u16)), .i, .i], [.chip], z88⟩) :: z7o
theorem ztd : zj Tryz.prog (zl zdz) := z7 zr z0w zh zlb (by kernel_rfl) ⟨_, Tryz.func13, by rfl⟩ (tm := zhm) (gh := zd9) fun x y h => by obtain ⟨N, h⟩ := zi h; exact ⟨N, 400, (zwa N x.1 x.2.1 x.2.2).trans h⟩
noncomputable def zhn : Nat -> Option Tmpl := fun cx => cond (Nat.beq cx 6) (some ⟨[], [], 26, [], ([.var (.list .str), .var (.list .str), J, J, J, .var .i] ++ jN 20), [], []⟩) <| none
theorem zwb (N : Nat) (a0 : (List Str)) (a1 : (List Str)) : z0t (z0p.mk' (z0i zdz) zhn zd9) N 400 16 [(.list .str), (.list .str)] [.bool] (a0, a1) = zka N a0 a1 := by kernel_rfl
noncomputable def ze0 : List (FuncId × Spec) := (16, ⟨[(.list .str), (.list .str)], [.bool], zkb⟩) :: zdz
theorem zte : zj Tryz.prog (zl ze0) := z7 zr z0w zh ztd (by kernel_rfl) ⟨_, Tryz.func16, by rfl⟩ (tm := zhn) (gh := zd9) fun x y h => by obtain ⟨N, h⟩ := zi h; exact ⟨N, 400, (zwb N x.1 x.2).trans h⟩
theorem zwc (N : Nat) (a0 : Chip) (a1 : Int) : z0t (z0p.mk' (z0i ze0) z8p zd9) N 400 60 [.chip, .i] [.page, .bool] (a0, a1) = zk8 a0 a1 := by kernel_rfl
noncomputable def ze1 : List (FuncId × Spec) := (60, ⟨[.chip, .i], [.page, .bool], zk9⟩) :: ze0
theorem ztf : zj Tryz.prog (zl ze1) := z7 zr z0w zh zte (by kernel_rfl) ⟨_, Tryz.func60, by rfl⟩ (tm := z8p) (gh := zd9) fun x y h => ⟨0, 400, (zwc 0 x.1 x.2).trans h⟩
theorem zz4 (N : Nat) (a0 : Chip) (a1 : Table) (a2 : Int) : z0t (z0p.mk' (z0i ze1) z8p zd9) N 400 41 [.chip, .table, .i] [.str] (a0, a1, a2) = zng a0 a1 a2 := by kernel_rfl
noncomputable def zgc : List (FuncId × Spec) := (41, ⟨[.chip, .table, .i], [.str], znh⟩) :: ze1
theorem zwd : zj Tryz.prog (zl zgc) := z7 zr z0w zh ztf (by kernel_rfl) ⟨_, Tryz.func41, by rfl⟩ (tm := z8p) (gh := zd9) fun x y h => ⟨0, 400, (zz4 0 x.1 x.2.1 x.2.2).trans h⟩
noncomputable def zkp : Nat -> Option Tmpl := fun cx => cond (Nat.beq cx 1) (some ⟨[.tmp 3 .str], [(1, .str)], 23, [.st .device, .dead, .blk .str 0 true], ([J, .fix (.ptr 0 0 0 0), J, .fix (.bref 2 0), .var .i] ++ jN 18 ++ [.agg .device, .var (.list .str)]), [], []⟩) <| none
theorem zz5 (N : Nat) (a0 : Device) : z0t (z0p.mk' (z0i zgc) zkp zd9) N 400 18 [.device] [(.list .str)] a0 = zni N a0 := by kernel_rfl
noncomputable def zgd : List (FuncId × Spec) := (18, ⟨[.device], [(.list .str)], znj⟩) :: zgc
theorem zwe : zj Tryz.prog (zl zgd) := z7 zr z0w zh zwd (by kernel_rfl) ⟨_, Tryz.func18, by rfl⟩ (tm := zkp) (gh := zd9) fun x y h => by obtain ⟨N, h⟩ := zi h; exact ⟨N, 400, (zz5 N x).trans h⟩
theorem zoa (N : Nat) (a0 : Device) : z0t (z0p.mk' (z0i zgd) z8p zd9) N 400 20 [.device] [.i] a0 = zd6 a0 := by kernel_rfl
noncomputable def z7p : List (FuncId × Spec) := (20, ⟨[.device], [.i], zd7⟩) :: zgd
theorem zlc : zj Tryz.prog (zl z7p) := z7 zr z0w zh zwe (by kernel_rfl) ⟨_, Tryz.func20, by rfl⟩ (tm := z8p) (gh := zd9) fun x y h => ⟨0, 400, (zoa 0 x).trans h⟩
end Clk.YtpncgjcflkhemaaGreat
namespace Clk.YtpncgjcflkhemaaGreat
open Go Go.Proofs Go.Proofs.YtpncgjcflkhemaaGreat
theorem zjh (N : Nat) (a0 : (List Int)) (a1 : Int) (a2 : Bool) : z0t (z0p.mk' (z0i z7p) z8p zd9) N 400 4 [(.list (.int .u16)), (.int .u8), .bool] [.bool] (a0, a1, a2) = za5 a0 a1 a2 := by kernel_rfl
noncomputable def z4r : List (FuncId × Spec) := (4, ⟨[(.list (.int .u16)), (.int .u8), .bool], [.bool], zj1⟩) :: z7p
theorem zho : zj Tryz.prog (zl z4r) := z7 zr z0w zh zlc (by kernel_rfl) ⟨_, Tryz.func4, by rfl⟩ (tm := z8p) (gh := zd9) fun x y h => ⟨0, 400, (zjh 0 x.1 x.2.1 x.2.2).trans h⟩
noncomputable def z8r : Nat -> Option Tmpl := fun cx => cond (Nat.beq cx 6) (some ⟨[], [], 91, [.st .geometry, .dead, .dead, .dead, .dead, .dead, .dead, .dead, .dead, .dead, .dead, .dead, .st .device, .dead, .dead, .st .device, .st .device], ([J, J, J, J, J, .var .bool, .fix (.ptr 0 0 0 0), .fix (.ptr 12 0 0 0), .var .i, .fix (.ptr 15 0 0 0), .var .i, .fix (.ptr 16 0 0 0), .var .i, .var (.list .str), .var .i] ++ jN 8 ++ [.fix (.ptr 0 0 0 0), J, .fix (.ptr 0 0 0 1)] ++ jN 7 ++ [.fix (.ptr 12 0 0 4)] ++ jN 57 ++ [.agg .geometry, .agg .device, .agg .device, .agg .device]), [], []⟩) <| none
theorem zji (N : Nat) (a0 : (List Int)) (a1 : Int) : z0t (z0p.mk' (z0i z4r) z8r zd9) N 400 5 [(.list (.int .u16)), (.int .u8)] [.bool] (a0, a1) = z2g N a0 a1 := by kernel_rfl
noncomputable def zjj : List (FuncId × Spec) := (5, ⟨[(.list (.int .u16)), (.int .u8)], [.bool], z4n⟩) :: z4r
theorem zhp : zj Tryz.prog (zl zjj) := z7 zr z0w zh zho (by kernel_rfl) ⟨_, Tryz.func5, by rfl⟩ (tm := z8r) (gh := zd9) fun x y h => by obtain ⟨N, h⟩ := zi h; exact ⟨N, 400, (zji N x.1 x.2).trans h⟩
end Clk.YtpncgjcflkhemaaGreat
namespace Clk
open Go
theorem z6 {X R : Type} (F : (X -> Option R) -> X -> Option R) (N : Nat) (x : X) : zd F (N + 1) x = F (zd F N) x := rfl
theorem zk {α : Type} {xs l : List α} {k : Nat} {a : α} (h : xs.drop k = a :: l) : k < xs.length /\ (∀ d, xs.getD k d = a) /\ xs.drop (k + 1) = l := by
 have hk : k < xs.length := by
  apply Nat.lt_of_not_le
  intro hn; rw [List.drop_eq_nil_of_le hn] at h; cases h
 rw [List.drop_eq_getElem_cons hk] at h; injection h with h1 h2
 exact ⟨hk, fun d => by rw [zI, zH hk, h1]; rfl, h2⟩
theorem zp {α : Type} {xs : List α} {k : Nat} (h : xs.drop k = []) : xs.length <= k := List.drop_eq_nil_iff.1 h
theorem zf {n : Int} (h1 : -9223372036854775808 <= n) (h2 : n < 9223372036854775808) : w64 n = n := Go.IntWalk.i64_in n ⟨h1, by omega⟩
theorem zqz {n : Int} (h1 : 0 <= n) (h2 : n < 4294967296) : IntKind.u32.wrap n = n := Go.IntWalk.u32_in n ⟨h1, by omega⟩
theorem zq3 {n : Int} (h1 : 0 <= n) (h2 : n < 256) : IntKind.u8.wrap n = n := Go.IntWalk.u8_in n ⟨h1, by omega⟩
theorem z8 {α β : Type} (a : α) (f : α -> Option β) : (some a).bind f = f a := rfl
theorem zem {k : IntKind} {n m : Nat} (hn : n < 2 ^ k.bits) (hm : m < 2 ^ k.bits) : bXor k n m = ((n ^^^ m : Nat) : Int) := by
 unfold bXor; simp only [BitVec.ofInt_natCast, BitVec.toNat_xor, BitVec.toNat_ofNat, Nat.mod_eq_of_lt hn, Nat.mod_eq_of_lt hm]
theorem z07t {k : IntKind} {n m : Nat} (hn : n < 2 ^ k.bits) (hm : m < 2 ^ k.bits) : bAnd k n m = ((n &&& m : Nat) : Int) := by
 unfold bAnd; simp only [BitVec.ofInt_natCast, BitVec.toNat_and, BitVec.toNat_ofNat, Nat.mod_eq_of_lt hn, Nat.mod_eq_of_lt hm]
theorem z05k {k : IntKind} {n m : Nat} (hn : n < 2 ^ k.bits) (hm : m < 2 ^ k.bits) : bOr k n m = ((n ||| m : Nat) : Int) := by
 unfold bOr; simp only [BitVec.ofInt_natCast, BitVec.toNat_or, BitVec.toNat_ofNat, Nat.mod_eq_of_lt hn, Nat.mod_eq_of_lt hm]
def stepN (c : Nat) : Nat := if c % 2 = 1 then (c / 2) ^^^ 3988292384 else c / 2
def stepsN : Nat -> Nat -> Nat
 | 0, c => c
 | k + 1, c => stepsN k (stepN c)
def crcL : Str -> Nat -> Nat
 | [], c => c
 | b :: l, c => crcL l (stepsN 8 (c ^^^ b.toNat))
def crcT (s : Str) : Nat := crcL s 4294967295 ^^^ 4294967295
theorem zhq {a b : Nat} (ha : a < 4294967296) (hb : b < 4294967296) : a ^^^ b < 4294967296 := Nat.xor_lt_two_pow (n := 32) ha hb
theorem ztg {c : Nat} (h : c < 4294967296) : stepN c < 4294967296 := by
 unfold stepN; split
 · exact zhq (by omega) (by omega)
 · omega
theorem zhr : ∀ (k : Nat) {c : Nat}, c < 4294967296 -> stepsN k c < 4294967296
 | 0, c, h => h
 | k + 1, c, h => zhr k (ztg h)
theorem z07u (b : UInt8) : b.toNat < 256 := b.toNat_lt
theorem z05l : ∀ (s : Str) {c : Nat}, c < 4294967296 -> crcL s c < 4294967296
 | [], c, h => h
 | b :: l, c, h => z05l l (zhr 8 (zhq h (by have := z07u b; omega)))
theorem z05m (s : Str) : crcT s < 4294967296 := zhq (z05l s (by omega)) (by omega)
theorem zwf {c : Nat} (h : c < 4294967296) : z81 c = some ((stepN c : Nat) : Int) := by
 unfold z81 zcr stepN; have h1 : Int.tmod (c : Int) 2 = ((c % 2 : Nat) : Int) := by rw [Int.tmod_eq_emod_of_nonneg (by omega)]; rfl
 have h2 : Int.tdiv (c : Int) 2 = ((c / 2 : Nat) : Int) := by rw [Int.tdiv_eq_ediv_of_nonneg (by omega)]; rfl
 rw [h1, h2, zf (n := ((c / 2 : Nat) : Int)) (by omega) (by omega), show (3988292384 : Int) = ((3988292384 : Nat) : Int) from rfl, zem (k := .i64) (Nat.lt_trans (show c / 2 < 4294967296 by omega) (by decide)) (by decide)]; have h3 := zhq (show c / 2 < 4294967296 by omega) (show 3988292384 < 4294967296 by omega); rw [zf (n := ((c / 2 ^^^ 3988292384 : Nat) : Int)) (by omega) (by omega)]; by_cases h4 : c % 2 = 1
 · rw [if_pos h4, zT (by omega)]; rfl
 · rw [if_neg h4, zF (by omega)]; rfl
theorem z00k {ih0 : Str × Int × Int -> Option Int} {s : Str} {i : Int} (hi : w64 (i + 1) = i + 1) : ∀ (k N c : Nat) (j : Int), j = 8 - k -> k <= 8 -> c < 4294967296 -> k < N -> zd (z4w ih0) N (s, c, i, j) = ih0 (s, ((stepsN k c : Nat) : Int), i + 1)
 | 0, N + 1, c, j, h1, _, h2, _ => by
   rw [z6]; unfold z4w z8z; simp only [hi]; rw [zF (by omega)]; rfl
 | k + 1, N + 1, c, j, h1, h3, h2, h4 => by
   rw [z6]; unfold z4w z8z; simp only; rw [zT (show j < 8 by omega), zC, zwf h2, z8, zf (n := j + 1) (by omega) (by omega)]; exact z00k hi k N _ _ (by omega) (by omega) (ztg h2) (by omega)
 | _, 0, _, _, _, _, _, h => by omega
theorem z00l {s : Str} (hs : s.length < 4294967296) : ∀ (l : Str) (N M k c : Nat) (i : Int), s.drop k = l -> i = k -> c < 4294967296 -> 8 < M -> l.length < N -> zd (z4x M) N (s, c, i) = some (((crcL l c ^^^ 4294967295 : Nat)) : Int)
 | [], N + 1, M, k, c, i, h1, h2, h3, h4, _ => by
   rw [z6]; unfold z4x z90; have := zp h1; simp only; rw [zF (by omega), zD, show (4294967295 : Int) = ((4294967295 : Nat) : Int) from rfl, zem (k := .i64) (Nat.lt_trans h3 (by decide)) (by decide), zf]
   · rfl
   · omega
   · have := zhq h3 (show 4294967295 < 4294967296 by omega); omega
 | b :: l, N + 1, M, k, c, i, h1, h2, h3, h4, h5 => by
   rw [z6]; unfold z4x z90; obtain ⟨g1, g2, g3⟩ := zk h1; have hb := z07u b; have hx := zhq h3 (show b.toNat < 4294967296 by omega); subst h2; simp only [Int.toNat_natCast, g2]; rw [zT (show (k : Int) < s.length by omega), zT (show (0 : Int) <= k by omega)]; simp only [zC]; rw [zf (n := (b.toNat : Int)) (by omega) (by omega), zem (k := .i64) (Nat.lt_trans h3 (by decide)) (Nat.lt_trans (show b.toNat < 4294967296 by omega) (by decide)), zf (n := ((c ^^^ b.toNat : Nat) : Int)) (by omega) (by omega)]; rw [z00k (zf (by omega) (by omega)) 8 M _ 0 (by omega) (by omega) hx h4]; exact z00l hs l N M (k + 1) _ _ g3 (by omega) (zhr 8 hx) h4 (by simp at h5; omega)
 | _, 0, _, _, _, _, _, _, _, _, h => by omega
theorem zz6 {s : Str} (hs : s.length < 4294967296) : zfm s = some ((crcT s : Nat) : Int) := by
 refine z0e (s.length + 9) fun N hN => ?_
 exact z00l hs s N N 0 4294967295 0 rfl rfl (by omega) (by omega) (by omega)
theorem and1 (c : Nat) : c &&& 1 = c % 2 := Nat.and_one_is_mod c
theorem z08z {ih0 : Str × Int × Int × Int -> Option Int} {s : Str} {i n : Int} (hi : w64 (i + 1) = i + 1) : ∀ (k N c : Nat) (j : Int), j = 8 - k -> k <= 8 -> c < 4294967296 -> k < N -> zd (z89 ih0) N (s, c, n, i, j) = ih0 (s, ((stepsN k c : Nat) : Int), n, i + 1)
 | 0, N + 1, c, j, h1, _, h2, _ => by
   rw [z6]; unfold z89 zcw; simp only [hi]; rw [zF (by omega)]; rfl
 | k + 1, N + 1, c, j, h1, h3, h2, h4 => by
   rw [z6]; unfold z89 zcw; simp only; have e1 : bAnd .u32 (c : Int) 1 = ((c % 2 : Nat) : Int) := by
    rw [show (1 : Int) = ((1 : Nat) : Int) from rfl, z07t (k := .u32) h2 (by decide), and1]
   have e2 : Int.fdiv (c : Int) (2 ^ (min 1 32)) = ((c / 2 : Nat) : Int) := by
    rw [show (2 : Int) ^ (min 1 32) = 2 from rfl, Int.fdiv_eq_ediv_of_nonneg _ (by omega)]; rfl
   have h6 := zhq (show c / 2 < 4294967296 by omega) (show 3988292384 < 4294967296 by omega); rw [zT (show j < 8 by omega), zC, e1, e2, zqz (by omega) (by omega), show (3988292384 : Int) = ((3988292384 : Nat) : Int) from rfl, zem (k := .u32) (show c / 2 < 4294967296 by omega) (by decide), zqz (n := ((c / 2 ^^^ 3988292384 : Nat) : Int)) (by omega) (by omega), zf (n := j + 1) (by omega) (by omega)]; have h5 := z08z (ih0 := ih0) (s := s) (i := i) (n := n) hi k N (stepN c) (j + 1) (by omega) (by omega) (ztg h2) (by omega); unfold stepN at h5; show _ = ih0 (s, ((stepsN k (stepN c) : Nat) : Int), n, i + 1); unfold stepN; by_cases h7 : c % 2 = 1
   · rw [if_pos h7] at h5 ⊢; rw [zF (by omega), Bool.not_false, zC]; exact h5
   · rw [if_neg h7] at h5 ⊢; rw [zT (by omega), Bool.not_true, zD]; exact h5
 | _, 0, _, _, _, _, _, h => by omega
theorem z07v {c : Nat} (h : c < 4294967296) : bNot .u32 (c : Int) = ((c ^^^ 4294967295 : Nat) : Int) := by
 have := zem (k := .u32) (n := 4294967295) (m := c) (by decide) h; rw [Nat.xor_comm] at this; exact this
theorem z090 {s : Str} (hs : s.length < 4294967296) : ∀ (l : Str) (N M k c : Nat) (i : Int), s.drop k = l -> i = k -> c < 4294967296 -> 8 < M -> l.length < N -> zd (z8a M) N (s, c, (s.length : Int), i) = some (((crcL l c ^^^ 4294967295 : Nat)) : Int)
 | [], N + 1, M, k, c, i, h1, h2, h3, h4, _ => by
   rw [z6]; unfold z8a zcx; have := zp h1; have h5 := zhq h3 (show 4294967295 < 4294967296 by omega); simp only; rw [zF (by omega), zD, z07v h3, zqz (by omega) (by omega), zf (by omega) (by omega)]; rfl
 | b :: l, N + 1, M, k, c, i, h1, h2, h3, h4, h5 => by
   rw [z6]; unfold z8a zcx; obtain ⟨g1, g2, g3⟩ := zk h1; have hb := z07u b; have hx := zhq h3 (show b.toNat < 4294967296 by omega); subst h2; simp only [Int.toNat_natCast, g2]; rw [zT (show (k : Int) < s.length by omega), zT (show (0 : Int) <= k by omega)]; simp only [zC]; rw [zqz (n := (b.toNat : Int)) (by omega) (by omega), zem (k := .u32) h3 (show b.toNat < 4294967296 by omega), zqz (n := ((c ^^^ b.toNat : Nat) : Int)) (by omega) (by omega)]; rw [z08z (zf (by omega) (by omega)) 8 M _ 0 (by omega) (by omega) hx h4]; exact z090 hs l N M (k + 1) _ _ g3 (by omega) (zhr 8 hx) h4 (by simp at h5; omega)
 | _, 0, _, _, _, _, _, _, _, _, h => by omega
theorem z05n {s : Str} (hs : s.length < 4294967296) : zn9 s = some ((crcT s : Nat) : Int) := by
 refine z0e (s.length + 9) fun N hN => ?_
 exact z090 hs s N N 0 4294967295 0 rfl rfl (by omega) (by omega) (by omega)
end Clk
namespace Clk
open Go
theorem zwg (n : Nat) : IntKind.u8.wrap (n : Int) = ((n % 256 : Nat) : Int) := by rw [IntKind.wrap_u8]; omega
theorem zwh (n : Nat) : UInt8.ofNat (n % 256) = UInt8.ofNat n := by
 apply UInt8.toNat_inj.1
 simp
def bytes4 (n : Nat) : Str := [UInt8.ofNat (n % 256), UInt8.ofNat (n / 256 % 256), UInt8.ofNat (n / 65536 % 256), UInt8.ofNat (n / 16777216)]
theorem zen (n m : Nat) : Int.tdiv (n : Int) (m : Int) = ((n / m : Nat) : Int) := by rw [Int.tdiv_eq_ediv_of_nonneg (by omega)]; rfl
theorem zbo (n m : Nat) : Int.tmod (n : Int) (m : Int) = ((n % m : Nat) : Int) := by rw [Int.tmod_eq_emod_of_nonneg (by omega)]; rfl
theorem zhs (n m : Nat) : Int.fdiv (n : Int) (m : Int) = ((n / m : Nat) : Int) := by rw [Int.fdiv_eq_ediv_of_nonneg _ (by omega)]; rfl
theorem zth {n : Nat} (h : n < 4294967296) : z60 n = some (bytes4 n) := by
 unfold z60 zal; rw [zF (show ¬ (n : Int) < 0 by omega), zF (show ¬ 4294967295 < (n : Int) by omega)]; simp only [zD]; have e1 : Int.tmod (n : Int) 256 = ((n % 256 : Nat) : Int) := zbo n 256; have e2 : Int.tdiv (n : Int) 256 = ((n / 256 : Nat) : Int) := zen n 256; have e3 : Int.tdiv (n : Int) 65536 = ((n / 65536 : Nat) : Int) := zen n 65536; have e4 : Int.tdiv (n : Int) 16777216 = ((n / 16777216 : Nat) : Int) := zen n 16777216; have e5 : Int.tmod ((n / 256 : Nat) : Int) 256 = ((n / 256 % 256 : Nat) : Int) := zbo (n / 256) 256; have e6 : Int.tmod ((n / 65536 : Nat) : Int) 256 = ((n / 65536 % 256 : Nat) : Int) := zbo (n / 65536) 256; rw [e1, e2, e3, e4, zf (n := ((n / 256 : Nat) : Int)) (by omega) (by omega), zf (n := ((n / 65536 : Nat) : Int)) (by omega) (by omega), zf (n := ((n / 16777216 : Nat) : Int)) (by omega) (by omega), e5, e6]; rw [zq3 (n := ((n % 256 : Nat) : Int)) (by omega) (by omega), zq3 (n := ((n / 256 % 256 : Nat) : Int)) (by omega) (by omega), zq3 (n := ((n / 65536 % 256 : Nat) : Int)) (by omega) (by omega), zq3 (n := ((n / 16777216 : Nat) : Int)) (by omega) (by omega)]; rfl
theorem zwi (M : Nat) (c : Int) : zd zez (M + 5) (c, 0, [0, 0, 0, 0]) = some (z0c [IntKind.u8.wrap (Int.fdiv c 1), IntKind.u8.wrap (Int.fdiv c 256), IntKind.u8.wrap (Int.fdiv c 65536), IntKind.u8.wrap (Int.fdiv c 16777216)]) := by kernel_rfl
theorem zz7 {n : Nat} (h : n < 4294967296) : zfs n = some (bytes4 n) := by
 refine z0e 5 fun N hN => ?_
 obtain ⟨M, rfl⟩ : ∃ M, N = M + 5 := ⟨N - 5, by omega⟩; unfold zfr; rw [zqz (n := (n : Int)) (by omega) (by omega), zf (n := (n : Int)) (by omega) (by omega), zT rfl, Bool.not_true, zD, zwi]; have e1 : Int.fdiv (n : Int) 1 = (n : Int) := by have := zhs n 1; rw [Nat.div_one] at this; exact this
 have e2 : Int.fdiv (n : Int) 256 = ((n / 256 : Nat) : Int) := zhs n 256; have e3 : Int.fdiv (n : Int) 65536 = ((n / 65536 : Nat) : Int) := zhs n 65536; have e4 : Int.fdiv (n : Int) 16777216 = ((n / 16777216 : Nat) : Int) := zhs n 16777216; rw [e1, e2, e3, e4, zwg, zwg, zwg, zwg]; simp only [z0c, List.map_cons, List.map_nil, Int.toNat_natCast, bytes4]; rw [zwh (n / 16777216)]
def putN : Nat -> Nat -> Str
 | 0, n => [UInt8.ofNat n]
 | f + 1, n => if 127 < n then UInt8.ofNat (128 + n % 128) :: putN f (n / 128) else [UInt8.ofNat n]
def putV (n : Int) : Str := if n < 0 \/ 1099511627776 < n then [] else putN 5 n.toNat
theorem z00m : ∀ (f n : Nat), (putN f n).length <= f + 1
 | 0, n => Nat.le_refl _
 | f + 1, n => by
   unfold putN; split
   · have := z00m f (n / 128); simp; omega
   · simp
theorem zeo (n : Int) : (putV n).length <= 6 := by
 unfold putV; split
 · simp
 · exact z00m 5 _
theorem zz8 : ∀ (f n : Nat), putN f n ≠ []
 | 0, n => by simp [putN]
 | f + 1, n => by unfold putN; split <;> simp
theorem zkq : ∀ (f N n : Nat) (s : Str), n < 128 ^ (f + 1) -> n < 4611686018427387904 -> s.length + f < 1099511627776 -> f < N -> zd z8y N (n, s) = some (s ++ putN f n)
 | f, 0, n, s, _, _, _, h => by omega
 | 0, N + 1, n, s, h1, h5, h2, _ => by
   rw [z6]; rw [z9v]; unfold z4v; simp only [putN]; rw [zF (by omega), zD, zq3 (n := (n : Int)) (by omega) (by omega), zT (by simp [z0c]; omega), zC]; rfl
 | f + 1, N + 1, n, s, h1, h5, h2, h3 => by
   rw [z6]; rw [z9v]; unfold z4v; simp only [putN]; have e1 : Int.tmod (n : Int) 128 = ((n % 128 : Nat) : Int) := zbo n 128; have e2 : Int.tdiv (n : Int) 128 = ((n / 128 : Nat) : Int) := zen n 128; by_cases h4 : 127 < n
   · rw [zT (show (127 : Int) < n by omega), zC, if_pos h4, e1, e2, zf (n := 128 + ((n % 128 : Nat) : Int)) (by omega) (by omega), zq3 (n := 128 + ((n % 128 : Nat) : Int)) (by omega) (by omega), zT (by simp [z0c]; omega), zC, zf (n := ((n / 128 : Nat) : Int)) (by omega) (by omega)]; have e3 : z0c [128 + ((n % 128 : Nat) : Int)] = [UInt8.ofNat (128 + n % 128)] := by simp only [z0c, List.map_cons, List.map_nil]; congr 2
     rw [e3, zkq f N (n / 128) _ (by rw [Nat.pow_succ] at h1; omega) (by omega) (by simp; omega) (by omega)]; simp
   · rw [zF (show ¬ (127 : Int) < n by omega), zD, if_neg h4, zq3 (n := (n : Int)) (by omega) (by omega), zT (by simp [z0c]; omega), zC]; rfl
theorem zob (n : Int) : zak n = some (putV n) := by
 refine z0e 6 fun N hN => ?_
 unfold zfl putV; by_cases h1 : n < 0
 · rw [zT h1, zC, if_pos (.inl h1)]
 · by_cases h2 : 1099511627776 < n
   · rw [zF h1, zD, zT h2, zC, if_pos (.inr h2)]
   · rw [zF h1, zD, zF h2, zD, if_neg (by omega)]; obtain ⟨k, rfl⟩ : ∃ k : Nat, n = k := ⟨n.toNat, by omega⟩; have := zkq 5 N k [] (by simp; omega) (by omega) (by simp) (by omega); simpa using this
theorem or128 {x : Nat} (h : x < 256) : x ||| 128 = 128 + x % 128 := by
 have : ∀ x : Fin 256, x.val ||| 128 = 128 + x.val % 128 := by decide +kernel
 exact this ⟨x, h⟩
theorem zge (a b : List Int) : z0c (a ++ b) = z0c a ++ z0c b := by simp [z0c]
theorem zoc : ∀ (f N n : Nat) (s : List Int), n < 128 ^ (f + 1) -> n < 4611686018427387904 -> s.length + f < 1099511627776 -> f < N -> zd zaz N (n, s) = some (z0c s ++ putN f n)
 | f, 0, n, s, _, _, _, h => by omega
 | 0, N + 1, n, s, h1, h5, h2, _ => by
   rw [z6]; rw [zc0]; unfold z6d; simp only [putN]; rw [zF (by omega), zD, zq3 (n := (n : Int)) (by omega) (by omega), zT (by simp; omega), zC, zT (by simp; omega), zC, zge]; rfl
 | f + 1, N + 1, n, s, h1, h5, h2, h3 => by
   rw [z6]; rw [zc0]; unfold z6d; simp only [putN]; have e2 : Int.fdiv (n : Int) (2 ^ (min 7 64)) = ((n / 128 : Nat) : Int) := zhs n 128; by_cases h4 : 127 < n
   · have e4 : IntKind.u8.wrap (bOr .u8 (IntKind.u8.wrap (n : Int)) 128) = 128 + ((n % 128 : Nat) : Int) := by
      rw [zwg, show (128 : Int) = ((128 : Nat) : Int) from rfl, z05k (k := .u8) (show n % 256 < 256 by omega) (by decide), or128 (by omega), zq3 (by omega) (by omega)]; omega
     rw [zT (show (128 : Int) <= n by omega), zC, if_pos h4, e4, e2, zT (by simp; omega), zC, zT (by simp; omega), zC]; have e3 : z0c [128 + ((n % 128 : Nat) : Int)] = [UInt8.ofNat (128 + n % 128)] := by simp only [z0c, List.map_cons, List.map_nil]; congr 2
     rw [zoc f N (n / 128) _ (by rw [Nat.pow_succ] at h1; omega) (by omega) (by simp; omega) (by omega), zge, e3]; simp
   · rw [zF (show ¬ (128 : Int) <= n by omega), zD, if_neg h4, zq3 (n := (n : Int)) (by omega) (by omega), zT (by simp; omega), zC, zT (by simp; omega), zC, zge]; rfl
theorem zr0 (n : Int) : zeg n = some (putV n) := by
 refine z0e 6 fun N hN => ?_
 unfold ziv putV; by_cases h1 : n < 0
 · rw [zT h1, zC, if_pos (.inl h1)]
 · by_cases h2 : 1099511627776 < n
   · rw [zF h1, zD, zT h2, zC, if_pos (.inr h2)]
   · rw [zF h1, zD, zF h2, zD, if_neg (by omega)]; obtain ⟨k, rfl⟩ : ∃ k : Nat, n = k := ⟨n.toNat, by omega⟩; have := zoc 5 N k [] (by simp; omega) (by omega) (by simp) (by omega); simpa [z0c] using this
def packL : List Int -> Str -> Str × Int
 | [], s => (s, 0)
 | n :: l, s => if putV n = [] then ([], 1) else packL l (s ++ putV n)
def packT (l : List Int) : Str × Int := packL l (putV l.length)
theorem zht {xs : List Int} (hs : xs.length < 4294967296) : ∀ (l : List Int) (N k : Nat) (i : Int) (s : Str), xs.drop k = l -> i = k -> s.length + 6 * l.length < 1099511627776 -> l.length < N -> zd z79 N (xs, s, i) = some (packL l s)
 | l, 0, _, _, _, _, _, _, h => by omega
 | [], N + 1, k, i, s, h1, h2, h3, _ => by
   have := zp h1; rw [z6]; rw [z7z]; unfold z3p; simp only [packL]; rw [zF (by omega)]; rfl
 | n :: l, N + 1, k, i, s, h1, h2, h3, h4 => by
   obtain ⟨g1, g2, g3⟩ := zk h1; subst h2; rw [z6]; rw [z7z]; unfold z3p; simp only [Int.toNat_natCast, g2, packL, zob, z8]; have hp := zeo n; simp only [List.length_cons] at h3 h4; rw [zT (show (k : Int) < xs.length by omega), zT (show (0 : Int) <= k by omega)]; simp only [zC]; by_cases h5 : putV n = []
   · rw [zT h5, if_pos h5]; rfl
   · rw [zF h5, if_neg h5, zD, zT (by omega), zC]; exact zht hs l N (k + 1) _ _ g3 (by rw [zf (by omega) (by omega)]; omega) (by simp; omega) (by omega)
theorem ze2 {l : List Int} (hs : l.length < 4294967296) : z5h l = some (packT l) := by
 refine z0e (l.length + 1) fun N hN => ?_
 unfold zcp; rw [zob, z8]; have := zeo l.length; exact zht hs l N 0 0 _ rfl rfl (by omega) (by omega)
theorem zkr {xs : List Int} (hs : xs.length < 4294967296) : ∀ (l : List Int) (N k : Nat) (i : Int) (s : Str), xs.drop k = l -> i = k -> s.length + 6 * l.length < 1099511627776 -> l.length < N -> zd z95 N (s, xs, (xs.length : Int), i) = some (packL l s)
 | l, 0, _, _, _, _, _, _, h => by omega
 | [], N + 1, k, i, s, h1, h2, h3, _ => by
   have := zp h1; rw [z6]; rw [za0]; unfold z58; simp only [packL]; rw [zF (by omega)]; rfl
 | n :: l, N + 1, k, i, s, h1, h2, h3, h4 => by
   obtain ⟨g1, g2, g3⟩ := zk h1; subst h2; rw [z6]; rw [za0]; unfold z58; simp only [Int.toNat_natCast, g2, packL, zr0, z8]; have hp := zeo n; simp only [List.length_cons] at h3 h4; rw [zT (show (k : Int) < xs.length by omega), zT (show (0 : Int) <= k by omega)]; simp only [zC]; by_cases h5 : putV n = []
   · rw [zT h5, if_pos h5]; rfl
   · rw [zF h5, if_neg h5, zD, zT (by omega), zC]; exact zkr hs l N (k + 1) _ _ g3 (by rw [zf (by omega) (by omega)]; omega) (by simp; omega) (by omega)
theorem zgf {l : List Int} (hs : l.length < 4294967296) : z7e l = some (packT l) := by
 refine z0e (l.length + 1) fun N hN => ?_
 unfold zfq; rw [zr0, z8]; have := zeo l.length; exact zkr hs l N 0 0 _ rfl rfl (by omega) (by omega)
def takeN : Nat -> Bool -> Nat -> Nat -> Str -> Int × Str × Bool
 | 0, _, _, _, _ => (0, [], false)
 | _ + 1, _, _, _, [] => (0, [], false)
 | f + 1, first, n, u, c :: l => if c.toNat < 128 then (if 1099511627776 < n + c.toNat * u \/ (first = false /\ c.toNat = 0) then (0, [], false) else (((n + c.toNat * u : Nat) : Int), l, true)) else takeN f false (n + c.toNat % 128 * u) (u * 128) l
def z7q (s : Str) : Int × Str × Bool := takeN 6 true 0 1 s
theorem zod : ∀ (f : Nat) (b : Bool) (n u : Nat) (s : Str), (takeN f b n u s).2.1.length <= s.length /\ 0 <= (takeN f b n u s).1
 | 0, b, n, u, s => by simp [takeN]
 | f + 1, b, n, u, [] => by simp [takeN]
 | f + 1, b, n, u, c :: l => by
   unfold takeN; split
   · split
     · simp
     · simp; omega
   · have := zod f false (n + c.toNat % 128 * u) (u * 128) l; simp; omega
theorem zhu (s : Str) : (z7q s).2.1.length <= s.length := (zod 6 true 0 1 s).1
theorem z07w (s : Str) : 0 <= (z7q s).1 := (zod 6 true 0 1 s).2
def unpackL : Nat -> Str -> List Int -> List Int × Str × Int
 | 0, s, acc => (acc, s, 0)
 | k + 1, s, acc => if (z7q s).2.2 = false then ([], [], 20) else unpackL k (z7q s).2.1 (acc ++ [(z7q s).1])
def ze (s : Str) : List Int × Str × Int := if (z7q s).2.2 = false \/ ((z7q s).2.1.length : Int) < (z7q s).1 then ([], [], 20) else unpackL (z7q s).1.toNat (z7q s).2.1 []
theorem zhv {a b : List Int} (hs : a.length < 4294967296) (hab : a.length = b.length) : ∀ (l m : List Int) (N k : Nat) (i : Int), a.drop k = l -> b.drop k = m -> i = k -> l.length < N -> zd z7f N (a, b, i) = some (decide (l = m))
 | l, m, 0, _, _, _, _, _, h => by omega
 | [], m, N + 1, k, i, h1, h2, h3, h4 => by
   have h5 := zp h1; have h6 : m = [] := by rw [<- h2]; exact List.drop_eq_nil_of_le (by omega)
   rw [z6]; rw [z8c]; unfold z3w; simp only; rw [zF (by omega), zD, h6]; rfl
 | x :: l, m, N + 1, k, i, h1, h2, h3, h4 => by
   obtain ⟨g1, g2, g3⟩ := zk h1; subst h3; cases m with
   | nil => have := zp h2; omega
   | cons y m =>
     obtain ⟨e1, e2, e3⟩ := zk h2; rw [z6]; rw [z8c]; unfold z3w; simp only [Int.toNat_natCast, g2, e2]; rw [zT (show (k : Int) < a.length by omega), zT (show (0 : Int) <= k by omega), zT (show (k : Int) < b.length by omega)]; simp only [zC]; by_cases hxy : x = y
     · rw [zT hxy, Bool.not_true, zD]; have := zhv hs hab l m N (k + 1) (w64 (k + 1)) g3 e3 (by rw [zf (by omega) (by omega)]; omega) (by simp at h4; omega); rw [this]; simp [hxy]
     · rw [zF hxy, Bool.not_false, zC]; simp [hxy]
theorem zks {a b : List Int} (hs : a.length < 4294967296) : z8e (a, b) = some (decide (a = b)) := by
 refine z0e (a.length + 1) fun N hN => ?_
 show z8d N a b = _; unfold z8d; by_cases h : a.length = b.length
 · rw [zT (by omega), Bool.not_true, zD]; exact zhv hs h a b N 0 0 rfl rfl rfl (by omega)
 · rw [zF (by omega), Bool.not_false, zC, zF (fun e => h (by rw [e]))]
end Clk
namespace Clk
open Go
def inr (n : Int) : Bool := decide (0 <= n) && decide (n < 64)
def chkL : Option Int -> List Int -> Bool
 | _, [] => true
 | p, a :: l => inr a && (match p with | none => true | some q => decide (q < a)) && chkL (some a) l
def keysT (l : List Int) : Bool := chkL none l && decide (0 < l.length) && decide (l.length <= 8)
theorem zhw {xs : List Int} (hs : xs.length < 4294967296) : ∀ (l : List Int) (N k : Nat) (i : Int) (p : Option Int), xs.drop k = l -> i = k -> (k = 0 -> p = none) -> (∀ j, k = j + 1 -> p = some (xs.getD j 0)) -> l.length < N -> zd z75 N (xs, i) = some (chkL p l && decide (0 < xs.length) && decide (xs.length <= 8))
 | l, 0, _, _, _, _, _, _, _, h => by omega
 | [], N + 1, k, i, p, h1, h2, _, _, _ => by
   have := zp h1; rw [z6, z7y]; unfold z3o; simp only [chkL, Bool.true_and]; rw [zF (by omega), zD]; by_cases h : 0 < xs.length
   · rw [zT (show (0 : Int) < (xs.length : Int) by omega), zC, zT h, Bool.true_and]; congr 1; rw [Bool.eq_iff_iff]; simp; omega
   · rw [zF (show ¬ (0 : Int) < (xs.length : Int) by omega), zD, zF h]; rfl
 | a :: l, N + 1, k, i, p, h1, h2, h3, h4, h5 => by
   obtain ⟨g1, g2, g3⟩ := zk h1; subst h2; have ih := zhw hs l N (k + 1) (w64 (k + 1)) (some a) g3 (by rw [zf (by omega) (by omega)]; omega) (by omega) (fun j hj => by rw [show j = k by omega, g2]) (by simp at h5; omega); rw [z6, z7y]; unfold z3o; simp only [Int.toNat_natCast, g2, chkL, inr, ih]; rw [zT (show (k : Int) < xs.length by omega), zT (show (0 : Int) <= k by omega)]; simp only [zC]; by_cases c1 : a < 0
   · rw [zT c1, zF (show ¬ 0 <= a by omega)]; simp
   · rw [zF c1, zT (show 0 <= a by omega), zD]; by_cases c2 : 64 <= a
     · rw [zT c2, zF (show ¬ a < 64 by omega)]; simp
     · rw [zF c2, zT (show a < 64 by omega), zD]; cases k with
       | zero => rw [h3 rfl, zF (by omega), zD]; simp
       | succ j =>
         have e1 : w64 (((j + 1 : Nat) : Int) - 1) = (j : Int) := by rw [zf (by omega) (by omega)]; omega
         rw [h4 j rfl, zT (show (0 : Int) < ((j + 1 : Nat) : Int) by omega), e1, zT (show (0 : Int) <= j by omega), zT (show (j : Int) < xs.length by omega)]; simp only [zC, Int.toNat_natCast]; by_cases c3 : xs.getD j 0 < a
         · rw [zF (show ¬ a <= xs.getD j 0 by omega), zT c3, zD]; simp
         · rw [zT (show a <= xs.getD j 0 by omega), zF c3, zC]; simp
theorem zwj {l : List Int} (hs : l.length < 4294967296) : zco l = some (keysT l) := by
 refine z0e (l.length + 1) fun N hN => ?_
 exact zhw hs l N 0 0 none rfl rfl (fun _ => rfl) (by omega) (by omega)
def nd : List Int -> Bool
 | a :: b :: l => decide (a <= b) && nd (b :: l)
 | _ => true
def noEq : List Int -> Bool
 | a :: b :: l => decide (a ≠ b) && noEq (b :: l)
 | _ => true
theorem z00n : ∀ (l : List Int) (q : Int), chkL (some q) l = (l.all inr && nd (q :: l) && noEq (q :: l))
 | [], q => rfl
 | a :: l, q => by
   simp only [chkL, z00n l a, List.all_cons, nd, noEq]; by_cases h1 : q < a
   · rw [zT h1, zT (show q <= a by omega), zT (show q ≠ a by omega)]; cases inr a <;> simp
   · by_cases h2 : q = a
     · subst h2; simp
     · rw [zF h1, zF (show ¬ q <= a by omega)]; simp
theorem z07x (l : List Int) : chkL none l = (l.all inr && nd l && noEq l) := by
 cases l with
 | nil => rfl
 | cons a l => simp only [chkL, z00n, List.all_cons]; cases inr a <;> simp
theorem z091 : ∀ (l : List Int), nd l = true ↔ ∀ j, j + 1 < l.length -> l.getD j 0 <= l.getD (j + 1) 0
 | [] => by simp [nd]
 | [a] => by simp [nd]
 | a :: b :: l => by
   simp only [nd, Bool.and_eq_true, decide_eq_true_eq, z091 (b :: l)]; constructor
   · rintro ⟨h1, h2⟩ j hj
     cases j with
     | zero => exact h1
     | succ j => exact h2 j (by simpa using hj)
   · intro h; exact ⟨h 0 (by simp), fun j hj => h (j + 1) (by simpa using hj)⟩
theorem z02u (a b : Int) : zis (a, b) = some (decide (a < b)) := by
 show zef a b = _; unfold zef zar zfn; simp
theorem zwk {xs : List Int} (hs : xs.length < 4294967296) : ∀ (k N : Nat) (i : Int), i = k -> (k = 0 \/ k < xs.length) -> k < N -> ∃ b : Bool, zd z2n N (xs, i) = some b /\ (b = true ↔ ∀ j, j < k -> xs.getD j 0 <= xs.getD (j + 1) 0)
 | k, 0, _, _, _, h => by omega
 | 0, N + 1, i, h1, _, _ => by
   rw [z6, z3v]; unfold z0y; simp only; rw [zF (by omega), zD]; exact ⟨true, rfl, by simp⟩
 | k + 1, N + 1, i, h1, h2, h3 => by
   subst h1; have e1 : w64 (((k + 1 : Nat) : Int) - 1) = (k : Int) := by rw [zf (by omega) (by omega)]; omega
   obtain ⟨b, g1, g2⟩ := zwk hs k N (k : Int) rfl (by omega) (by omega); rw [z6, z3v]; unfold z0y; simp only [e1, Int.toNat_natCast, z02u, z8, g1]; rw [zT (show (0 : Int) < ((k + 1 : Nat) : Int) by omega), zT (show (0 : Int) <= ((k + 1 : Nat) : Int) by omega), zT (show ((k + 1 : Nat) : Int) < xs.length by omega), zT (show (0 : Int) <= k by omega), zT (show (k : Int) < xs.length by omega)]; simp only [zC]; by_cases hc : xs.getD (k + 1) 0 < xs.getD k 0
   · rw [zT hc, zC]; refine ⟨false, rfl, ?_⟩; simp only [Bool.false_eq_true, false_iff]; intro h; have := h k (by omega); omega
   · rw [zF hc, zD]; refine ⟨b, rfl, g2.trans ⟨fun h j hj => ?_, fun h j hj => h j (by omega)⟩⟩; by_cases hjk : j = k
     · subst hjk; omega
     · exact h j (by omega)
theorem z02v {l : List Int} (hs : l.length < 4294967296) : z4k l = some (nd l) := by
 refine z0e (l.length + 1) fun N hN => ?_
 unfold z4j; by_cases h0 : l.length = 0
 · have : l = [] := List.eq_nil_of_length_eq_zero h0; subst this; obtain ⟨M, rfl⟩ : ∃ M, N = M + 1 := ⟨N - 1, by omega⟩; rfl
 · obtain ⟨b, g1, g2⟩ := zwk hs (l.length - 1) N (w64 ((l.length : Int) - 1)) (by rw [zf (by omega) (by omega)]; omega) (by omega) (by omega); rw [g1]; congr 1
   rw [Bool.eq_iff_iff, g2, z091]; exact ⟨fun h j hj => h j (by omega), fun h j hj => h j (by omega)⟩
theorem z05o {a0 xs : List Int} (hs : xs.length < 4294967296) : ∀ (l : List Int) (N k : Nat) (i : Int) (ys : List Int), xs.drop k = l -> i = k -> l.length < N -> zd (zas a0) N (xs, (xs.length : Int), i, ys) = some (l.all inr)
 | l, 0, _, _, _, _, _, h => by omega
 | [], N + 1, k, i, ys, h1, h2, _ => by
   have := zp h1; rw [z6, zbu]; unfold z67; simp only [List.all_nil]; rw [zF (by omega), zD]; rfl
 | a :: l, N + 1, k, i, ys, h1, h2, h3 => by
   obtain ⟨g1, g2, g3⟩ := zk h1; subst h2; have ih := z05o (a0 := a0) hs l N (k + 1) (w64 (k + 1)) ys g3 (by rw [zf (by omega) (by omega)]; omega) (by simp at h3; omega); rw [z6, zbu]; unfold z67; simp only [Int.toNat_natCast, g2, ih, List.all_cons, inr]; rw [zT (show (k : Int) < xs.length by omega), zT (show (0 : Int) <= k by omega)]; simp only [zC, Bool.not_true, zD]; by_cases c1 : a < 0
   · rw [zT c1, zF (show ¬ 0 <= a by omega)]; simp
   · rw [zF c1, zT (show 0 <= a by omega), zD]; by_cases c2 : 64 <= a
     · rw [zT c2, zF (show ¬ a < 64 by omega)]; simp
     · rw [zF c2, zT (show a < 64 by omega), zD]; simp
theorem z05p {a0 v0 xs : List Int} (hv : v0.length = a0.length) (hs : xs.length < 4294967296) : ∀ (l : List Int) (N k : Nat) (i : Int) (ys : List Int), xs.drop k = l -> i = k -> l.length < N -> zd (zav a0 v0) N (xs, (xs.length : Int), i, ys) = some (l.all inr)
 | l, 0, _, _, _, _, _, h => by omega
 | [], N + 1, k, i, ys, h1, h2, _ => by
   have := zp h1; rw [z6, zbx]; unfold z6a; simp only [List.all_nil]; rw [zF (by omega), zD, zT (by omega)]
 | a :: l, N + 1, k, i, ys, h1, h2, h3 => by
   obtain ⟨g1, g2, g3⟩ := zk h1; subst h2; have ih := z05p hv hs l N (k + 1) (w64 (k + 1)) ys g3 (by rw [zf (by omega) (by omega)]; omega) (by simp at h3; omega); rw [z6, zbx]; unfold z6a; simp only [Int.toNat_natCast, g2, ih, List.all_cons, inr]; rw [zT (show (k : Int) < xs.length by omega), zT (show (0 : Int) <= k by omega)]; simp only [zC, Bool.not_true, zD]; by_cases c1 : a < 0
   · rw [zT c1, zF (show ¬ 0 <= a by omega)]; simp
   · rw [zF c1, zT (show 0 <= a by omega), zD]; by_cases c2 : 64 <= a
     · rw [zT c2, zF (show ¬ a < 64 by omega)]; simp
     · rw [zF c2, zT (show a < 64 by omega), zD]; simp
theorem z05q {a0 xs : List Int} {v0 : Int} (hv : ((v0.toNat : Nat) : Int) ≠ a0.length) (hs : xs.length < 4294967296) : ∀ (l : List Int) (N k : Nat) (i : Int) (ys : List Int), xs.drop k = l -> i = k -> l.length < N -> zd (zat a0 v0) N (xs, (xs.length : Int), i, ys) = some false
 | l, 0, _, _, _, _, _, h => by omega
 | [], N + 1, k, i, ys, h1, h2, _ => by
   have := zp h1; rw [z6, zbv]; unfold z68; simp only; rw [zF (by omega), zD, zF hv]
 | a :: l, N + 1, k, i, ys, h1, h2, h3 => by
   obtain ⟨g1, g2, g3⟩ := zk h1; subst h2; have ih := z05q hv hs l N (k + 1) (w64 (k + 1)) ys g3 (by rw [zf (by omega) (by omega)]; omega) (by simp at h3; omega); rw [z6, zbv]; unfold z68; simp only [Int.toNat_natCast, g2, ih]; rw [zT (show (k : Int) < xs.length by omega), zT (show (0 : Int) <= k by omega)]; simp only [zC, Bool.not_true, zD]; cases decide (a < 0) <;> cases decide (64 <= a) <;> rfl
theorem z05r {xs : List Int} (hs : xs.length < 4294967296) : ∀ (l : List Int) (N k : Nat) (i : Int), xs.drop k = l -> i = k -> l.length < N -> zd zax N (xs, (xs.length : Int), i) = some false
 | l, 0, _, _, _, _, h => by omega
 | [], N + 1, k, i, h1, h2, _ => by
   have := zp h1; rw [z6, zbz]; unfold z6c; simp only; rw [zF (by omega), zD]
 | a :: l, N + 1, k, i, h1, h2, h3 => by
   obtain ⟨g1, g2, g3⟩ := zk h1; subst h2; have ih := z05r hs l N (k + 1) (w64 (k + 1)) g3 (by rw [zf (by omega) (by omega)]; omega) (by simp at h3; omega); rw [z6, zbz]; unfold z6c; simp only [Int.toNat_natCast, g2, ih]; rw [zT (show (k : Int) < xs.length by omega), zT (show (0 : Int) <= k by omega)]; simp only [zC, Bool.not_true, zD]; cases decide (a < 0) <;> cases decide (64 <= a) <;> rfl
theorem zz9 {a0 : List Int} (hs : a0.length < 4294967296) {M : Nat} (hM : a0.length < M) {b : Nat} (hb : b < a0.length) : ∀ (m N i k : Nat) (ys : List Int), k + m = a0.length - b -> 1 <= k -> i + 1 <= b + k -> ys.length = a0.length -> m < N -> zd (zau M a0) N ((i : Int), (b : Int), ((a0.length - b : Nat) : Int), (k : Int), ys) = some false
 | m, 0, _, _, _, _, _, _, _, h => by omega
 | 0, N + 1, i, k, ys, h1, h2, h3, h4, _ => by
   rw [z6, zbw]; unfold z69; simp only [Int.toNat_natCast]; rw [zF (show ¬ (k : Int) < ((a0.length - b : Nat) : Int) by omega), zD]; rw [zT (show (0 : Int) <= i by omega), zT (show (i : Int) <= ys.length by omega), zT (show 0 < ys.length by omega)]; simp only [zC]; rw [zT (by simp; omega), zC]; by_cases c1 : 0 < a0.length
   · rw [zT (show (0 : Int) < (a0.length : Int) by omega), zC]; cases decide ((a0.length : Int) <= 8) with
     | false => rfl
     | true => rw [zC]; exact z05q (by simp; omega) hs a0 M 0 0 _ rfl rfl hM
   · omega
 | m + 1, N + 1, i, k, ys, h1, h2, h3, h4, h5 => by
   have e1 : w64 ((k : Int) - 1) = ((k - 1 : Nat) : Int) := by rw [zf (by omega) (by omega)]; omega
   have e2 : w64 ((k : Int) + 1) = ((k + 1 : Nat) : Int) := by rw [zf (by omega) (by omega)]; rfl
   have e3 : w64 ((i : Int) + 1) = ((i + 1 : Nat) : Int) := by rw [zf (by omega) (by omega)]; rfl
   rw [z6, zbw]; unfold z69; simp only [Int.toNat_natCast, e1, e2, e3]; rw [zT (show (k : Int) < ((a0.length - b : Nat) : Int) by omega), zT (show (0 : Int) <= k by omega), zT (show b + k < ys.length by omega), zT (show (0 : Int) <= ((k - 1 : Nat) : Int) by omega), zT (show ((k - 1 : Nat) : Int) < ((a0.length - b : Nat) : Int) by omega), zT (show b + (k - 1) < ys.length by omega), zT (show (0 : Int) <= i by omega), zT (show (i : Int) < ys.length by omega), zT (show i < ys.length by omega)]; simp only [zC]; rw [zz9 hs hM hb m N (i + 1) (k + 1) _ (by omega) (by omega) (by omega) (by simpa using h4) (by omega), zz9 hs hM hb m N i (k + 1) _ (by omega) (by omega) (by omega) h4 (by omega)]; cases (!decide (ys.getD (b + k) 0 = ys.getD (b + (k - 1)) 0)) <;> rfl
theorem z05s {a0 : List Int} (hs : a0.length < 4294967296) {M : Nat} (hM : a0.length < M) : ∀ (l : List Int) (N k : Nat) (i : Int), a0.drop k = l -> i = ((k + 1 : Nat) : Int) -> k < a0.length -> l.length < N -> zd (zaw M a0) N (i, a0) = some (noEq l && decide (0 < a0.length) && decide (a0.length <= 8) && a0.all inr)
 | l, 0, _, _, _, _, _, h => by omega
 | [], N + 1, k, i, h1, h2, h3, _ => by have := zp h1; omega
 | [a], N + 1, k, i, h1, h2, h3, _ => by
   obtain ⟨g1, g2, g3⟩ := zk h1; have := zp g3; rw [z6, zby]; unfold z6b; simp only [noEq, Bool.true_and]; rw [zF (show ¬ i < (a0.length : Int) by omega), zD]; rw [zT (show (0 : Int) < (a0.length : Int) by omega), zC, zT (show 0 < a0.length by omega), Bool.true_and]; by_cases c : a0.length <= 8
   · rw [zT (show (a0.length : Int) <= 8 by omega), zC, zT c, Bool.true_and]; exact z05p rfl hs a0 M 0 0 _ rfl rfl hM
   · rw [zF (show ¬ (a0.length : Int) <= 8 by omega), zD, zF c]; rfl
 | a :: b :: l, N + 1, k, i, h1, h2, h3, h4 => by
   obtain ⟨g1, g2, g3⟩ := zk h1; obtain ⟨g4, g5, g6⟩ := zk g3; subst h2; have e1 : w64 (((k + 1 : Nat) : Int) - 1) = (k : Int) := by rw [zf (by omega) (by omega)]; omega
   have ih := z05s hs hM (b :: l) N (k + 1) (w64 (((k + 1 : Nat) : Int) + 1)) g3 (by rw [zf (by omega) (by omega)]; omega) g4 (by simp at h4 ⊢; omega); rw [z6, zby]; unfold z6b; simp only [Int.toNat_natCast, e1, g2, g5, ih]; rw [zT (show ((k + 1 : Nat) : Int) < a0.length by omega), zT (show (0 : Int) <= ((k + 1 : Nat) : Int) by omega), zT (show k + 1 < a0.length by omega), zT (show (0 : Int) <= (k : Int) by omega), zT (show (k : Int) < a0.length by omega), zT (show k < a0.length by omega), zT (show ((k + 1 : Nat) : Int) <= a0.length by omega)]; simp only [zC, noEq]; by_cases c : a = b
   · subst c; rw [zT rfl, zC]; rw [show (1 : Int) = ((1 : Nat) : Int) from rfl, zz9 hs hM g4 (a0.length - (k + 1) - 1) M (k + 1) 1 _ (by omega) (by omega) (by omega) rfl (by omega)]; simp
   · rw [zF (fun e => c e.symm), zD, zT c]; simp
theorem z02w {l : List Int} (hs : l.length < 4294967296) : ziu l = some (keysT l) := by
 refine z0e (l.length + 1) fun N hN => ?_
 unfold zit keysT; rw [z02v hs, z8, z07x]; cases hnd : nd l with
 | false =>
   rw [zD]; have : (l.all inr && false && noEq l && decide (0 < l.length) && decide (l.length <= 8)) = false := by simp
   rw [this, z05r hs l N 0 0 rfl rfl (by omega)]; cases decide (0 < (l.length : Int)) <;> cases decide ((l.length : Int) <= 8) <;> rfl
 | true =>
   rw [zC, zT (show l.length * 8 <= 70368744177664 by omega), zC, zT (show l.length <= 70368744177664 by omega), zC]; by_cases h2 : l.length < 2
   · rw [zT (show (l.length : Int) < 2 by omega), zC, z05o hs l N 0 0 l rfl rfl (by omega)]; have hq : noEq l = true := by
      cases l with
      | nil => rfl
      | cons a l => cases l with
        | nil => rfl
        | cons => simp only [List.length_cons] at h2; omega
     rw [hq, Bool.and_true, Bool.and_true]; by_cases c1 : 0 < l.length
     · rw [zT (show (0 : Int) < (l.length : Int) by omega), zC, zT c1, zT (show (l.length : Int) <= 8 by omega), zC, zT (show l.length <= 8 by omega)]; simp
     · rw [zF (show ¬ (0 : Int) < (l.length : Int) by omega), zD, zF c1]; simp
   · rw [zF (show ¬ (l.length : Int) < 2 by omega), zD]; have hl0 : 0 < l.length := by omega
     rw [z05s hs (M := N) (by omega) l N 0 1 rfl rfl hl0 (by omega)]; congr 1
     cases l.all inr <;> cases noEq l <;> cases decide (0 < l.length) <;> cases decide (l.length <= 8) <;> rfl
end Clk
namespace Clk
open Go
def vr (n : Int) : Bool := decide (-1 <= n) && decide (n < 512)
def z2u (r : Record) : Bool :=
 decide (0 <= r.seq) && decide (r.seq <= 1099511627776) && keysT r.keys && (if r.kind = 1 then decide (r.values = []) else r.values.all vr && decide (r.kind = 2) && decide (r.values.length = r.keys.length))
def RecOk (r : Record) : Prop := r.keys.length < 4294967296 /\ r.values.length < 4294967296
theorem zf8 {r : Record} (hr : RecOk r) : ∀ (l : List Int) (N k : Nat) (i : Int), r.values.drop k = l -> i = k -> l.length < N -> zd z5r N (i, r) = some (l.all vr && decide (r.kind = 2) && decide (r.values.length = r.keys.length))
 | l, 0, _, _, _, _, h => by omega
 | [], N + 1, k, i, h1, h2, _ => by
   have := zp h1; rw [z6, z78]; unfold z2x; simp only [List.all_nil, Bool.true_and]; rw [zF (by omega), zD]; by_cases c : r.kind = 2
   · rw [zT c, zC, Bool.true_and]; congr 1; rw [Bool.eq_iff_iff]; simp only [decide_eq_true_eq]; omega
   · rw [zF c, zD]; rfl
 | a :: l, N + 1, k, i, h1, h2, h3 => by
   obtain ⟨g1, g2, g3⟩ := zk h1; have hv := hr.2; subst h2; have ih := zf8 hr l N (k + 1) (w64 (k + 1)) g3 (by rw [zf (by omega) (by omega)]; omega) (by simp at h3; omega); rw [z6, z78]; unfold z2x; simp only [Int.toNat_natCast, g2, ih, List.all_cons, vr]; rw [zT (show (k : Int) < r.values.length by omega), zT (show (0 : Int) <= k by omega)]; simp only [zC]; by_cases c1 : a < -1
   · rw [zT c1, zF (show ¬ -1 <= a by omega)]; simp
   · rw [zF c1, zT (show -1 <= a by omega), zD]; by_cases c2 : 512 <= a
     · rw [zT c2, zF (show ¬ a < 512 by omega)]; simp
     · rw [zF c2, zT (show a < 512 by omega), zD]; simp
theorem zti {r : Record} (hr : RecOk r) : zaj r = some (z2u r) := by
 refine z0e (r.values.length + 1) fun N hN => ?_
 unfold zai z2u; by_cases h1 : r.seq < 0
 · rw [zT h1, zC, zF (show ¬ 0 <= r.seq by omega)]; rfl
 · by_cases h2 : 1099511627776 < r.seq
   · rw [zF h1, zD, zT h2, zC, zF (show ¬ r.seq <= 1099511627776 by omega)]; simp
   · rw [zF h1, zD, zF h2, zD, zT (show 0 <= r.seq by omega), zT (show r.seq <= 1099511627776 by omega), zwj hr.1, z8]; cases keysT r.keys with
     | false => rfl
     | true =>
       simp only [Bool.not_true, zD, Bool.true_and]; by_cases h3 : r.kind = 1
       · rw [zT h3, zC, if_pos h3]; congr 1; rw [Bool.eq_iff_iff]; simp
       · rw [zF h3, zD, if_neg h3]; exact zf8 hr r.values N 0 0 rfl rfl (by omega)
theorem zkt {r : Record} (hr : RecOk r) : ∀ (l : List Int) (N k : Nat) (i : Int), r.values.drop k = l -> i = k -> l.length < N -> zd z93 N (r.values, (r.values.length : Int), i, r) = some (l.all vr && (if r.kind = 1 then decide (r.values = []) else decide (r.kind = 2) && decide (r.values.length = r.keys.length)))
 | l, 0, _, _, _, _, h => by omega
 | [], N + 1, k, i, h1, h2, _ => by
   have := zp h1; rw [z6, z9y]; unfold z56; simp only [List.all_nil, Bool.true_and]; rw [zF (by omega), zD]; by_cases c1 : r.kind = 1
   · rw [zT c1, zC, if_pos c1]; congr 1; rw [Bool.eq_iff_iff]; simp
   · rw [zF c1, zD, if_neg c1]; by_cases c : r.kind = 2
     · rw [zT c, zC, Bool.true_and]; congr 1; rw [Bool.eq_iff_iff]; simp only [decide_eq_true_eq]; omega
     · rw [zF c, zD]; rfl
 | a :: l, N + 1, k, i, h1, h2, h3 => by
   obtain ⟨g1, g2, g3⟩ := zk h1; have hv := hr.2; subst h2; have ih := zkt hr l N (k + 1) (w64 (k + 1)) g3 (by rw [zf (by omega) (by omega)]; omega) (by simp at h3; omega); rw [z6, z9y]; unfold z56; simp only [Int.toNat_natCast, g2, ih, List.all_cons, vr]; rw [zT (show (k : Int) < r.values.length by omega), zT (show (0 : Int) <= k by omega)]; simp only [zC]; by_cases c1 : a < -1
   · rw [zT c1, zF (show ¬ -1 <= a by omega)]; simp
   · rw [zF c1, zT (show -1 <= a by omega), zD]; by_cases c2 : 512 <= a
     · rw [zT c2, zF (show ¬ a < 512 by omega)]; simp
     · rw [zF c2, zT (show a < 512 by omega), zD]; simp
theorem zza {r : Record} (hr : RecOk r) : zfp r = some (z2u r) := by
 refine z0e (r.values.length + 1) fun N hN => ?_
 unfold zfo z2u; by_cases h1 : r.seq < 0
 · rw [zT h1, zC, zF (show ¬ 0 <= r.seq by omega)]; rfl
 · by_cases h2 : 1099511627776 < r.seq
   · rw [zF h1, zD, zT h2, zC, zF (show ¬ r.seq <= 1099511627776 by omega)]; simp
   · rw [zF h1, zD, zF h2, zD, zT (show 0 <= r.seq by omega), zT (show r.seq <= 1099511627776 by omega), z02w hr.1, z8]; cases keysT r.keys with
     | false => rfl
     | true =>
       simp only [Bool.not_true, zD, Bool.true_and]; rw [zkt hr r.values N 0 0 rfl rfl (by omega)]; by_cases h3 : r.kind = 1
       · rw [if_pos h3, if_pos h3]; congr 1
         cases hv : r.values with
         | nil => rfl
         | cons a l => simp
       · rw [if_neg h3, if_neg h3, Bool.and_assoc]
def zgg (d : Int) (l : List Int) : List Int := l.map fun n => w64 (n + d)
def bodyT (r : Record) : Str := (packT [r.kind, r.seq]).1 ++ (packT r.keys).1 ++ (packT (zgg 1 r.values)).1
def encT (r : Record) (data : Str) : Str × Int := if z2u r = false \/ 16 < data.length then ([], 1) else (bodyT r ++ bytes4 (crcT (bodyT r ++ data)), 0)
theorem zwl : ∀ (l : List Int) (s : Str), (packL l s).1.length <= s.length + 6 * l.length
 | [], s => by simp [packL]
 | n :: l, s => by
   unfold packL; split
   · simp
   · have h1 := zwl l (s ++ putV n); have h2 := zeo n; simp at h1 ⊢; omega
theorem z4a (l : List Int) : (packT l).1.length <= 6 * l.length + 6 := by
 have h1 := zwl l (putV l.length); have h2 := zeo l.length; unfold packT; omega
theorem z05t {l : List Int} (h : keysT l = true) : 0 < l.length /\ l.length <= 8 := by
 unfold keysT at h; simp only [Bool.and_eq_true, decide_eq_true_eq] at h; exact ⟨h.1.2, h.2⟩
theorem zep {r : Record} (h : z2u r = true) : 0 < r.keys.length /\ r.keys.length <= 8 /\ r.values.length <= 8 /\ 0 <= r.seq /\ r.seq <= 1099511627776 /\ (r.kind = 1 \/ r.kind = 2) /\ (r.values.all vr = true) /\ keysT r.keys = true := by
 unfold z2u at h; simp only [Bool.and_eq_true, decide_eq_true_eq] at h; obtain ⟨⟨⟨h1, h2⟩, h3⟩, h4⟩ := h; obtain ⟨k1, k2⟩ := z05t h3; split at h4
 · rename_i hk; have : r.values = [] := by simpa using h4
   rw [this]; exact ⟨k1, k2, by simp, h1, h2, .inl hk, rfl, h3⟩
 · simp only [Bool.and_eq_true, decide_eq_true_eq] at h4; exact ⟨k1, k2, by omega, h1, h2, .inr h4.1.2, h4.1.1, h3⟩
theorem zhx {r : Record} (h8 : r.values.length <= 8) (hk : r.keys.length <= 8) : ∀ (l : List Int) (N k : Nat) (i : Int) (acc : List Int), r.values.drop k = l -> i = k -> acc.length = k -> k <= 8 -> l.length < N -> zd z7a N (i, r, [r.kind, r.seq], acc) = some ((packT [r.kind, r.seq]).1 ++ (packT r.keys).1 ++ (packT (acc ++ zgg 1 l)).1)
 | l, 0, _, _, _, _, _, _, _, h => by omega
 | [], N + 1, k, i, acc, h1, h2, h3, h6, _ => by
   have := zp h1; rw [z6, z80]; unfold z3q; simp only [zgg, List.map_nil, List.append_nil]; rw [zF (by omega), zD, ze2 (by simp), z8, ze2 (by omega), z8, ze2 (by omega), z8]; have q1 := z4a [r.kind, r.seq]; have q2 := z4a r.keys; have q3 := z4a acc; simp only [List.length_cons, List.length_nil] at q1; rw [zT (by omega), zC, zT (by rw [List.length_append]; omega), zC]
 | a :: l, N + 1, k, i, acc, h1, h2, h3, h6, h5 => by
   obtain ⟨g1, g2, g3⟩ := zk h1; subst h2; have ih := zhx h8 hk l N (k + 1) (w64 (k + 1)) (acc ++ [w64 (a + 1)]) g3 (by rw [zf (by omega) (by omega)]; omega) (by simp; omega) (by omega) (by simp at h5; omega); rw [z6, z80]; unfold z3q; simp only [Int.toNat_natCast, g2, ih]; rw [zT (show (k : Int) < r.values.length by omega), zT (show (0 : Int) <= k by omega)]; simp only [zC]; rw [zT (by simp; omega), zC, zT (by simp; omega), zC]; simp [zgg]
theorem zwm {r : Record} (h : z2u r = true) : zcq r = some (bodyT r) := by
 obtain ⟨_, h1, h2, _⟩ := zep h; refine z0e 9 fun N hN => ?_
 have := zhx h2 h1 r.values N 0 0 [] rfl rfl rfl (by omega) (by omega); rw [List.nil_append] at this; exact this
theorem zoe {r : Record} (h : z2u r = true) : (bodyT r).length <= 200 := by
 obtain ⟨_, h1, h2, _⟩ := zep h; have q1 := z4a [r.kind, r.seq]; have q2 := z4a r.keys; have q3 := z4a (zgg 1 r.values); have q4 : (zgg 1 r.values).length = r.values.length := by simp [zgg]
 simp only [List.length_cons, List.length_nil] at q1; unfold bodyT; simp only [List.length_append]; omega
theorem zq4 {r : Record} {data : Str} (hr : RecOk r) (hd : data.length < 4294967296) : z4z (r, data) = some (encT r data) := by
 show z4y r data = _; unfold z4y encT; rw [zti hr, z8]; cases h : z2u r with
 | false => rfl
 | true =>
   rw [Bool.not_true, zD]; by_cases h2 : 16 < data.length
   · rw [zT (show (16 : Int) < data.length by omega), zC, if_pos (.inr h2)]
   · have hb := zoe h; rw [zF (show ¬ (16 : Int) < data.length by omega), zD, if_neg (by simp; omega), zwm h, z8, zT (by omega), zC, zz6 (by simp; omega), z8, zth (z05m _), z8, zT (by simp [bytes4]; omega), zC]
theorem zll : ∀ (l : List Int) (s : Str), (∀ n ∈ l, 0 <= n /\ n <= 1099511627776) -> (packL l s).2 = 0
 | [], s, _ => rfl
 | n :: l, s, h => by
   have h1 := h n List.mem_cons_self; unfold packL; have : putV n ≠ [] := by
    unfold putV; rw [if_neg (by omega)]; exact zz8 5 _
   rw [if_neg this]; exact zll l _ fun m hm => h m (List.mem_cons_of_mem _ hm)
theorem ztj {l : List Int} (h : l.all vr = true) : ∀ n ∈ l, -1 <= n /\ n < 512 := by
 intro n hn; have := List.all_eq_true.1 h n hn; unfold vr at this; simpa using this
theorem zr1 : ∀ {l : List Int} {p : Option Int}, chkL p l = true -> ∀ n ∈ l, 0 <= n /\ n < 64
 | [], _, _, n, hn => by cases hn
 | a :: l, p, h, n, hn => by
   simp only [chkL, Bool.and_eq_true] at h; rcases List.mem_cons.1 hn with rfl | hn
   · have := h.1.1; unfold inr at this; simpa using this
   · exact zr1 h.2 n hn
theorem zof {l : List Int} (h : keysT l = true) : ∀ n ∈ l, 0 <= n /\ n < 64 := by
 unfold keysT at h; simp only [Bool.and_eq_true] at h; exact zr1 h.1.1
theorem zku {d : Int} {n : Nat} (hs : n < 4294967296) : ∀ (l : List Int) (N k : Nat) (i : Int) (pre : List Int), pre.length = k -> k + l.length = n -> i = k -> l.length < N -> zd z94 N (d, (n : Int), i, pre ++ l) = some (pre ++ zgg d l)
 | l, 0, _, _, _, _, _, _, h => by omega
 | [], N + 1, k, i, pre, h1, h2, h3, _ => by
   rw [z6, z9z]; unfold z57; simp only [List.length_nil] at h2; simp only [zgg, List.map_nil]; rw [zF (by omega), zD]
 | a :: l, N + 1, k, i, pre, h1, h2, h3, h4 => by
   subst h3; simp only [List.length_cons] at h2 h4; have g2 : ∀ d, (pre ++ a :: l).getD k d = a := fun d => by subst h1; simp [zI]
   have g3 : ∀ x, (pre ++ a :: l).set k x = (pre ++ [x]) ++ l := fun x => by subst h1; simp
   have ih := zku (d := d) hs l N (k + 1) (w64 (k + 1)) (pre ++ [w64 (a + d)]) (by simp; omega) (by omega) (by rw [zf (by omega) (by omega)]; omega) (by omega); rw [z6, z9z]; unfold z57; simp only [Int.toNat_natCast, g2, g3, ih]; have hl : (pre ++ a :: l).length = n := by simp; omega
   rw [hl, zT (show (k : Int) < n by omega), zT (show (0 : Int) <= k by omega), zT (show k < n by omega)]; simp [zgg]
theorem zog {l : List Int} {d : Int} (hs : l.length < 4294967296) : z36 (l, d) = some (zgg d l) := by
 refine z0e (l.length + 1) fun N hN => ?_
 show zay N l d = _; unfold zay; rw [zT (by omega), zC, zT (by omega), zC]; exact zku hs l N 0 0 [] rfl (by simp) rfl (by omega)
theorem zwn {r : Record} {data : Str} (hr : RecOk r) (hd : data.length < 4294967296) : zcy (r, data) = some (encT r data) := by
 show z8b r data = _; unfold z8b encT; rw [zza hr, z8]; cases h : z2u r with
 | false => rfl
 | true =>
   rw [Bool.not_true, zD]; by_cases h2 : 16 < data.length
   · rw [zT (show (16 : Int) < data.length by omega), zC, if_pos (.inr h2)]
   · have hb := zoe h; obtain ⟨_, k1, k2, k3, k4, k5, k6, k7⟩ := zep h; have q1 := z4a [r.kind, r.seq]; have q2 := z4a r.keys; have q3 := z4a (zgg 1 r.values); have q4 : (zgg 1 r.values).length = r.values.length := by simp [zgg]
     have e1 : (packT [r.kind, r.seq]).2 = 0 := zll _ _ (by intro n hn; simp at hn; rcases hn with rfl | rfl <;> omega); have e2 : (packT r.keys).2 = 0 := zll _ _ (by intro n hn; have := zof k7 n hn; omega); have e3 : (packT (zgg 1 r.values)).2 = 0 := zll _ _ (by
      intro n hn; unfold zgg at hn; obtain ⟨m, hm, rfl⟩ := List.mem_map.1 hn; have := ztj k6 m hm; rw [zf (by omega) (by omega)]; omega)
     have hb' := hb; unfold bodyT at hb'; simp only [List.length_cons, List.length_nil] at q1; rw [zF (show ¬ (16 : Int) < data.length by omega), zD, if_neg (by simp; omega), zog (by omega), z8, zgf (by simp), z8, e1, zT rfl, Bool.not_true, zD, zT (by omega), zC, zgf (by omega), z8, e2, zT rfl, Bool.not_true, zD, zT (by omega), zC, zgf (by omega), z8, e3, zT rfl, Bool.not_true, zD, zT (by rw [List.length_append]; omega), zC, zT (by omega), zC]; rw [z05n (by rw [List.length_append]; omega), z8, zz7 (z05m _), z8, zT (by simp only [bytes4, List.length_cons, List.length_nil]; omega), zC]; rfl
def zRec : Record := ⟨0, 0, [], []⟩
def mvT (l : List Int) : List Int := l.map fun n => w64 (n - 1)
def decT (tag data : Str) : Record × Int :=
 if (ze tag).2.2 ≠ 0 \/ (ze (ze tag).2.1).2.2 ≠ 0 \/ (ze (ze (ze tag).2.1).2.1).2.2 ≠ 0 \/ (ze tag).1.length ≠ 2 then (zRec, 30)
 else
  if (encT ⟨(ze tag).1.getD 0 0, (ze tag).1.getD 1 0, (ze (ze tag).2.1).1, mvT (ze (ze (ze tag).2.1).2.1).1⟩ data).2 ≠ 0 \/
   (encT ⟨(ze tag).1.getD 0 0, (ze tag).1.getD 1 0, (ze (ze tag).2.1).1, mvT (ze (ze (ze tag).2.1).2.1).1⟩ data).1 ≠ tag then (zRec, 30)
  else (⟨(ze tag).1.getD 0 0, (ze tag).1.getD 1 0, (ze (ze tag).2.1).1, mvT (ze (ze (ze tag).2.1).2.1).1⟩, 0)
theorem zoh : ∀ (k : Nat) (s : Str) (acc : List Int), (unpackL k s acc).2.1.length <= s.length /\ (unpackL k s acc).1.length <= acc.length + k
 | 0, s, acc => by simp [unpackL]
 | k + 1, s, acc => by
   unfold unpackL; split
   · simp
   · have h1 := zoh k (z7q s).2.1 (acc ++ [(z7q s).1]); have h2 := zhu s; simp at h1 ⊢; omega
theorem z37 (s : Str) : (ze s).2.1.length <= s.length /\ (ze s).1.length <= s.length := by
 unfold ze; split
 · simp
 · rename_i h; have h1 := zoh (z7q s).1.toNat (z7q s).2.1 []; have h2 := zhu s; have h3 : ¬ ((z7q s).2.1.length : Int) < (z7q s).1 := fun e => h (.inr e)
   simp at h1; omega
def PageOk (p : Page) : Prop := p.tag.length < 4294967296 /\ p.data.length < 4294967296
def lookT (p : Page) : Int × Record := if p.written = false then (0, zRec) else if (decT p.tag p.data).2 ≠ 0 then (2, zRec) else (1, (decT p.tag p.data).1)
def makeT (w : Write) : Page × Int := if (encT w.record w.data).2 ≠ 0 then (⟨false, [], []⟩, (encT w.record w.data).2) else (⟨true, w.data, (encT w.record w.data).1⟩, 0)
def WriteOk (w : Write) : Prop := RecOk w.record /\ w.data.length < 4294967296
theorem zwo {w : Write} (h : WriteOk w) : zcv w = some (makeT w) := by
 show z83 w = _; unfold z83 makeT; rw [zq4 h.1 h.2, z8]; by_cases c : (encT w.record w.data).2 = 0
 · rw [zT c, Bool.not_true, zD, if_neg (by simp [c])]
 · rw [zF c, Bool.not_false, zC, if_pos c]
end Clk
namespace Clk
open Go
def z0f (c : Chip) : Prop := c.blocks.length < 4294967296 /\ ∀ b ∈ c.blocks, b.pages.length < 4294967296
theorem z07 {α : Type} {l : List α} {i : Nat} {d : α} (h : i < l.length) : l.getD i d ∈ l := by
 rw [zI, zH h]; exact List.getElem_mem h
theorem z0f.get {c : Chip} (h : z0f c) {i : Nat} (hi : i < c.blocks.length) (d : Block) : (c.blocks.getD i d).pages.length < 4294967296 := h.2 _ (z07 hi)
theorem zr2 (acc : List Block) (n e : Int) (b : Bool) (p q : List Page) : z0j (acc ++ [⟨q, n, e, b⟩]) acc.length p = acc ++ [⟨p, n, e, b⟩] := by
 unfold z0j; simp [zI]
theorem z05u {α : Type} {xs : List α} {k : Nat} {d : α} (h : k < xs.length) : xs.take k ++ [xs.getD k d] = xs.take (k + 1) := by
 rw [List.take_add_one, zH h, zI, zH h]; rfl
theorem ze3 {R : Type} {c : Chip} (h : z0f c) {k : Nat} {i : Int} (hi : i = k) (hk : k < c.blocks.length) {ih : Int -> List Block -> Option R} {e : Option R} :
 cond (decide (i < (c.blocks.length : Int)))
  (cond (decide (0 <= i)) (cond (decide (i < (c.blocks.length : Int))) (cond (decide ((0 + (c.blocks.getD i.toNat default).pages.length) * 40 <= 70368744177664)) (cond (decide (0 + (c.blocks.getD i.toNat default).pages.length <= 70368744177664)) (cond (decide (((c.blocks.take k).length + 1) * 48 <= 70368744177664)) (cond (decide ((c.blocks.take k).length + 1 <= 70368744177664))
    (ih (w64 (i + 1)) (z0j (c.blocks.take k ++ [(Block.mk [] (c.blocks.getD i.toNat default).next (c.blocks.getD i.toNat default).erases (c.blocks.getD i.toNat default).bad)]) (c.blocks.take k).length ([] ++ (c.blocks.getD i.toNat default).pages))) none) none) none) none) none) none) e = ih ((k + 1 : Nat) : Int) (c.blocks.take (k + 1)) := by
 subst hi; have h1 := h.1; have h2 := h.get hk default; simp only [Int.toNat_natCast, zr2, List.nil_append]; rw [zT (show (k : Int) < c.blocks.length by omega), zT (show (0 : Int) <= k by omega)]; simp only [zC]; rw [zT (by omega), zC, zT (by omega), zC, zT (by rw [List.length_take]; omega), zC, zT (by rw [List.length_take]; omega), zC, zf (by omega) (by omega), <- z05u (d := default) hk]; rfl
theorem zwp {c : Chip} (h : z0f c) : ∀ (m N k : Nat) (i : Int), k + m = c.blocks.length -> i = k -> m < N -> zd z2b N (i, c, c.blocks.take k) = some (⟨c.blocks, true, c.off, c.ops⟩, 1)
 | m, 0, _, _, _, _, h => by omega
 | 0, N + 1, k, i, h1, h2, _ => by
   rw [z6, z5v]; unfold z2a; simp only; rw [zF (by omega), zD, List.take_of_length_le (by omega)]
 | m + 1, N + 1, k, i, h1, h2, h3 => by
   rw [z6, z5v]; unfold z2a; rw [ze3 (ih := fun i l => zd z2b N (i, c, l)) h h2 (by omega)]; exact zwp h m N (k + 1) _ (by omega) rfl (by omega)
def brkT (c : Chip) : Chip × Int := (⟨c.blocks, true, c.off, c.ops⟩, 1)
theorem z00o {c : Chip} (h : z0f c) : zx c = some (brkT c) := by
 refine z0e (c.blocks.length + 1) fun N hN => ?_
 exact zwp h c.blocks.length N 0 0 (by omega) rfl (by omega)
def onT (c : Chip) : Chip := ⟨c.blocks, c.broken, false, c.ops⟩
def thereT (c : Chip) (b p : Int) : Bool := decide (0 <= b) && decide (b < c.blocks.length) && decide (0 <= p) && decide (p < (c.blocks.getD b.toNat default).pages.length)
theorem z0am (c : Chip) (b p : Int) : zao (c, b, p) = some (thereT c b p) := by
 show z63 c b p = _; unfold z63 thereT; cases decide (0 <= b) with
 | false => rfl
 | true => cases decide (b < (c.blocks.length : Int)) with
   | false => rfl
   | true => cases decide (0 <= p) <;> simp
def z5e (bl : Block) (p : Int) (page : Page) (f : Fate) : Block :=
 ⟨bl.pages.set p.toNat (if f.kind = 0 then ⟨true, page.data, page.tag⟩ else ⟨true, f.data, f.tag⟩), w64 (bl.next + 1), bl.erases, decide (f.kind = 1)⟩
def canProg (c : Chip) (b p : Int) (f : Fate) : Bool :=
 thereT c b p && !(c.blocks.getD b.toNat default).bad && decide ((c.blocks.getD b.toNat default).next = p) && decide (0 <= f.kind) && decide (f.kind <= 2)
def progT (c : Chip) (b p : Int) (page : Page) (f : Fate) : Chip × Int :=
 if c.off then (c, 52) else if canProg c b p f then
  (⟨c.blocks.set b.toNat (z5e (c.blocks.getD b.toNat default) p page f), c.broken, decide (f.kind = 2), w64 (c.ops + 1)⟩, if f.kind = 0 then 0 else if f.kind = 1 then 53 else 52)
 else brkT c
theorem z0v {α : Type} {l : List α} {i : Nat} {x d : α} (h : i < l.length) : (l.set i x).getD i d = x := by
 rw [zI, List.getElem?_set_self h]; rfl
theorem z4s {c : Chip} {b p : Int} {f : Fate} : canProg c b p f = true ↔ 0 <= b /\ b < c.blocks.length /\ 0 <= p /\ p < (c.blocks.getD b.toNat default).pages.length /\ (c.blocks.getD b.toNat default).bad = false /\ (c.blocks.getD b.toNat default).next = p /\ 0 <= f.kind /\ f.kind <= 2 := by
 unfold canProg thereT; simp only [Bool.and_eq_true, decide_eq_true_eq, Bool.not_eq_true']; constructor
 · rintro ⟨⟨⟨⟨⟨⟨⟨h1, h2⟩, h3⟩, h4⟩, h5⟩, h6⟩, h7⟩, h8⟩; exact ⟨h1, h2, h3, h4, h5, h6, h7, h8⟩
 · rintro ⟨h1, h2, h3, h4, h5, h6, h7, h8⟩; exact ⟨⟨⟨⟨⟨⟨⟨h1, h2⟩, h3⟩, h4⟩, h5⟩, h6⟩, h7⟩, h8⟩
theorem zzb {c : Chip} {b p : Int} {page : Page} {f : Fate} (hoff : c.off = false) (hc : canProg c b p f = true) {ih} {i : Int} (hi : i = c.blocks.length) : z0u b p ih i page f c c.blocks = some (progT c b p page f) := by
 have hc' := hc; obtain ⟨h1, h2, h3, h4, h5, h6, h7, h8⟩ := z4s.1 hc; have hb : b.toNat < c.blocks.length := by omega
 have hp : p.toNat < (c.blocks.getD b.toNat default).pages.length := by omega
 unfold z0u progT; rw [zF (by omega), zD, hoff, if_neg (by simp), if_pos hc']; have hk : f.kind = 0 \/ f.kind = 1 \/ f.kind = 2 := by omega
 generalize hbl : c.blocks.getD b.toNat default = bl at *; have e1 : ∀ v, zy c.blocks b.toNat v = c.blocks.set b.toNat ⟨bl.pages, v, bl.erases, bl.bad⟩ := fun v => by unfold zy; rw [hbl]
 have e2 : ∀ v y, z9u (c.blocks.set b.toNat y) b.toNat v = c.blocks.set b.toNat ⟨y.pages, y.next, y.erases, v⟩ := fun v y => by unfold z9u; rw [z0v hb, List.set_set]
 have e3 : ∀ v y, z0j (c.blocks.set b.toNat y) b.toNat v = c.blocks.set b.toNat ⟨v, y.next, y.erases, y.bad⟩ := fun v y => by unfold z0j; rw [z0v hb, List.set_set]
 simp only [e1, e2, e3, List.length_set, z0v hb, zT h1, zT h2, zT hb, zT h3, zT h4, zT hp, zC, decide_true]; rcases hk with hk | hk | hk <;> simp [hk, z5e, h5, hoff]
theorem zr3 {c : Chip} (h : z0f c) {b p : Int} {page : Page} {f : Fate} (hoff : c.off = false) (hc : canProg c b p f = true) : ∀ (m N k : Nat) (i : Int), k + m = c.blocks.length -> i = k -> m < N -> zd (z1n b p) N (i, page, f, c, c.blocks.take k) = some (progT c b p page f)
 | m, 0, _, _, _, _, h => by omega
 | 0, N + 1, k, i, h1, h2, _ => by
   rw [z6, z5j, List.take_of_length_le (by omega)]; exact zzb hoff hc (by omega)
 | m + 1, N + 1, k, i, h1, h2, h3 => by
   rw [z6, z5j]; unfold z0u; rw [ze3 (ih := fun i l => zd (z1n b p) N (i, page, f, c, l)) h h2 (by omega)]; exact zr3 h hoff hc m N (k + 1) _ (by omega) rfl (by omega)
theorem zr4 {c : Chip} (h : z0f c) : ∀ (m N k : Nat) (i : Int), k + m = c.blocks.length -> i = k -> m < N -> zd z1m N (i, c, c.blocks.take k) = some (⟨c.blocks, c.broken, c.off, c.ops⟩, 52)
 | m, 0, _, _, _, _, h => by omega
 | 0, N + 1, k, i, h1, h2, _ => by
   rw [z6, z5i]; unfold z1l; simp only; rw [zF (by omega), zD, List.take_of_length_le (by omega)]
 | m + 1, N + 1, k, i, h1, h2, h3 => by
   rw [z6, z5i]; unfold z1l; rw [ze3 (ih := fun i l => zd z1m N (i, c, l)) h h2 (by omega)]; exact zr4 h m N (k + 1) _ (by omega) rfl (by omega)
theorem zoi {c : Chip} (h : z0f c) (b p : Int) (page : Page) (f : Fate) : z0o (c, b, p, page, f) = some (progT c b p page f) := by
 refine z0e (c.blocks.length + 1) fun N hN => ?_
 show z3s N c b p page f = _; unfold z3s; cases hoff : c.off with
 | true =>
   rw [zC]; have := zr4 h c.blocks.length N 0 0 (by omega) rfl (by omega); rw [List.take_zero] at this; rw [this]; unfold progT; rw [if_pos hoff]
 | false =>
   rw [zD, z0am, z8, z00o h]; simp only [z8]; have hbrk : canProg c b p f = false -> progT c b p page f = brkT c := fun hc => by unfold progT; rw [hoff, if_neg (by simp), hc]; rfl
   cases ht : thereT c b p with
   | false =>
     rw [hbrk (by unfold canProg; rw [ht]; rfl)] <;> rfl
   | true =>
     have ht' := ht; unfold thereT at ht'; simp only [Bool.and_eq_true, decide_eq_true_eq] at ht'; obtain ⟨⟨⟨h1, h2⟩, h3⟩, h4⟩ := ht'; rw [Bool.not_true, zD, zT h1, zT h2]; simp only [zC]; cases hbd : (c.blocks.getD b.toNat default).bad with
     | true =>
       rw [zC, hbrk (by unfold canProg; rw [hbd]; simp)] <;> rfl
     | false =>
       rw [zD]; by_cases hn : (c.blocks.getD b.toNat default).next = p
       · rw [zT hn, Bool.not_true, zD]; by_cases hk1 : f.kind < 0
         · rw [zT hk1, zC, hbrk (by unfold canProg; rw [zF (show ¬ 0 <= f.kind by omega)]; simp)] <;> rfl
         · rw [zF hk1, zD]; by_cases hk2 : 2 < f.kind
           · rw [zT hk2, zC, hbrk (by unfold canProg; rw [zF (show ¬ f.kind <= 2 by omega)]; simp)] <;> rfl
           · rw [zF hk2, zD]; have := zr3 h (page := page) (f := f) hoff (z4s.2 ⟨h1, h2, h3, h4, hbd, hn, by omega, by omega⟩) c.blocks.length N 0 0 (by omega) rfl (by omega); rw [List.take_zero] at this; exact this
       · rw [zF hn, Bool.not_false, zC, hbrk (by unfold canProg; rw [zF hn]; simp)] <;> rfl
end Clk
