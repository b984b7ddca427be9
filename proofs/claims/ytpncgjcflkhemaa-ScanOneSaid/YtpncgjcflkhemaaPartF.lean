/- A part of the proof of ScanOne: an evaluator of the program's code that the kernel runs, its soundness, what the functions compute. -/
import Derived.Test.YtpncgjcflkhemaaPartE
import Derived.Test.YtpncgjcflkhemaaProg
import Derived.Shelf.SlSortCmp.InsertionK
import Derived.CallsIn
import Derived.Shelf.SlSortCmp.NoneTotal
import Derived.Ground.SlsfProg
import Derived.WalkKit
import Derived.StillTailTactics
import Derived.WalkSmall
import Derived.Tactics
import Derived.Tactics2
import Derived.Defers
import Derived.Recover
import Derived.BigRegion
import Derived.Deep.RegionHeld3
import Derived.KernelRfl
set_option linter.unusedVariables false
set_option linter.unusedSimpArgs false
namespace Go.Proofs.Ytpncgjcflkhemaa
open Clk Go.Proofs
set_option maxRecDepth 1000000
noncomputable def tiL : List (Option TI) := [
 none,
 some ⟨1, 8, .func, .nilFunc⟩,
 some ⟨1, 8, (.int .i64), (.int .i64 0)⟩,
 some ⟨1, 8, (.int .i64), (.int .i64 0)⟩,
 some ⟨1, 1, .bool, (.bool false)⟩,
 some ⟨1, 1, (.int .u8), (.int .u8 0)⟩,
 some ⟨1, 1, (.int .u8), (.int .u8 0)⟩,
 some ⟨4, 24, (.struct [(0, 2), (1, 3), (2, 4), (3, 6)]), (.agg [(.int .i64 0), (.int .i64 0), (.bool false), (.int .u8 0)])⟩,
 some ⟨4, 24, (.struct [(0, 2), (1, 3), (2, 4), (3, 6)]), (.agg [(.int .i64 0), (.int .i64 0), (.bool false), (.int .u8 0)])⟩,
 some ⟨1, 16, .string, (.str ⟨#[]⟩)⟩,
 some ⟨1, 16, .string, (.str ⟨#[]⟩)⟩,
 some ⟨1, 16, .string, (.str ⟨#[]⟩)⟩,
 some ⟨1, 8, (.int .u64), (.int .u64 0)⟩,
 some ⟨2, 24, (.struct [(0, 9), (1, 12)]), (.agg [(.str ⟨#[]⟩), (.int .u64 0)])⟩,
 some ⟨2, 24, (.struct [(0, 9), (1, 12)]), (.agg [(.str ⟨#[]⟩), (.int .u64 0)])⟩,
 some ⟨1, 8, (.pointer 135), .nilPtr⟩,
 some ⟨1, 8, (.pointer 138), .nilPtr⟩,
 some ⟨1, 8, (.pointer 147), .nilPtr⟩,
 some ⟨1, 8, (.struct [(0, 17)]), (.agg [.nilPtr])⟩,
 some ⟨1, 8, (.struct [(0, 17)]), (.agg [.nilPtr])⟩,
 some ⟨1, 16, .iface, .nilIface⟩,
 some ⟨1, 4, (.int .i32), (.int .i32 0)⟩,
 some ⟨1, 24, (.slice 39), (.crows [])⟩,
 some ⟨4, 40, (.struct [(0, 22), (1, 4), (2, 4), (3, 3)]), (.agg [(.crows []), (.bool false), (.bool false), (.int .i64 0)])⟩,
 some ⟨4, 40, (.struct [(0, 22), (1, 4), (2, 4), (3, 3)]), (.agg [(.crows []), (.bool false), (.bool false), (.int .i64 0)])⟩,
 some ⟨1, 8, .func, .nilFunc⟩,
 some ⟨3, 40, (.struct [(0, 4), (1, 9), (2, 9)]), (.agg [(.bool false), (.str ⟨#[]⟩), (.str ⟨#[]⟩)])⟩,
 some ⟨3, 40, (.struct [(0, 4), (1, 9), (2, 9)]), (.agg [(.bool false), (.str ⟨#[]⟩), (.str ⟨#[]⟩)])⟩,
 none,
 some ⟨1, 8, .func, .nilFunc⟩,
 some ⟨1, 8, .func, .nilFunc⟩,
 some ⟨1, 8, .func, .nilFunc⟩,
 some ⟨1, 24, (.slice 58), (.crows [])⟩,
 some ⟨1, 8, .func, .nilFunc⟩,
 some ⟨1, 8, .func, .nilFunc⟩,
 some ⟨1, 24, (.slice 49), (.crows [])⟩,
 some ⟨1, 8, .func, .nilFunc⟩,
 some ⟨1, 24, (.slice 27), (.crows [])⟩,
 some ⟨4, 48, (.struct [(0, 37), (1, 3), (2, 3), (3, 4)]), (.agg [(.crows []), (.int .i64 0), (.int .i64 0), (.bool false)])⟩,
 some ⟨4, 48, (.struct [(0, 37), (1, 3), (2, 3), (3, 4)]), (.agg [(.crows []), (.int .i64 0), (.int .i64 0), (.bool false)])⟩,
 some ⟨1, 8, (.int .i64), (.int .i64 0)⟩,
 none,
 some ⟨1, 8, .func, .nilFunc⟩,
 some ⟨4, 48, (.struct [(0, 3), (1, 9), (2, 9), (3, 3)]), (.agg [(.int .i64 0), (.str ⟨#[]⟩), (.str ⟨#[]⟩), (.int .i64 0)])⟩,
 some ⟨4, 48, (.struct [(0, 3), (1, 9), (2, 9), (3, 3)]), (.agg [(.int .i64 0), (.str ⟨#[]⟩), (.str ⟨#[]⟩), (.int .i64 0)])⟩,
 some ⟨1, 24, (.slice 3), (.crows [])⟩,
 some ⟨4, 64, (.struct [(0, 3), (1, 3), (2, 45), (3, 45)]), (.agg [(.int .i64 0), (.int .i64 0), (.crows []), (.crows [])])⟩,
 some ⟨4, 64, (.struct [(0, 3), (1, 3), (2, 45), (3, 45)]), (.agg [(.int .i64 0), (.int .i64 0), (.crows []), (.crows [])])⟩,
 some ⟨5, 72, (.struct [(0, 3), (1, 47)]), (.agg [(.int .i64 0), (.int .i64 0), (.int .i64 0), (.crows []), (.crows [])])⟩,
 some ⟨5, 72, (.struct [(0, 3), (1, 47)]), (.agg [(.int .i64 0), (.int .i64 0), (.int .i64 0), (.crows []), (.crows [])])⟩,
 none,
 some ⟨1, 8, .func, .nilFunc⟩,
 some ⟨1, 8, .func, .nilFunc⟩,
 some ⟨1, 8, .func, .nilFunc⟩,
 some ⟨1, 8, .func, .nilFunc⟩,
 some ⟨1, 8, .func, .nilFunc⟩,
 some ⟨1, 8, .func, .nilFunc⟩,
 some ⟨1, 8, .func, .nilFunc⟩,
 some ⟨1, 2, (.int .u16), (.int .u16 0)⟩,
 some ⟨1, 8, .func, .nilFunc⟩,
 none,
 some ⟨1, 8, .func, .nilFunc⟩,
 some ⟨5, 80, (.struct [(0, 9), (1, 47)]), (.agg [(.str ⟨#[]⟩), (.int .i64 0), (.int .i64 0), (.crows []), (.crows [])])⟩,
 some ⟨5, 80, (.struct [(0, 9), (1, 47)]), (.agg [(.str ⟨#[]⟩), (.int .i64 0), (.int .i64 0), (.crows []), (.crows [])])⟩,
 some ⟨1, 8, .func, .nilFunc⟩,
 some ⟨1, 8, .func, .nilFunc⟩,
 some ⟨1, 8, .func, .nilFunc⟩,
 none,
 some ⟨1, 8, .func, .nilFunc⟩,
 some ⟨1, 8, .func, .nilFunc⟩,
 some ⟨1, 8, .func, .nilFunc⟩,
 some ⟨1, 8, .func, .nilFunc⟩,
 some ⟨1, 8, .func, .nilFunc⟩,
 some ⟨1, 8, .func, .nilFunc⟩,
 some ⟨1, 8, .func, .nilFunc⟩,
 none,
 some ⟨1, 8, .func, .nilFunc⟩,
 none,
 some ⟨1, 8, .func, .nilFunc⟩,
 some ⟨1, 8, .func, .nilFunc⟩,
 some ⟨1, 8, (.pointer 39), .nilPtr⟩,
 some ⟨1, 8, .func, .nilFunc⟩,
 some ⟨1, 8, .func, .nilFunc⟩,
 some ⟨1, 8, .func, .nilFunc⟩,
 some ⟨1, 8, .func, .nilFunc⟩,
 some ⟨1, 8, (.int .u64), (.int .u64 0)⟩,
 some ⟨1, 8, .func, .nilFunc⟩,
 none,
 some ⟨1, 8, .func, .nilFunc⟩,
 some ⟨1, 8, .func, .nilFunc⟩,
 some ⟨1, 8, .func, .nilFunc⟩,
 some ⟨1, 8, .func, .nilFunc⟩,
 some ⟨1, 8, .func, .nilFunc⟩,
 some ⟨1, 8, .func, .nilFunc⟩,
 some ⟨1, 8, .func, .nilFunc⟩,
 some ⟨1, 8, (.int .i64), (.int .i64 0)⟩,
 none,
 some ⟨1, 8, .func, .nilFunc⟩,
 some ⟨1, 8, .func, .nilFunc⟩,
 some ⟨1, 8, .func, .nilFunc⟩,
 none,
 some ⟨1, 8, .func, .nilFunc⟩,
 some ⟨1, 8, .func, .nilFunc⟩,
 some ⟨1, 4, (.int .u32), (.int .u32 0)⟩,
 some ⟨1, 8, .func, .nilFunc⟩,
 some ⟨1, 8, (.int .u64), (.int .u64 0)⟩,
 some ⟨1, 8, .func, .nilFunc⟩,
 some ⟨1, 8, .func, .nilFunc⟩,
 some ⟨1, 24, (.slice 5), (.crows [])⟩,
 some ⟨1, 8, .func, .nilFunc⟩,
 some ⟨1, 8, (.pointer 47), .nilPtr⟩,
 some ⟨1, 8, (.pointer 40), .nilPtr⟩,
 some ⟨1, 8, (.pointer 114), .nilPtr⟩,
 some ⟨1, 16, (.struct [(0, 9)]), (.agg [(.str ⟨#[]⟩)])⟩,
 some ⟨1, 16, (.struct [(0, 9)]), (.agg [(.str ⟨#[]⟩)])⟩,
 some ⟨1, 8, .func, .nilFunc⟩,
 some ⟨1, 8, .func, .nilFunc⟩,
 some ⟨3, 72, (.array 3 45), (.agg [(.crows []), (.crows []), (.crows [])])⟩,
 some ⟨1, 8, (.int .u64), (.int .u64 0)⟩,
 some ⟨1, 8, .func, .nilFunc⟩,
 some ⟨1, 8, .func, .nilFunc⟩,
 some ⟨1, 8, .func, .nilFunc⟩,
 some ⟨1, 8, (.pointer 3), .nilPtr⟩,
 some ⟨1, 8, .func, .nilFunc⟩,
 some ⟨1, 8, .func, .nilFunc⟩,
 some ⟨1, 8, .func, .nilFunc⟩,
 some ⟨4, 4, (.array 4 5), (.agg [(.int .u8 0), (.int .u8 0), (.int .u8 0), (.int .u8 0)])⟩,
 some ⟨1, 8, (.pointer 118), .nilPtr⟩,
 none,
 some ⟨1, 8, .func, .nilFunc⟩,
 some ⟨1, 8, .func, .nilFunc⟩,
 some ⟨1, 8, .func, .nilFunc⟩,
 some ⟨1, 8, .func, .nilFunc⟩,
 some ⟨1, 8, .func, .nilFunc⟩,
 some ⟨4, 40, (.struct [(0, 17), (1, 17), (2, 17), (3, 9)]), (.agg [.nilPtr, .nilPtr, .nilPtr, (.str ⟨#[]⟩)])⟩,
 some ⟨4, 40, (.struct [(0, 17), (1, 17), (2, 17), (3, 9)]), (.agg [.nilPtr, .nilPtr, .nilPtr, (.str ⟨#[]⟩)])⟩,
 none,
 none,
 none,
 some ⟨1, 8, .func, .nilFunc⟩,
 some ⟨1, 1, (.int .u8), (.int .u8 0)⟩,
 some ⟨1, 1, (.int .u8), (.int .u8 0)⟩,
 some ⟨1, 8, .func, .nilFunc⟩,
 some ⟨1, 8, (.pointer 5), .nilPtr⟩,
 some ⟨1, 4, (.int .i32), (.int .i32 0)⟩,
 some ⟨1, 4, (.int .i32), (.int .i32 0)⟩,
 some ⟨11, 48, (.struct [(0, 12), (1, 12), (2, 103), (3, 140), (4, 5), (5, 5), (6, 141), (7, 142), (8, 143), (9, 144), (10, 145)]), (.agg [(.int .u64 0), (.int .u64 0), (.int .u32 0), (.int .u8 0), (.int .u8 0), (.int .u8 0), (.int .u8 0), .nilFunc, .nilPtr, (.int .i32 0), (.int .i32 0)])⟩,
 some ⟨11, 48, (.struct [(0, 12), (1, 12), (2, 103), (3, 140), (4, 5), (5, 5), (6, 141), (7, 142), (8, 143), (9, 144), (10, 145)]), (.agg [(.int .u64 0), (.int .u64 0), (.int .u32 0), (.int .u8 0), (.int .u8 0), (.int .u8 0), (.int .u8 0), .nilFunc, .nilPtr, (.int .i32 0), (.int .i32 0)])⟩,
 none]
noncomputable def zL : List (Option (List SV)) := [
 none,
 some [.nilFunc],
 some [.int .i64 0],
 some [.int .i64 0],
 some [.bool false],
 some [.int .u8 0],
 some [.int .u8 0],
 some [.int .i64 0, .int .i64 0, .bool false, .int .u8 0],
 some [.int .i64 0, .int .i64 0, .bool false, .int .u8 0],
 some [.str []],
 some [.str []],
 some [.str []],
 some [.int .u64 0],
 some [.str [], .int .u64 0],
 some [.str [], .int .u64 0],
 some [.nilPtr],
 some [.nilPtr],
 some [.nilPtr],
 some [.nilPtr],
 some [.nilPtr],
 some [.nilIface],
 some [.int .i32 0],
 some [.lst true .block []],
 some [.lst true .block [], .bool false, .bool false, .int .i64 0],
 some [.lst true .block [], .bool false, .bool false, .int .i64 0],
 some [.nilFunc],
 some [.bool false, .str [], .str []],
 some [.bool false, .str [], .str []],
 none,
 some [.nilFunc],
 some [.nilFunc],
 some [.nilFunc],
 some [.lst true (.int .u16) []],
 some [.nilFunc],
 some [.nilFunc],
 some [.lst true .found []],
 some [.nilFunc],
 some [.lst true .page []],
 some [.lst true .page [], .int .i64 0, .int .i64 0, .bool false],
 some [.lst true .page [], .int .i64 0, .int .i64 0, .bool false],
 some [.int .i64 0],
 none,
 some [.nilFunc],
 some [.int .i64 0, .str [], .str [], .int .i64 0],
 some [.int .i64 0, .str [], .str [], .int .i64 0],
 some [.lst true .i []],
 some [.int .i64 0, .int .i64 0, .lst true .i [], .lst true .i []],
 some [.int .i64 0, .int .i64 0, .lst true .i [], .lst true .i []],
 some [.int .i64 0, .int .i64 0, .int .i64 0, .lst true .i [], .lst true .i []],
 some [.int .i64 0, .int .i64 0, .int .i64 0, .lst true .i [], .lst true .i []],
 none,
 some [.nilFunc],
 some [.nilFunc],
 some [.nilFunc],
 some [.nilFunc],
 some [.nilFunc],
 some [.nilFunc],
 some [.nilFunc],
 some [.int .u16 0],
 some [.nilFunc],
 none,
 some [.nilFunc],
 some [.str [], .int .i64 0, .int .i64 0, .lst true .i [], .lst true .i []],
 some [.str [], .int .i64 0, .int .i64 0, .lst true .i [], .lst true .i []],
 some [.nilFunc],
 some [.nilFunc],
 some [.nilFunc],
 none,
 some [.nilFunc],
 some [.nilFunc],
 some [.nilFunc],
 some [.nilFunc],
 some [.nilFunc],
 some [.nilFunc],
 some [.nilFunc],
 none,
 some [.nilFunc],
 none,
 some [.nilFunc],
 some [.nilFunc],
 some [.nilPtr],
 some [.nilFunc],
 some [.nilFunc],
 some [.nilFunc],
 some [.nilFunc],
 some [.int .u64 0],
 some [.nilFunc],
 none,
 some [.nilFunc],
 some [.nilFunc],
 some [.nilFunc],
 some [.nilFunc],
 some [.nilFunc],
 some [.nilFunc],
 some [.nilFunc],
 some [.int .i64 0],
 none,
 some [.nilFunc],
 some [.nilFunc],
 some [.nilFunc],
 none,
 some [.nilFunc],
 some [.nilFunc],
 some [.int .u32 0],
 some [.nilFunc],
 some [.int .u64 0],
 some [.nilFunc],
 some [.nilFunc],
 some [.lst true (.int .u8) []],
 some [.nilFunc],
 some [.nilPtr],
 some [.nilPtr],
 some [.nilPtr],
 some [.str []],
 some [.str []],
 some [.nilFunc],
 some [.nilFunc],
 some [.lst true .i [], .lst true .i [], .lst true .i []],
 some [.int .u64 0],
 some [.nilFunc],
 some [.nilFunc],
 some [.nilFunc],
 some [.nilPtr],
 some [.nilFunc],
 some [.nilFunc],
 some [.nilFunc],
 some [.int .u8 0, .int .u8 0, .int .u8 0, .int .u8 0],
 some [.nilPtr],
 none,
 some [.nilFunc],
 some [.nilFunc],
 some [.nilFunc],
 some [.nilFunc],
 some [.nilFunc],
 some [.nilPtr, .nilPtr, .nilPtr, .str []],
 some [.nilPtr, .nilPtr, .nilPtr, .str []],
 none,
 none,
 none,
 some [.nilFunc],
 some [.int .u8 0],
 some [.int .u8 0],
 some [.nilFunc],
 some [.nilPtr],
 some [.int .i32 0],
 some [.int .i32 0],
 some [.int .u64 0, .int .u64 0, .int .u32 0, .int .u8 0, .int .u8 0, .int .u8 0, .int .u8 0, .nilFunc, .nilPtr, .int .i32 0, .int .i32 0],
 some [.int .u64 0, .int .u64 0, .int .u32 0, .int .u8 0, .int .u8 0, .int .u8 0, .int .u8 0, .nilFunc, .nilPtr, .int .i32 0, .int .i32 0],
 none]
noncomputable def ecL : List (Option TC) := [
 none,
 none,
 some .i,
 some .i,
 some .bool,
 some (.int .u8),
 some (.int .u8),
 none,
 none,
 some .str,
 some .str,
 some .str,
 some (.int .u64),
 none,
 none,
 none,
 none,
 none,
 none,
 none,
 none,
 some (.int .i32),
 some (.list .block),
 none,
 some .chip,
 none,
 none,
 some .page,
 none,
 none,
 none,
 none,
 some (.list (.int .u16)),
 none,
 none,
 some (.list .found),
 none,
 some (.list .page),
 none,
 some .block,
 some .i,
 none,
 none,
 none,
 some .fate,
 some (.list .i),
 none,
 some .record,
 none,
 some .found,
 none,
 none,
 none,
 none,
 none,
 none,
 none,
 none,
 some (.int .u16),
 none,
 none,
 none,
 none,
 some .write,
 none,
 none,
 none,
 none,
 none,
 none,
 none,
 none,
 none,
 none,
 none,
 none,
 none,
 none,
 none,
 none,
 none,
 none,
 none,
 none,
 none,
 some (.int .u64),
 none,
 none,
 none,
 none,
 none,
 none,
 none,
 none,
 none,
 some .i,
 none,
 none,
 none,
 none,
 none,
 none,
 none,
 some (.int .u32),
 none,
 some (.int .u64),
 none,
 none,
 some (.list (.int .u8)),
 none,
 none,
 none,
 none,
 none,
 none,
 none,
 none,
 none,
 some (.int .u64),
 none,
 none,
 none,
 none,
 none,
 none,
 none,
 none,
 none,
 none,
 none,
 none,
 none,
 none,
 none,
 none,
 none,
 none,
 none,
 none,
 none,
 some (.int .u8),
 some (.int .u8),
 none,
 none,
 some (.int .i32),
 some (.int .i32),
 none,
 none,
 none]
noncomputable def eqL : List Bool := [false, false, false, false, false, false, false, true, true, false, false, false, false, false, false, false, false, false, false, false, false, false, false, true, true, false, true, true, false, false, false, false, false, false, false, false, false, false, true, true, false, false, false, true, true, false, true, true, true, true, false, false, false, false, false, false, false, false, false, false, false, false, true, true, false, false, false, false, false, false, false, false, false, false, false, false, false, false, false, false, false, false, false, false, false, false, false, false, false, false, false, false, false, false, false, false, false, false, false, false, false, false, false, false, false, false, false, false, false, false, false, false, false, true, true, false, false, false, false, false, false, false, false, false, false, false, false, false, false, false, false, false, false, false, false, false, false, false, false, false, false, false, false, false, false, false, false, false, false]
noncomputable def fnL : List (Option Go.Func) := [none, none, none, some Try.f3, some Try.f4, some Try.f5, some Try.f6, some Try.f7, some Try.f8, some Try.f9, some Try.f10, some Try.f11, some Try.f12, some Try.f13, some Try.f14, some Try.f15, some Try.f16, some Try.f17, some Try.f18, some Try.f19, some Try.f20, some Try.f21, some Try.f22, some Try.f23, some Try.f24, some Try.f25, some Try.f26, some Try.f27, some Try.f28, some Try.f29, some Try.f30, some Try.f31, some Try.f32, some Try.f33, some Try.f34, some Try.f35, some Try.f36, some Try.f37, some Try.f38, some Try.f39, some Try.f40, some Try.f41, some Try.f42, some Try.f43, some Try.f44, some Try.f45, some Try.f46, some Try.f47, some Try.f48, some Try.f49, some Try.f50, some Try.f51, some Try.f52, some Try.f53, some Try.f54, some Try.f55, some Try.f56, some Try.f57, some Try.f58, some Try.f59, some Try.f60, some Try.f61, some Try.f62, some Try.f63, some Try.f64, some Try.f65, some Try.f66, some Try.f67, some Try.f68, some Try.f69, some Try.f70, some Try.f71, some Try.f72, some Try.f73, some Try.f74, some Try.f75, some Try.f76, some Try.f77, some Try.f78, some Try.f79, some Try.f80, some Try.f81, some Try.f82, some Try.f83, some Try.f84, some Try.f85, some Try.f86, none, none, none, none, none, none, none, none, none, none, none, none, none, none, none, none]
noncomputable def inlL : List Bool := [false, false, false, false, false, false, false, false, false, false, false, false, false, false, false, false, false, false, false, false, false, false, true, false, true, true, false, false, true, false, false, false, false, false, true, true, false, true, false, false, false, false, false, false, false, false, false, true, true, true, true, true, true, true, true, false, false, false, false, false, false, false, false, false, false, false, false, true, false, false, true, true, false, false, false, true, false, true, false, true, false, true, false, true, true, false, false, false, false, false, false, false, false, false, false, false, false, false, false, false, false, false, false]
noncomputable def clL : List (Option (TC × Nat)) := [none, none, none, none, none, none, none, none, none, none, none, none, none, none, none, none, none, none, none, none, none, none, none, none, some (.found, 1000025), none, none, none, none, none, none, none, none, none, none, none, none, none, none, none, none, none, none, none, none, none, none, none, none, none, none, none, none, none, none, none, none, none, none, none, none, none, none, none, none, none, none, none, none, none, none, none, none, none, some (.i, 8), none, none, none, none, none, none, none, none, none, none, none, none, none, none, none, none, none, none, none, none, none, none, none, none, none, none, none, none]
noncomputable def seat : Seat := ⟨tiL, zL, ecL, eqL, fnL, inlL, clL⟩
theorem seat_ok : seat.Ok Try.prog where
 ti := by kernel_rfl
 zero := by kernel_rfl
 zs := by kernel_rfl
 ec := by kernel_rfl
 eci := by kernel_rfl
 flds := by kernel_rfl
 eq := by kernel_rfl
 fn := by kernel_rfl
theorem sseat : SeatOk Try.prog seat.inlF seat.prim seat.mk' := seat_ok.seatOk
end Go.Proofs.Ytpncgjcflkhemaa
namespace Go.Proofs.Ytpncgjcflkhemaa
open Go Go.Proofs Clk
theorem ti0 : ti Try.prog 0 = some ⟨1, 0, .other, (.tup [])⟩ := by kernel_rfl
theorem ti1 : ti Try.prog 1 = some ⟨1, 8, .func, .nilFunc⟩ := by kernel_rfl
theorem ti2 : ti Try.prog 2 = some ⟨1, 8, (.int .i64), (.int .i64 0)⟩ := by kernel_rfl
theorem ti3 : ti Try.prog 3 = some ⟨1, 8, (.int .i64), (.int .i64 0)⟩ := by kernel_rfl
theorem ti4 : ti Try.prog 4 = some ⟨1, 1, .bool, (.bool false)⟩ := by kernel_rfl
theorem ti5 : ti Try.prog 5 = some ⟨1, 1, (.int .u8), (.int .u8 0)⟩ := by kernel_rfl
theorem ti6 : ti Try.prog 6 = some ⟨1, 1, (.int .u8), (.int .u8 0)⟩ := by kernel_rfl
theorem ti7 : ti Try.prog 7 = some ⟨4, 24, (.struct [(0, 2), (1, 3), (2, 4), (3, 6)]), (.agg [(.int .i64 0), (.int .i64 0), (.bool false), (.int .u8 0)])⟩ := by kernel_rfl
theorem ti8 : ti Try.prog 8 = some ⟨4, 24, (.struct [(0, 2), (1, 3), (2, 4), (3, 6)]), (.agg [(.int .i64 0), (.int .i64 0), (.bool false), (.int .u8 0)])⟩ := by kernel_rfl
theorem ti9 : ti Try.prog 9 = some ⟨1, 16, .string, (.str ⟨#[]⟩)⟩ := by kernel_rfl
theorem ti10 : ti Try.prog 10 = some ⟨1, 16, .string, (.str ⟨#[]⟩)⟩ := by kernel_rfl
theorem ti11 : ti Try.prog 11 = some ⟨1, 16, .string, (.str ⟨#[]⟩)⟩ := by kernel_rfl
theorem ti12 : ti Try.prog 12 = some ⟨1, 8, (.int .u64), (.int .u64 0)⟩ := by kernel_rfl
theorem ti13 : ti Try.prog 13 = some ⟨2, 24, (.struct [(0, 9), (1, 12)]), (.agg [(.str ⟨#[]⟩), (.int .u64 0)])⟩ := by kernel_rfl
theorem ti14 : ti Try.prog 14 = some ⟨2, 24, (.struct [(0, 9), (1, 12)]), (.agg [(.str ⟨#[]⟩), (.int .u64 0)])⟩ := by kernel_rfl
theorem ti15 : ti Try.prog 15 = some ⟨1, 8, (.pointer 135), .nilPtr⟩ := by kernel_rfl
theorem ti16 : ti Try.prog 16 = some ⟨1, 8, (.pointer 138), .nilPtr⟩ := by kernel_rfl
theorem ti17 : ti Try.prog 17 = some ⟨1, 8, (.pointer 147), .nilPtr⟩ := by kernel_rfl
theorem ti18 : ti Try.prog 18 = some ⟨1, 8, (.struct [(0, 17)]), (.agg [.nilPtr])⟩ := by kernel_rfl
theorem ti19 : ti Try.prog 19 = some ⟨1, 8, (.struct [(0, 17)]), (.agg [.nilPtr])⟩ := by kernel_rfl
theorem ti20 : ti Try.prog 20 = some ⟨1, 16, .iface, .nilIface⟩ := by kernel_rfl
theorem ti21 : ti Try.prog 21 = some ⟨1, 4, (.int .i32), (.int .i32 0)⟩ := by kernel_rfl
theorem ti22 : ti Try.prog 22 = some ⟨1, 24, (.slice 39), (.crows [])⟩ := by kernel_rfl
theorem ti23 : ti Try.prog 23 = some ⟨4, 40, (.struct [(0, 22), (1, 4), (2, 4), (3, 3)]), (.agg [(.crows []), (.bool false), (.bool false), (.int .i64 0)])⟩ := by kernel_rfl
theorem ti24 : ti Try.prog 24 = some ⟨4, 40, (.struct [(0, 22), (1, 4), (2, 4), (3, 3)]), (.agg [(.crows []), (.bool false), (.bool false), (.int .i64 0)])⟩ := by kernel_rfl
theorem ti25 : ti Try.prog 25 = some ⟨1, 8, .func, .nilFunc⟩ := by kernel_rfl
theorem ti26 : ti Try.prog 26 = some ⟨3, 40, (.struct [(0, 4), (1, 9), (2, 9)]), (.agg [(.bool false), (.str ⟨#[]⟩), (.str ⟨#[]⟩)])⟩ := by kernel_rfl
theorem ti27 : ti Try.prog 27 = some ⟨3, 40, (.struct [(0, 4), (1, 9), (2, 9)]), (.agg [(.bool false), (.str ⟨#[]⟩), (.str ⟨#[]⟩)])⟩ := by kernel_rfl
theorem ti28 : ti Try.prog 28 = some ⟨1, 0, .other, .undef⟩ := by kernel_rfl
theorem ti29 : ti Try.prog 29 = some ⟨1, 8, .func, .nilFunc⟩ := by kernel_rfl
theorem ti30 : ti Try.prog 30 = some ⟨1, 8, .func, .nilFunc⟩ := by kernel_rfl
theorem ti31 : ti Try.prog 31 = some ⟨1, 8, .func, .nilFunc⟩ := by kernel_rfl
theorem ti32 : ti Try.prog 32 = some ⟨1, 24, (.slice 58), (.crows [])⟩ := by kernel_rfl
theorem ti33 : ti Try.prog 33 = some ⟨1, 8, .func, .nilFunc⟩ := by kernel_rfl
theorem ti34 : ti Try.prog 34 = some ⟨1, 8, .func, .nilFunc⟩ := by kernel_rfl
theorem ti35 : ti Try.prog 35 = some ⟨1, 24, (.slice 49), (.crows [])⟩ := by kernel_rfl
theorem ti36 : ti Try.prog 36 = some ⟨1, 8, .func, .nilFunc⟩ := by kernel_rfl
theorem ti37 : ti Try.prog 37 = some ⟨1, 24, (.slice 27), (.crows [])⟩ := by kernel_rfl
theorem ti38 : ti Try.prog 38 = some ⟨4, 48, (.struct [(0, 37), (1, 3), (2, 3), (3, 4)]), (.agg [(.crows []), (.int .i64 0), (.int .i64 0), (.bool false)])⟩ := by kernel_rfl
theorem ti39 : ti Try.prog 39 = some ⟨4, 48, (.struct [(0, 37), (1, 3), (2, 3), (3, 4)]), (.agg [(.crows []), (.int .i64 0), (.int .i64 0), (.bool false)])⟩ := by kernel_rfl
theorem ti40 : ti Try.prog 40 = some ⟨1, 8, (.int .i64), (.int .i64 0)⟩ := by kernel_rfl
theorem ti41 : ti Try.prog 41 = some ⟨1, 0, .other, .undef⟩ := by kernel_rfl
theorem ti42 : ti Try.prog 42 = some ⟨1, 8, .func, .nilFunc⟩ := by kernel_rfl
theorem ti43 : ti Try.prog 43 = some ⟨4, 48, (.struct [(0, 3), (1, 9), (2, 9), (3, 3)]), (.agg [(.int .i64 0), (.str ⟨#[]⟩), (.str ⟨#[]⟩), (.int .i64 0)])⟩ := by kernel_rfl
theorem ti44 : ti Try.prog 44 = some ⟨4, 48, (.struct [(0, 3), (1, 9), (2, 9), (3, 3)]), (.agg [(.int .i64 0), (.str ⟨#[]⟩), (.str ⟨#[]⟩), (.int .i64 0)])⟩ := by kernel_rfl
theorem ti45 : ti Try.prog 45 = some ⟨1, 24, (.slice 3), (.crows [])⟩ := by kernel_rfl
theorem ti46 : ti Try.prog 46 = some ⟨4, 64, (.struct [(0, 3), (1, 3), (2, 45), (3, 45)]), (.agg [(.int .i64 0), (.int .i64 0), (.crows []), (.crows [])])⟩ := by kernel_rfl
theorem ti47 : ti Try.prog 47 = some ⟨4, 64, (.struct [(0, 3), (1, 3), (2, 45), (3, 45)]), (.agg [(.int .i64 0), (.int .i64 0), (.crows []), (.crows [])])⟩ := by kernel_rfl
theorem ti48 : ti Try.prog 48 = some ⟨5, 72, (.struct [(0, 3), (1, 47)]), (.agg [(.int .i64 0), (.int .i64 0), (.int .i64 0), (.crows []), (.crows [])])⟩ := by kernel_rfl
theorem ti49 : ti Try.prog 49 = some ⟨5, 72, (.struct [(0, 3), (1, 47)]), (.agg [(.int .i64 0), (.int .i64 0), (.int .i64 0), (.crows []), (.crows [])])⟩ := by kernel_rfl
theorem ti50 : ti Try.prog 50 = some ⟨1, 0, .other, .undef⟩ := by kernel_rfl
theorem ti51 : ti Try.prog 51 = some ⟨1, 8, .func, .nilFunc⟩ := by kernel_rfl
theorem ti52 : ti Try.prog 52 = some ⟨1, 8, .func, .nilFunc⟩ := by kernel_rfl
theorem ti53 : ti Try.prog 53 = some ⟨1, 8, .func, .nilFunc⟩ := by kernel_rfl
theorem ti54 : ti Try.prog 54 = some ⟨1, 8, .func, .nilFunc⟩ := by kernel_rfl
theorem ti55 : ti Try.prog 55 = some ⟨1, 8, .func, .nilFunc⟩ := by kernel_rfl
theorem ti56 : ti Try.prog 56 = some ⟨1, 8, .func, .nilFunc⟩ := by kernel_rfl
theorem ti57 : ti Try.prog 57 = some ⟨1, 8, .func, .nilFunc⟩ := by kernel_rfl
theorem ti58 : ti Try.prog 58 = some ⟨1, 2, (.int .u16), (.int .u16 0)⟩ := by kernel_rfl
theorem ti59 : ti Try.prog 59 = some ⟨1, 8, .func, .nilFunc⟩ := by kernel_rfl
theorem ti60 : ti Try.prog 60 = some ⟨1, 0, .other, .undef⟩ := by kernel_rfl
theorem ti61 : ti Try.prog 61 = some ⟨1, 8, .func, .nilFunc⟩ := by kernel_rfl
theorem ti62 : ti Try.prog 62 = some ⟨5, 80, (.struct [(0, 9), (1, 47)]), (.agg [(.str ⟨#[]⟩), (.int .i64 0), (.int .i64 0), (.crows []), (.crows [])])⟩ := by kernel_rfl
theorem ti63 : ti Try.prog 63 = some ⟨5, 80, (.struct [(0, 9), (1, 47)]), (.agg [(.str ⟨#[]⟩), (.int .i64 0), (.int .i64 0), (.crows []), (.crows [])])⟩ := by kernel_rfl
theorem ti64 : ti Try.prog 64 = some ⟨1, 8, .func, .nilFunc⟩ := by kernel_rfl
theorem ti65 : ti Try.prog 65 = some ⟨1, 8, .func, .nilFunc⟩ := by kernel_rfl
theorem ti66 : ti Try.prog 66 = some ⟨1, 8, .func, .nilFunc⟩ := by kernel_rfl
theorem ti67 : ti Try.prog 67 = some ⟨1, 0, .other, .undef⟩ := by kernel_rfl
theorem ti68 : ti Try.prog 68 = some ⟨1, 8, .func, .nilFunc⟩ := by kernel_rfl
theorem ti69 : ti Try.prog 69 = some ⟨1, 8, .func, .nilFunc⟩ := by kernel_rfl
theorem ti70 : ti Try.prog 70 = some ⟨1, 8, .func, .nilFunc⟩ := by kernel_rfl
theorem ti71 : ti Try.prog 71 = some ⟨1, 8, .func, .nilFunc⟩ := by kernel_rfl
theorem ti72 : ti Try.prog 72 = some ⟨1, 8, .func, .nilFunc⟩ := by kernel_rfl
theorem ti73 : ti Try.prog 73 = some ⟨1, 8, .func, .nilFunc⟩ := by kernel_rfl
theorem ti74 : ti Try.prog 74 = some ⟨1, 8, .func, .nilFunc⟩ := by kernel_rfl
theorem ti75 : ti Try.prog 75 = some ⟨1, 0, .other, .undef⟩ := by kernel_rfl
theorem ti76 : ti Try.prog 76 = some ⟨1, 8, .func, .nilFunc⟩ := by kernel_rfl
theorem ti77 : ti Try.prog 77 = some ⟨1, 0, .other, .undef⟩ := by kernel_rfl
theorem ti78 : ti Try.prog 78 = some ⟨1, 8, .func, .nilFunc⟩ := by kernel_rfl
theorem ti79 : ti Try.prog 79 = some ⟨1, 8, .func, .nilFunc⟩ := by kernel_rfl
theorem ti80 : ti Try.prog 80 = some ⟨1, 8, (.pointer 39), .nilPtr⟩ := by kernel_rfl
theorem ti81 : ti Try.prog 81 = some ⟨1, 8, .func, .nilFunc⟩ := by kernel_rfl
theorem ti82 : ti Try.prog 82 = some ⟨1, 8, .func, .nilFunc⟩ := by kernel_rfl
theorem ti83 : ti Try.prog 83 = some ⟨1, 8, .func, .nilFunc⟩ := by kernel_rfl
theorem ti84 : ti Try.prog 84 = some ⟨1, 8, .func, .nilFunc⟩ := by kernel_rfl
theorem ti85 : ti Try.prog 85 = some ⟨1, 8, (.int .u64), (.int .u64 0)⟩ := by kernel_rfl
theorem ti86 : ti Try.prog 86 = some ⟨1, 8, .func, .nilFunc⟩ := by kernel_rfl
theorem ti87 : ti Try.prog 87 = some ⟨1, 0, .other, .undef⟩ := by kernel_rfl
theorem ti88 : ti Try.prog 88 = some ⟨1, 8, .func, .nilFunc⟩ := by kernel_rfl
theorem ti89 : ti Try.prog 89 = some ⟨1, 8, .func, .nilFunc⟩ := by kernel_rfl
theorem ti90 : ti Try.prog 90 = some ⟨1, 8, .func, .nilFunc⟩ := by kernel_rfl
theorem ti91 : ti Try.prog 91 = some ⟨1, 8, .func, .nilFunc⟩ := by kernel_rfl
theorem ti92 : ti Try.prog 92 = some ⟨1, 8, .func, .nilFunc⟩ := by kernel_rfl
theorem ti93 : ti Try.prog 93 = some ⟨1, 8, .func, .nilFunc⟩ := by kernel_rfl
theorem ti94 : ti Try.prog 94 = some ⟨1, 8, .func, .nilFunc⟩ := by kernel_rfl
theorem ti95 : ti Try.prog 95 = some ⟨1, 8, (.int .i64), (.int .i64 0)⟩ := by kernel_rfl
theorem ti96 : ti Try.prog 96 = some ⟨1, 0, .other, .undef⟩ := by kernel_rfl
theorem ti97 : ti Try.prog 97 = some ⟨1, 8, .func, .nilFunc⟩ := by kernel_rfl
theorem ti98 : ti Try.prog 98 = some ⟨1, 8, .func, .nilFunc⟩ := by kernel_rfl
theorem ti99 : ti Try.prog 99 = some ⟨1, 8, .func, .nilFunc⟩ := by kernel_rfl
theorem ti100 : ti Try.prog 100 = some ⟨1, 0, .other, .undef⟩ := by kernel_rfl
theorem ti101 : ti Try.prog 101 = some ⟨1, 8, .func, .nilFunc⟩ := by kernel_rfl
theorem ti102 : ti Try.prog 102 = some ⟨1, 8, .func, .nilFunc⟩ := by kernel_rfl
theorem ti103 : ti Try.prog 103 = some ⟨1, 4, (.int .u32), (.int .u32 0)⟩ := by kernel_rfl
theorem ti104 : ti Try.prog 104 = some ⟨1, 8, .func, .nilFunc⟩ := by kernel_rfl
theorem ti105 : ti Try.prog 105 = some ⟨1, 8, (.int .u64), (.int .u64 0)⟩ := by kernel_rfl
theorem ti106 : ti Try.prog 106 = some ⟨1, 8, .func, .nilFunc⟩ := by kernel_rfl
theorem ti107 : ti Try.prog 107 = some ⟨1, 8, .func, .nilFunc⟩ := by kernel_rfl
theorem ti108 : ti Try.prog 108 = some ⟨1, 24, (.slice 5), (.crows [])⟩ := by kernel_rfl
theorem ti109 : ti Try.prog 109 = some ⟨1, 8, .func, .nilFunc⟩ := by kernel_rfl
theorem ti110 : ti Try.prog 110 = some ⟨1, 8, (.pointer 47), .nilPtr⟩ := by kernel_rfl
theorem ti111 : ti Try.prog 111 = some ⟨1, 8, (.pointer 40), .nilPtr⟩ := by kernel_rfl
theorem ti112 : ti Try.prog 112 = some ⟨1, 8, (.pointer 114), .nilPtr⟩ := by kernel_rfl
theorem ti113 : ti Try.prog 113 = some ⟨1, 16, (.struct [(0, 9)]), (.agg [(.str ⟨#[]⟩)])⟩ := by kernel_rfl
theorem ti114 : ti Try.prog 114 = some ⟨1, 16, (.struct [(0, 9)]), (.agg [(.str ⟨#[]⟩)])⟩ := by kernel_rfl
theorem ti115 : ti Try.prog 115 = some ⟨1, 8, .func, .nilFunc⟩ := by kernel_rfl
theorem ti116 : ti Try.prog 116 = some ⟨1, 8, .func, .nilFunc⟩ := by kernel_rfl
theorem ti117 : ti Try.prog 117 = some ⟨3, 72, (.array 3 45), (.agg [(.crows []), (.crows []), (.crows [])])⟩ := by kernel_rfl
theorem ti118 : ti Try.prog 118 = some ⟨1, 8, (.int .u64), (.int .u64 0)⟩ := by kernel_rfl
theorem ti119 : ti Try.prog 119 = some ⟨1, 8, .func, .nilFunc⟩ := by kernel_rfl
theorem ti120 : ti Try.prog 120 = some ⟨1, 8, .func, .nilFunc⟩ := by kernel_rfl
theorem ti121 : ti Try.prog 121 = some ⟨1, 8, .func, .nilFunc⟩ := by kernel_rfl
theorem ti122 : ti Try.prog 122 = some ⟨1, 8, (.pointer 3), .nilPtr⟩ := by kernel_rfl
theorem ti123 : ti Try.prog 123 = some ⟨1, 8, .func, .nilFunc⟩ := by kernel_rfl
theorem ti124 : ti Try.prog 124 = some ⟨1, 8, .func, .nilFunc⟩ := by kernel_rfl
theorem ti125 : ti Try.prog 125 = some ⟨1, 8, .func, .nilFunc⟩ := by kernel_rfl
theorem ti126 : ti Try.prog 126 = some ⟨4, 4, (.array 4 5), (.agg [(.int .u8 0), (.int .u8 0), (.int .u8 0), (.int .u8 0)])⟩ := by kernel_rfl
theorem ti127 : ti Try.prog 127 = some ⟨1, 8, (.pointer 118), .nilPtr⟩ := by kernel_rfl
theorem ti128 : ti Try.prog 128 = some ⟨1, 0, .other, .undef⟩ := by kernel_rfl
theorem ti129 : ti Try.prog 129 = some ⟨1, 8, .func, .nilFunc⟩ := by kernel_rfl
theorem ti130 : ti Try.prog 130 = some ⟨1, 8, .func, .nilFunc⟩ := by kernel_rfl
theorem ti131 : ti Try.prog 131 = some ⟨1, 8, .func, .nilFunc⟩ := by kernel_rfl
theorem ti132 : ti Try.prog 132 = some ⟨1, 8, .func, .nilFunc⟩ := by kernel_rfl
theorem ti133 : ti Try.prog 133 = some ⟨1, 8, .func, .nilFunc⟩ := by kernel_rfl
theorem ti134 : ti Try.prog 134 = some ⟨4, 40, (.struct [(0, 17), (1, 17), (2, 17), (3, 9)]), (.agg [.nilPtr, .nilPtr, .nilPtr, (.str ⟨#[]⟩)])⟩ := by kernel_rfl
theorem ti135 : ti Try.prog 135 = some ⟨4, 40, (.struct [(0, 17), (1, 17), (2, 17), (3, 9)]), (.agg [.nilPtr, .nilPtr, .nilPtr, (.str ⟨#[]⟩)])⟩ := by kernel_rfl
theorem ti136 : ti Try.prog 136 = some ⟨0, 0, (.array 0 16), (.agg [])⟩ := by kernel_rfl
theorem ti137 : ti Try.prog 137 = some ⟨0, 0, (.struct [(0, 136)]), (.agg [])⟩ := by kernel_rfl
theorem ti138 : ti Try.prog 138 = some ⟨0, 0, (.struct [(0, 136)]), (.agg [])⟩ := by kernel_rfl
theorem ti139 : ti Try.prog 139 = some ⟨1, 8, .func, .nilFunc⟩ := by kernel_rfl
theorem ti140 : ti Try.prog 140 = some ⟨1, 1, (.int .u8), (.int .u8 0)⟩ := by kernel_rfl
theorem ti141 : ti Try.prog 141 = some ⟨1, 1, (.int .u8), (.int .u8 0)⟩ := by kernel_rfl
theorem ti142 : ti Try.prog 142 = some ⟨1, 8, .func, .nilFunc⟩ := by kernel_rfl
theorem ti143 : ti Try.prog 143 = some ⟨1, 8, (.pointer 5), .nilPtr⟩ := by kernel_rfl
theorem ti144 : ti Try.prog 144 = some ⟨1, 4, (.int .i32), (.int .i32 0)⟩ := by kernel_rfl
theorem ti145 : ti Try.prog 145 = some ⟨1, 4, (.int .i32), (.int .i32 0)⟩ := by kernel_rfl
theorem ti146 : ti Try.prog 146 = some ⟨11, 48, (.struct [(0, 12), (1, 12), (2, 103), (3, 140), (4, 5), (5, 5), (6, 141), (7, 142), (8, 143), (9, 144), (10, 145)]), (.agg [(.int .u64 0), (.int .u64 0), (.int .u32 0), (.int .u8 0), (.int .u8 0), (.int .u8 0), (.int .u8 0), .nilFunc, .nilPtr, (.int .i32 0), (.int .i32 0)])⟩ := by kernel_rfl
theorem ti147 : ti Try.prog 147 = some ⟨11, 48, (.struct [(0, 12), (1, 12), (2, 103), (3, 140), (4, 5), (5, 5), (6, 141), (7, 142), (8, 143), (9, 144), (10, 145)]), (.agg [(.int .u64 0), (.int .u64 0), (.int .u32 0), (.int .u8 0), (.int .u8 0), (.int .u8 0), (.int .u8 0), .nilFunc, .nilPtr, (.int .i32 0), (.int .i32 0)])⟩ := by kernel_rfl
theorem ti148 : ti Try.prog 148 = some ⟨1, 8, .other, .nilPtr⟩ := by kernel_rfl
attribute [go_sem] ti0 ti1 ti2 ti3 ti4 ti5 ti6 ti7 ti8 ti9 ti10 ti11 ti12 ti13 ti14 ti15 ti16 ti17 ti18 ti19 ti20 ti21 ti22 ti23 ti24 ti25 ti26 ti27 ti28 ti29 ti30 ti31 ti32 ti33 ti34 ti35 ti36 ti37 ti38 ti39 ti40 ti41 ti42 ti43 ti44 ti45 ti46 ti47 ti48 ti49 ti50 ti51 ti52 ti53 ti54 ti55 ti56 ti57 ti58 ti59 ti60 ti61 ti62 ti63 ti64 ti65 ti66 ti67 ti68 ti69 ti70 ti71 ti72 ti73 ti74 ti75 ti76 ti77 ti78 ti79 ti80 ti81 ti82 ti83 ti84 ti85 ti86 ti87 ti88 ti89 ti90 ti91 ti92 ti93 ti94 ti95 ti96 ti97 ti98 ti99 ti100 ti101 ti102 ti103 ti104 ti105 ti106 ti107 ti108 ti109 ti110 ti111 ti112 ti113 ti114 ti115 ti116 ti117 ti118 ti119 ti120 ti121 ti122 ti123 ti124 ti125 ti126 ti127 ti128 ti129 ti130 ti131 ti132 ti133 ti134 ti135 ti136 ti137 ti138 ti139 ti140 ti141 ti142 ti143 ti144 ti145 ti146 ti147 ti148
end Go.Proofs.Ytpncgjcflkhemaa
namespace Clk
open Go Go.Proofs Go.Shelf Go.Sort Go.RowKit Go.Lib
set_option linter.unusedVariables false
def cmpI (x y : Int) : Int := if x < y then -1 else if y < x then 1 else 0
def orI (x y : Int) : Int := if x = 0 then y else x
def cfK {α : Type} (key : α → Int × Int) (x y : α) : Int := orI (cmpI (key x).1 (key y).1) (cmpI (key x).2 (key y).2)
theorem cf_iff {α : Type} (key : α → Int × Int) (x y : α) : ltOf (cfK key) x y = true ↔ ((key x).1 < (key y).1 ∨ ((key x).1 = (key y).1 ∧ (key x).2 < (key y).2)) := by
 unfold ltOf cfK orI cmpI
 rw [decide_eq_true_iff]
 repeat' split
 all_goals (constructor <;> intro h <;> omega)
theorem cf_false {α : Type} (key : α → Int × Int) (x y : α) : ltOf (cfK key) x y = false ↔ ¬ ((key x).1 < (key y).1 ∨ ((key x).1 = (key y).1 ∧ (key x).2 < (key y).2)) := by
 rw [← cf_iff]; simp
theorem cf_swo {α : Type} (key : α → Int × Int) : SWO (ltOf (cfK key)) where
 irrefl x := by rw [cf_false]; omega
 trans x y z h1 h2 := by rw [cf_iff] at *; omega
 ntrans x y z h1 h2 := by rw [cf_false] at *; omega
theorem cf_tot {α : Type} (key : α → Int × Int) (hd : ∀ x y, key x = key y → x = y) (x y : α) (h1 : ltOf (cfK key) x y = false) (h2 : ltOf (cfK key) y x = false) : x = y := by
 rw [cf_false] at *
 exact hd x y (Prod.ext (by omega) (by omega))
theorem cf_ahead {α : Type} (key : α → Int × Int) (x y : α) : ltOf (cfK key) x y = aheadK (some (key x)) (some (key y)) := by
 rw [Bool.eq_iff_iff, cf_iff]
 simp [aheadK]
def insL {α : Type} (lt : α → α → Bool) : List α → α → List α
 | [], r => [r]
 | x :: l, r => if lt r x then r :: x :: l else x :: insL lt l r
theorem insL_perm {α : Type} (lt : α → α → Bool) : ∀ (l : List α) (r : α), (insL lt l r).Perm (r :: l)
 | [], r => List.Perm.refl _
 | x :: l, r => by
   rw [insL]
   split
   · exact List.Perm.refl _
   · exact ((insL_perm lt l r).cons x).trans (List.Perm.swap r x l)
theorem insL_sorted {α : Type} {lt : α → α → Bool} (hS : SWO lt) : ∀ (l : List α) (r : α), l.Pairwise (fun x y => lt y x = false) → (insL lt l r).Pairwise (fun x y => lt y x = false)
 | [], r, _ => by simp [insL]
 | x :: l, r, h => by
   rw [List.pairwise_cons] at h
   rw [insL]
   split
   · rename_i hlt
     refine List.pairwise_cons.2 ⟨fun y hy => ?_, List.pairwise_cons.2 h⟩
     rcases List.mem_cons.1 hy with rfl | hy
     · cases hc : lt y r with
       | false => rfl
       | true => have := hS.trans _ _ _ hc hlt; rw [hS.irrefl] at this; cases this
     · cases hc : lt y r with
       | false => rfl
       | true => have := hS.trans _ _ _ hc hlt; rw [h.1 y hy] at this; cases this
   · rename_i hlt
     refine List.pairwise_cons.2 ⟨fun y hy => ?_, insL_sorted hS l r h.2⟩
     rcases List.mem_cons.1 ((insL_perm lt l r).mem_iff.1 hy) with rfl | hy
     · simpa using hlt
     · exact h.1 y hy
theorem foldl_insL {α : Type} {lt : α → α → Bool} (hS : SWO lt) : ∀ (l acc : List α), acc.Pairwise (fun x y => lt y x = false) → (l.foldl (insL lt) acc).Pairwise (fun x y => lt y x = false) ∧ (l.foldl (insL lt) acc).Perm (l ++ acc)
 | [], acc, h => ⟨h, List.Perm.refl _⟩
 | x :: l, acc, h => by
   obtain ⟨h1, h2⟩ := foldl_insL hS l (insL lt acc x) (insL_sorted hS acc x h)
   refine ⟨h1, h2.trans ?_⟩
   exact ((insL_perm lt acc x).append_left l).trans List.perm_middle
theorem sort_eq {α : Type} [Inhabited α] {lt : α → α → Bool} (hS : SWO lt) (hT : ∀ x y, lt x y = false → lt y x = false → x = y) (d : Array α) : d.toList.mergeSort (fun x y => !lt y x) = d.toList.foldl (insL lt) [] := by
 obtain ⟨h1, h2⟩ := foldl_insL hS d.toList [] .nil
 rw [List.append_nil] at h2
 refine List.Perm.eq_of_pairwise (le := fun x y => (!lt y x) = true) ?_ ?_ ?_ ((List.mergeSort_perm _ _).trans h2.symm)
 · intro a b _ _ h3 h4
   exact hT a b (by simpa using h4) (by simpa using h3)
 · refine List.pairwise_mergeSort ?_ ?_ _
   · intro a b c h3 h4
     simp only [Bool.not_eq_true'] at *
     exact hS.ntrans _ _ _ h4 h3
   · intro a b
     cases hc : lt b a with
     | false => simp
     | true =>
       cases hc2 : lt a b with
       | false => simp
       | true => have := hS.trans _ _ _ hc hc2; rw [hS.irrefl] at this; cases this
 · exact h1.imp fun h => by simp [h]
end Clk
namespace Clk
open Go Go.Proofs Go.Shelf Go.Sort Go.RowKit Go.Lib
set_option linter.unusedVariables false
theorem rel_fn0 {w : World} {N : Nat → Prop} {β : Beta} {f : FuncId} {u : Value} (h : Rel w N β (.fn f [] []) u) : u = .func (.func f) #[] #[] := by
 cases h with
 | imm h => cases h with | fn h _ h' _ => simp at h h'; subst h; subst h'; rfl
 | fn h _ h' _ => simp at h h'; subst h; subst h'; rfl
theorem rowKey_inv {row : List AV} (h : (rowKey row).isSome = true) : ∃ p k s a b, row = [.int .i64 p, .int .i64 k, .int .i64 s, a, b] ∧ rowKey row = some (s, p) := by
 unfold rowKey at h
 split at h
 · exact ⟨_, _, _, _, _, rfl, rfl⟩
 · cases h
theorem distA_get : ∀ {l : List (List AV)}, distA l = true → (∀ (i : Nat) row, l[i]? = some row → (rowKey row).isSome = true ∧ row.all AV.leaf = true) ∧ ∀ (i j : Nat) r s, l[i]? = some r → l[j]? = some s → rowKey r = rowKey s → i = j
 | [], _ => ⟨fun i row h => by simp at h, fun i j r s h => by simp at h⟩
 | x :: l, h => by
   simp only [distA, Bool.and_eq_true] at h
   obtain ⟨h1, h2⟩ := distA_get h.2
   have hne : ∀ y ∈ l, rowKey x ≠ rowKey y := fun y hy e => by
    have := List.all_eq_true.1 h.1.2 y hy
    simp [e] at this
   refine ⟨fun i row hi => ?_, fun i j r s hi hj e => ?_⟩
   · cases i with
     | zero => simp at hi; subst hi; exact h.1.1
     | succ i => exact h1 i row (by simpa using hi)
   · cases i with
     | zero =>
       cases j with
       | zero => rfl
       | succ j =>
         simp at hi hj; subst hi
         exact absurd e (hne s (List.mem_of_getElem? hj))
     | succ i =>
       cases j with
       | zero =>
         simp at hi hj; subst hj
         exact absurd e.symm (hne r (List.mem_of_getElem? hi))
       | succ j =>
         rw [h2 i j r s (by simpa using hi) (by simpa using hj) e]
theorem size_mapBlock' (w : World) (blk : Nat) (f : Array Value → Array Value) : (mapBlock w blk f).heap.size = w.heap.size := by simp [mapBlock]
theorem mapBlock_at {w : World} {blk : Nat} {f : Array Value → Array Value} {c : Array Value} {e : TypeId} {fr : Nat × Nat} (h : w.heap[blk]? = some (.cells c e fr)) : (mapBlock w blk f).heap[blk]? = some (.cells (f c) e fr) := by
 show (w.heap.modify blk (onCells f))[blk]? = _
 rw [Array.getElem?_modify, if_pos rfl, h]; rfl
theorem mapBlock_ne {w : World} {blk r : Nat} {f : Array Value → Array Value} (h : r ≠ blk) : (mapBlock w blk f).heap[r]? = w.heap[r]? := by
 show (w.heap.modify blk (onCells f))[r]? = _
 rw [Array.getElem?_modify, if_neg fun e => h e.symm]
structure SortAt (P : Program) (f g : Nat) : Prop where
 none : ∀ (p : Option Addr) (cap : Nat) (fv : Value) (w : World), Calls P f #[.slice p 0 cap, fv] w fun e w' => e = .returned (.tuple #[]) ∧ w' = w
 sort : ∀ (m : Nat) (enc : Fin (m + 1) → List Value), (∀ x, (enc x).length = 5) → (∀ x, ∀ v ∈ enc x, v.oneCell' = true) → ∀ (cf : Fin (m + 1) → Fin (m + 1) → Int), SWO (ltOf cf) → ∀ (blk off cap : Nat) (d : Array (Fin (m + 1))) (w : World),
  CmpLays P g #[] enc 5 cf blk off d.size w → HoldsK enc 5 w blk off d → blk < w.heap.size → d.size < 4611686018427387904 → (∀ x y, (ltOf cf) x y = false → (ltOf cf) y x = false → x = y) →
  Calls P f #[.slice (some ⟨blk, off, .none⟩) d.size cap, .func (.func g) #[] #[]] w fun e w' => e = .returned (.tuple #[]) ∧ ∃ n os, w' = sortWorldK enc 5 w blk off n (d.toList.mergeSort fun x y => !(ltOf cf) y x).toArray os
 cmp : ∀ (p k s : Int) (u v : Value) (p' k' s' : Int) (u' v' : Value), u.oneCell' = true → v.oneCell' = true → u'.oneCell' = true → v'.oneCell' = true → ∀ W : World,
  Calls P g #[.agg #[.int .i64 p, .int .i64 k, .int .i64 s, u, v], .agg #[.int .i64 p', .int .i64 k', .int .i64 s', u', v']] W fun e w' => e = .returned (.int .i64 (orI (cmpI s s') (cmpI p p'))) ∧ ∃ q os', w' = grow (W.drewN q) os'
theorem sort_prim {P : Program} {f g : Nat} (S : SortAt P f g) : ∀ args H v ch, sortA g H.length args H = some (v, ch) → ∀ (w : World) (X : Nat → Prop) (β : Beta) (vs : Array Value), HRel w X β H → ARel w (NN X β H) β args vs → CallsIn (WF none) 0 P f vs w (Ends w X β H v (applyCh H ch)) := by
 intro args H v ch h w X β vs hr ha
 have stay : ∀ (p : Option Addr) (cap : Nat) (fv : Value), CallsIn (WF none) 0 P f #[.slice p 0 cap, fv] w (Ends w X β H (.tup []) H) := fun p cap fv =>
  callsIn_wide.2 ((S.none p cap fv w).mono fun e w' ⟨h1, h2⟩ => by
   subst h2
   exact ⟨.tuple #[], β, h1, Post.refl hr, .imm (.tup rfl fun i a v h => by simp at h)⟩)
 unfold sortA at h
 split at h
 · rename_i x f'
   split at h
   · rename_i hf; subst hf
     obtain ⟨hs, hc⟩ := ha
     obtain ⟨u0, u1, rfl⟩ : ∃ u0 u1, vs = #[u0, u1] := by
      obtain ⟨l⟩ := vs
      match l, hs with
      | [a, b], _ => exact ⟨a, b, rfl⟩
     have r0 := hc 0 x u0 rfl rfl
     have r1 := rel_fn0 (hc 1 _ u1 rfl rfl)
     subst r1
     split at h
     · cases h
       cases r0 with | imm r0 => cases r0 with
        | crows hk ha' hu hr' => exact stay _ _ _
     · rename_i b vv n
       split at h
       · rename_i k v' rows hH
         split at h
         · rename_i hcond
           obtain ⟨rfl, rfl, rfl, hdist, hlen⟩ := hcond
           cases h
           cases r0 with
           | imm r0 => cases r0
           | @ref _ _ _ _ c bi a hb hv hc' hcur =>
             have hbl : b < H.length := by
              rcases Nat.lt_or_ge b H.length with h | h
              · exact h
              · rw [List.getD_eq_getElem?_getD, List.getElem?_eq_none h] at hH; cases hH
             have hob := hr.obj b bi hb
             rw [hH] at hob
             obtain ⟨hbk, hbv, _, _, cs, T, hcs, hfit, hrow, hcell⟩ := hob
             cases hn : rows.length with
             | zero =>
               have hnil : rows = [] := List.eq_nil_of_length_eq_zero hn
               subst hnil
               have : applyCh H (some (b, .blk 5 vv true (List.foldl insA [] []))) = H := by
                show (if b < H.length then H.set b _ else _) = H
                rw [if_pos hbl]
                exact set_same hH
               rw [this]
               exact stay _ _ _
             | succ m =>
               obtain ⟨ha0, _⟩ := hcur hbv.symm
               have ha1 := ha0 (by omega)
               rw [Nat.zero_mul] at ha1
               subst ha1
               obtain ⟨d1, d2⟩ := distA_get hdist
               let row := fun i : Fin (m + 1) => rows.getD i.val []
               have hrowi : ∀ i : Fin (m + 1), rows[i.val]? = some (row i) := fun i => by
                have : i.val < rows.length := by rw [hn]; exact i.isLt
                simp only [row, List.getD_eq_getElem?_getD, List.getElem?_eq_getElem this]; rfl
               let enc := fun i : Fin (m + 1) => (List.range 5).map fun j => cs[i.val * 5 + j]!
               let key := fun i : Fin (m + 1) => (rowKey (row i)).getD (0, 0)
               have hin : ∀ (i : Fin (m + 1)) j, j < 5 → cs[i.val * 5 + j]? = some cs[i.val * 5 + j]! := fun i j hj => by
                have hlt : i.val * 5 + j < cs.size := by have := i.isLt; rw [hn] at hfit; omega
                rw [Array.getElem?_eq_getElem hlt, getElem!_pos cs _ hlt]
               have hkey : ∀ i : Fin (m + 1), rowKey (row i) = some (key i) := fun i => by
                have := (d1 i.val (row i) (hrowi i)).1
                obtain ⟨x, hx⟩ := Option.isSome_iff_exists.1 this
                simp only [key, hx]; rfl
               have hinv : ∀ i : Fin (m + 1), ∃ k a b, row i = [.int .i64 (key i).2, .int .i64 k, .int .i64 (key i).1, a, b] := fun i => by
                obtain ⟨p, k, s, a, b, e1, e2⟩ := rowKey_inv (d1 i.val (row i) (hrowi i)).1
                rw [hkey i] at e2
                injection e2 with e2
                exact ⟨k, a, b, by rw [e1, e2]⟩
               have hrel : ∀ (i : Fin (m + 1)) j x, (row i)[j]? = some x → Rel w (NN X β H) β x cs[i.val * 5 + j]! := fun i j x hx => by
                have hj : j < 5 := by have := (List.getElem?_eq_some_iff.1 hx).1; rw [hrow _ _ (hrowi i)] at this; exact this
                exact hcell i.val (row i) j x _ (hrowi i) hx (hin i j hj)
               have hone : ∀ (i : Fin (m + 1)) j, j < 5 → (cs[i.val * 5 + j]!).oneCell' = true := fun i j hj => by
                have hl := hrow _ _ (hrowi i)
                have hx := List.getElem?_eq_getElem (show j < (row i).length by rw [hl]; exact hj)
                exact (leaf_cells (hrel i j _ hx) (List.all_eq_true.1 (d1 i.val (row i) (hrowi i)).2 _ (List.getElem_mem _))).1
               have henc : ∀ i : Fin (m + 1), ∃ k, enc i = [.int .i64 (key i).2, .int .i64 k, .int .i64 (key i).1, cs[i.val * 5 + 3]!, cs[i.val * 5 + 4]!] := fun i => by
                obtain ⟨k, a, b, e⟩ := hinv i
                refine ⟨k, ?_⟩
                have e0 := rel_int (hrel i 0 _ (by rw [e]; rfl))
                have e1 := rel_int (hrel i 1 _ (by rw [e]; rfl))
                have e2 := rel_int (hrel i 2 _ (by rw [e]; rfl))
                show [cs[i.val * 5 + 0]!, cs[i.val * 5 + 1]!, cs[i.val * 5 + 2]!, cs[i.val * 5 + 3]!, cs[i.val * 5 + 4]!] = _
                rw [e0, e1, e2]
               have hdk : ∀ x y : Fin (m + 1), key x = key y → x = y := fun x y e => Fin.ext (d2 x.val y.val _ _ (hrowi x) (hrowi y) (by rw [hkey, hkey, e]))
               let d : Array (Fin (m + 1)) := Array.ofFn fun i => i
               have hds : d.size = m + 1 := by simp [d]
               have hblk : bi.r < w.heap.size := (Array.getElem?_eq_some_iff.1 hcs).1
               have hH5 : HoldsK enc 5 w bi.r 0 d := by
                intro j hj
                have hj' : j < (m + 1) * 5 := by simpa [hds] using hj
                have hjd : j / 5 < m + 1 := by omega
                have hlt : j < cs.size := by rw [hn] at hfit; omega
                have hjm : j % 5 < 5 := Nat.mod_lt _ (by omega)
                have e5 : (flatK enc 5 d)[j]! = cs[j]! := by
                 rw [get_flatK enc 5 d j (by rw [hds]; exact hj')]
                 have : d[j / 5]! = (⟨j / 5, hjd⟩ : Fin (m + 1)) := by
                  rw [getElem!_pos d _ (by rw [hds]; exact hjd)]; simp [d]
                 rw [this]
                 show ((List.range 5).map fun q => cs[j / 5 * 5 + q]!)[j % 5]! = _
                 rw [getElem!_pos _ _ (by simpa using hjm)]
                 simp only [List.getElem_map, List.getElem_range]
                 rw [show j / 5 * 5 + j % 5 = j by omega]
                rw [e5, Nat.zero_add]
                refine ⟨?_, ?_⟩
                · unfold World.cell?
                  rw [hcs]
                  show cs[j]? = _
                  rw [Array.getElem?_eq_getElem hlt, getElem!_pos cs _ hlt]; rfl
                · unfold World.frozen?
                  rw [hcs]
                  simp
               have hcmp : CmpLays P f' #[] enc 5 (cfK key) bi.r 0 d.size w := fun mm os dk hsz x y => by
                obtain ⟨k, ex⟩ := henc x
                obtain ⟨k', ey⟩ := henc y
                have := S.cmp (key x).2 k (key x).1 _ _ (key y).2 k' (key y).1 _ _ (hone x 3 (by omega)) (hone x 4 (by omega)) (hone y 3 (by omega)) (hone y 4 (by omega)) (sortWorldK enc 5 w bi.r 0 mm dk os)
                rw [ex, ey]
                exact this
               have call := S.sort m enc (fun x => by simp [enc]) (fun x v hv => by
                obtain ⟨j, hj, rfl⟩ := List.mem_map.1 hv
                exact hone x j (List.mem_range.1 hj)) (cfK key) (cf_swo key) bi.r 0 c d w hcmp hH5 hblk (by rw [hds]; omega) (cf_tot key hdk)
               rw [hds] at call
               refine callsIn_wide.2 (call.mono fun e w' ⟨he, q, os, hw⟩ => ?_)
               rw [sort_eq (cf_swo key) (cf_tot key hdk)] at hw
               generalize hl : d.toList.foldl (insL (ltOf (cfK key))) [] = l at hw
               have hlp : l.Perm d.toList := by
                have := (foldl_insL (cf_swo key) d.toList [] .nil).2
                rw [List.append_nil, hl] at this; exact this
               have hll : l.length = m + 1 := by rw [hlp.length_eq]; simp [d]
               have hrows : rows.foldl insA [] = l.map row := by
                have h1 : rows = d.toList.map row := by
                 apply List.ext_getElem?
                 intro i
                 simp only [d, Array.toList_ofFn, List.getElem?_map, List.getElem?_ofFn]
                 by_cases hi : i < m + 1
                 · rw [dif_pos hi]; exact hrowi ⟨i, hi⟩
                 · rw [dif_neg hi, List.getElem?_eq_none (by omega)]; rfl
                have h2 : ∀ (a b : List (Fin (m + 1))), (a.map row).foldl insA (b.map row) = (a.foldl (insL (ltOf (cfK key))) b).map row := by
                 intro a
                 induction a with
                 | nil => intro b; rfl
                 | cons x a ih =>
                   intro b
                   rw [List.map_cons, List.foldl_cons, List.foldl_cons, ← ih]
                   congr 1
                   exact (insA_map (f := row) (ins := insL (ltOf (cfK key))) (ah := ltOf (cfK key)) (fun _ => rfl) (fun _ _ _ => rfl) (fun a b => by rw [cf_ahead, hkey, hkey]) b x).symm
                rw [← hl]
                have := h2 d.toList []
                rw [← h1] at this
                exact this
               have hat : (Sort.ahead w q).heap[bi.r]? = some (.cells cs T (0, 0)) := hcs
               let cs' := putCells id 0 (flatK enc 5 l.toArray) cs
               have hget : ∀ (i j : Nat) (x : Fin (m + 1)), l[i]? = some x → j < 5 → cs'[i * 5 + j]? = some cs[x.val * 5 + j]! := fun i j x hx hj => by
                have hi : i < m + 1 := by have := (List.getElem?_eq_some_iff.1 hx).1; omega
                have hlt : i * 5 + j < cs.size := by rw [hn] at hfit; omega
                have hlt2 : i * 5 + j < (m + 1) * 5 := by omega
                simp only [cs', putCells, Array.getElem?_mapIdx, Array.getElem?_eq_getElem hlt, Option.map_some, size_flatK, List.size_toArray, hll]
                rw [if_pos ⟨Nat.zero_le _, by omega⟩, Nat.sub_zero, get_flatK enc 5 l.toArray _ (by simpa [hll] using hlt2), show (i * 5 + j) / 5 = i by omega, show (i * 5 + j) % 5 = j by omega]
                have : l.toArray[i]! = x := by
                 have hil : i < l.toArray.size := by simpa [hll] using hi
                 rw [getElem!_pos l.toArray i hil]
                 have h9 := (List.getElem?_eq_some_iff.1 hx).2
                 simpa using h9
                rw [this]
                show some (((List.range 5).map fun q => cs[x.val * 5 + q]!)[j]!) = _
                rw [getElem!_pos ((List.range 5).map fun q => cs[x.val * 5 + q]!) j (by simpa using hj)]
                simp
               have wr := hr.write (w' := putRowK enc 5 (Sort.ahead w q) bi.r 0 l.toArray) (rows' := rows.foldl insA []) (cs' := cs') hb hH rfl rfl rfl (size_mapBlock' _ _ _) hcs (mapBlock_at hat) (fun r hne => mapBlock_ne hne) (by simp [cs', putCells]) (by rw [hrows]; simp [hll]; rw [hn] at hfit; omega)
                (fun i rw' hi => by
                  rw [hrows, List.getElem?_map, Option.map_eq_some_iff] at hi
                  obtain ⟨x, hx, rfl⟩ := hi
                  exact hrow _ _ (hrowi x))
                (fun i rw' j y u hi hj hu => by
                  rw [hrows, List.getElem?_map, Option.map_eq_some_iff] at hi
                  obtain ⟨x, hx, rfl⟩ := hi
                  have hj5 : j < 5 := by have := (List.getElem?_eq_some_iff.1 hj).1; rw [hrow _ _ (hrowi x)] at this; exact this
                  rw [hget i j x hx hj5] at hu
                  cases hu
                  exact hrel x j y hj)
               obtain ⟨wr1, wr2⟩ := wr
               obtain ⟨g1, g2⟩ := wr1.ext (w' := w') (by rw [hw]; show _ ≤ (_ ++ os).size; rw [Array.size_append]; exact Nat.le_add_right _ _) (fun r hlt => by
                rw [hw]
                show ((putRowK enc 5 (Sort.ahead w q) bi.r 0 l.toArray).heap ++ os)[r]? = _
                rw [Array.getElem?_append_left hlt]) (by rw [hw]; rfl) (by rw [hw]; rfl) (by rw [hw]; rfl)
               have hap : applyCh H (some (b, .blk 5 vv true (rows.foldl insA []))) = H.set b (.blk 5 vv true (rows.foldl insA [])) := by
                show (if b < H.length then H.set b _ else _) = _
                rw [if_pos hbl]
               rw [hap]
               exact ⟨.tuple #[], β, he, ⟨g1, wr2.trans g2, fun _ _ h => h, by simp⟩, .imm (.tup rfl fun i a v h => by simp at h)⟩
         · cases h
       · cases h
     · cases h
   · cases h
 · cases h
end Clk
namespace Go.Proofs
open Go.Shelf
def Try.sortL_ren : Go.Shelf.Ren := ⟨fun | 6 => 24 | 15 => 38 | 14 => 37 | 28 => 55 | 29 => 56 | 20 => 47 | 21 => 48 | 22 => 49 | 23 => 50 | 24 => 51 | 25 => 52 | 26 => 53 | 27 => 54 | 46 => 67 | 47 => 68 | 48 => 69 | 49 => 70 | 50 => 71 | 57 => 79 | n => n, fun | 22 => 35 | 24 => 49 | 25 => 71 | 3 => 3 | 39 => 85 | 0 => 0 | 53 => 103 | 55 => 105 | 4 => 4 | 46 => 96 | 45 => 95 | 50 => 100 | 5 => 5 | 9 => 9 | 66 => 118 | 70 => 122 | 76 => 127 | 77 => 128 | n => n, fun | n => n⟩
theorem Try.sortL : Go.Proofs.SlLaysF0.n6 Try.prog Try.sortL_ren := {
 mixed := by kernel_rfl
 f6 := ⟨Try.f24.name, by decide, Try.func24.trans (congrArg some (by kernel_rfl))⟩
 f14 := ⟨Try.f37.name, by decide, Try.func37.trans (congrArg some (by kernel_rfl))⟩
 f15 := Try.func38.trans (congrArg some (by kernel_rfl))
 f20 := ⟨Try.f47.name, by decide, Try.func47.trans (congrArg some (by kernel_rfl))⟩
 f21 := ⟨Try.f48.name, by decide, Try.func48.trans (congrArg some (by kernel_rfl))⟩
 f22 := ⟨Try.f49.name, by decide, Try.func49.trans (congrArg some (by kernel_rfl))⟩
 f23 := ⟨Try.f50.name, by decide, Try.func50.trans (congrArg some (by kernel_rfl))⟩
 f24 := ⟨Try.f51.name, by decide, Try.func51.trans (congrArg some (by kernel_rfl))⟩
 f25 := ⟨Try.f52.name, by decide, Try.func52.trans (congrArg some (by kernel_rfl))⟩
 f26 := ⟨Try.f53.name, by decide, Try.func53.trans (congrArg some (by kernel_rfl))⟩
 f27 := ⟨Try.f54.name, by decide, Try.func54.trans (congrArg some (by kernel_rfl))⟩
 f28 := Try.func55.trans (congrArg some (by kernel_rfl))
 f29 := Try.func56.trans (congrArg some (by kernel_rfl))
 f46 := ⟨Try.f67.name, by decide, Try.func67.trans (congrArg some (by kernel_rfl))⟩
 f47 := Try.func68.trans (congrArg some (by kernel_rfl))
 f48 := Try.func69.trans (congrArg some (by kernel_rfl))
 f49 := ⟨Try.f70.name, by decide, Try.func70.trans (congrArg some (by kernel_rfl))⟩
 f50 := ⟨Try.f71.name, by decide, Try.func71.trans (congrArg some (by kernel_rfl))⟩
 f57 := ⟨Try.f79.name, by decide, Try.func79.trans (congrArg some (by kernel_rfl))⟩
 t0 := Try.underlying0
 a0 := Try.isAgg0
 z0 := Try.sizeOf0
 v0 := Try.zeroValue0
 t3 := Try.underlying3
 a3 := Try.isAgg3
 z3 := Try.sizeOf3
 v3 := Try.zeroValue3
 t4 := Try.underlying4
 a4 := Try.isAgg4
 z4 := Try.sizeOf4
 v4 := Try.zeroValue4
 t5 := Try.underlying5
 a5 := Try.isAgg5
 z5 := Try.sizeOf5
 v5 := Try.zeroValue5
 t9 := Try.underlying9
 a9 := Try.isAgg9
 z9 := Try.sizeOf9
 v9 := Try.zeroValue9
 t22 := Try.underlying35
 a22 := Try.isAgg35
 z22 := Try.sizeOf35
 v22 := Try.zeroValue35
 t25 := Try.underlying71
 a25 := Try.isAgg71
 z25 := Try.sizeOf71
 v25 := Try.zeroValue71
 t39 := Try.underlying85
 a39 := Try.isAgg85
 z39 := Try.sizeOf85
 v39 := Try.zeroValue85
 t45 := Try.underlying95
 a45 := Try.isAgg95
 z45 := Try.sizeOf95
 v45 := Try.zeroValue95
 t46 := Try.underlying96
 a46 := Try.isAgg96
 z46 := Try.sizeOf96
 v46 := Try.zeroValue96
 t50 := Try.underlying100
 a50 := Try.isAgg100
 z50 := Try.sizeOf100
 v50 := Try.zeroValue100
 t53 := Try.underlying103
 a53 := Try.isAgg103
 z53 := Try.sizeOf103
 v53 := Try.zeroValue103
 t55 := Try.underlying105
 a55 := Try.isAgg105
 z55 := Try.sizeOf105
 v55 := Try.zeroValue105
 t66 := Try.underlying118
 a66 := Try.isAgg118
 z66 := Try.sizeOf118
 v66 := Try.zeroValue118
 t70 := Try.underlying122
 a70 := Try.isAgg122
 z70 := Try.sizeOf122
 v70 := Try.zeroValue122
 t76 := Try.underlying127
 a76 := Try.isAgg127
 z76 := Try.sizeOf127
 v76 := Try.zeroValue127
 t77 := Try.underlying128
 a77 := Try.isAgg128
 z77 := Try.sizeOf128
 v77 := Try.zeroValue128 }
end Go.Proofs
namespace Go.Proofs.Ytpncgjcflkhemaa
open Clk Go Go.Proofs Go.Shelf Go.RowKit Go.Lib Go.Sort
theorem nan39 (x : Int) (W : World) : Calls Try.prog 39 #[.int .i64 x] W fun e w' => e = .returned (.bool false) ∧ w' = W := by
 go_enter Try.func39, Try.ntmps39
 go_wp2
 go_ret
 simp
set_option maxHeartbeats 1000000 in
theorem cmp27 (x y : Int) (W : World) : Calls Try.prog 27 #[.int .i64 x, .int .i64 y] W fun e w' => e = .returned (.int .i64 (cmpI x y)) ∧ w' = W := by
 have hn := nan39
 unfold cmpI
 go_enter Try.func27, Try.ntmps27
 go_wp2_with (go_at_call 39; refine (hn _ _).mono ?_; rintro e w' ⟨rfl, rfl⟩)
 all_goals go_ret
 all_goals refine ⟨?_, rfl⟩
 all_goals first
  | rfl
  | rw [if_pos (by assumption)]
  | rw [if_neg (by omega), if_pos (by assumption)]
  | rw [if_neg (by omega), if_neg (by omega)]
set_option maxHeartbeats 2000000 in
theorem or26 (b o c : Nat) (x y : Int) (W : World) (h0 : W.cell? ⟨b, o, none⟩ = some (.int .i64 x)) (h1 : W.cell? ⟨b, o + 1, none⟩ = some (.int .i64 y)) :
 Calls Try.prog 26 #[.slice (some ⟨b, o, none⟩) 2 c] W fun e w' => e = .returned (.int .i64 (orI x y)) ∧ w' = W := by
 by_cases hx : x = 0
 · subst hx
   have e : orI 0 y = y := rfl
   rw [e]
   go_enter Try.func26, Try.ntmps26
   go_wp2
   refine wp_loop_rounds 3 ?_
   rw [rounds_succ]
   go_wp2
   all_goals rw [rounds_succ]
   go_wp2
   all_goals try (go_ret; exact ⟨rfl, rfl⟩)
   rename_i hy
   have hy : y = 0 := by simpa using hy
   subst hy
   rw [rounds_succ]
   go_wp2
   go_ret
   exact ⟨rfl, rfl⟩
 · have e : orI x y = x := if_neg hx
   rw [e]
   have hx2 : (x != 0) = true := by simpa using hx
   go_enter Try.func26, Try.ntmps26
   go_wp2
   refine wp_loop_rounds 3 ?_
   rw [rounds_succ]
   go_wp2
   all_goals try (go_ret; exact ⟨rfl, rfl⟩)
theorem cell_push1 {W W3 : World} {o1 o2 : Obj} {c1 : Array Value} {t1 : TypeId} {fz : Nat × Nat} (h : W3.heap = (W.heap.push o1).push o2) (e : o1 = .cells c1 t1 fz) (i : Nat) : W3.cell? ⟨W.heap.size, i, none⟩ = c1[i]? := by
 subst e
 have : W3.heap[W.heap.size]? = some (.cells c1 t1 fz) := by rw [h, Array.getElem?_push, if_neg (by simp), Array.getElem?_push, if_pos rfl]
 unfold World.cell?
 rw [this]
 rfl
theorem cell_push2 {W W3 : World} {o1 o2 : Obj} {c1 : Array Value} {t1 : TypeId} {fz : Nat × Nat} (h : W3.heap = (W.heap.push o1).push o2) (e : o2 = .cells c1 t1 fz) (i : Nat) : W3.cell? ⟨W.heap.size + 1, i, none⟩ = c1[i]? := by
 subst e
 have : W3.heap[W.heap.size + 1]? = some (.cells c1 t1 fz) := by rw [h, Array.getElem?_push, if_pos (by simp)]
 unfold World.cell?
 rw [this]
 rfl
theorem or26n (x y : Int) (W : World) : Calls Try.prog 26 #[.slice (some ⟨W.heap.size, 0, none⟩) 2 2] (W.alloc (.cells #[.int .i64 x, .int .i64 y] 3)) fun e w' => e = .returned (.int .i64 (orI x y)) ∧ w' = W.alloc (.cells #[.int .i64 x, .int .i64 y] 3) := by
 have h : (W.alloc (.cells #[.int .i64 x, .int .i64 y] 3)).heap[W.heap.size]? = some (.cells #[.int .i64 x, .int .i64 y] 3) := by
  show (W.heap.push _)[W.heap.size]? = _
  rw [Array.getElem?_push, if_pos rfl]
 exact or26 W.heap.size 0 2 x y _ (by unfold World.cell?; rw [h]; rfl) (by unfold World.cell?; rw [h]; rfl)
set_option maxHeartbeats 4000000 in
set_option maxRecDepth 100000 in
theorem cmp25 (p k s : Int) (u v : Value) (p' k' s' : Int) (u' v' : Value) (hu : u.oneCell' = true) (hv : v.oneCell' = true) (hu' : u'.oneCell' = true) (hv' : v'.oneCell' = true) (W : World) :
 Calls Try.prog 25 #[.agg #[.int .i64 p, .int .i64 k, .int .i64 s, u, v], .agg #[.int .i64 p', .int .i64 k', .int .i64 s', u', v']] W fun e w' => e = .returned (.int .i64 (orI (cmpI s s') (cmpI p p'))) ∧ ∃ q os', w' = grow (W.drewN q) os' := by
 have hc := cmp27
 have ho := or26n
 go_enter Try.func25, Try.ntmps25
 go_wp2
 refine wp_region_still_tail 12 (by kernel_rfl) (by kernel_rfl) ?_
 simp only [List.take_succ_cons, List.take_zero, List.drop_succ_cons, List.drop_zero]
 generalize hW3 : ({ (W.alloc _).alloc _ with drawn := _ } : World) = W3
 have hh : W3.heap = (W.heap.push (.cells #[.int .i64 p, .int .i64 k, .int .i64 s, u, v] 49)).push (.cells #[.int .i64 p', .int .i64 k', .int .i64 s', u', v'] 49) := by rw [← hW3]; rfl
 have hq : W3 = grow (W.drewN 1) #[.cells #[.int .i64 p, .int .i64 k, .int .i64 s, u, v] 49, .cells #[.int .i64 p', .int .i64 k', .int .i64 s', u', v'] 49] := by rw [← hW3]; rfl
 have f1 : W3.cell? ⟨W.heap.size, 2, none⟩ = some (.int .i64 s) := cell_push1 hh rfl 2
 have f2 : W3.cell? ⟨W.heap.size, 0, none⟩ = some (.int .i64 p) := cell_push1 hh rfl 0
 have f3 : W3.cell? ⟨W.heap.size + 1, 2, none⟩ = some (.int .i64 s') := cell_push2 hh rfl 2
 have f4 : W3.cell? ⟨W.heap.size + 1, 0, none⟩ = some (.int .i64 p') := cell_push2 hh rfl 0
 have hg : ∃ os, W3 = grow (W.drewN 1) os := ⟨_, hq⟩
 clear hW3 hh hq
 repeat still_step
 still_call (hc _ _ _)
 repeat still_step
 still_call (hc _ _ _)
 refine wpStill_nil ?_
 go_wp2_with (go_at_call 26; refine (ho _ _ _).mono ?_; rintro e w' ⟨rfl, rfl⟩)
 obtain ⟨os, rfl⟩ := hg
 go_ret
 exact ⟨rfl, 1, os ++ #[.cells #[.int .i64 (cmpI s s'), .int .i64 (cmpI p p')] 3], by rw [alloc_eq_grow, grow_grow]⟩
theorem sortAt : SortAt Try.prog 24 25 where
 none p cap fv w := AnyF.slices_SortFunc_none (P := Try.prog) (ρ := Try.sortL_ren) Try.sortL p cap fv w
 sort m enc hk h1 cf hO blk off cap d w hcmp hH hblk hsz hT := AnyQ.slices_SortFunc_total Try.sortL 5 Try.isAgg49 Try.sizeOf49 enc hk h1 cf hO 25 #[] blk off cap d w (enters_of Try.func25 (by kernel_rfl) rfl) hcmp hH hblk hsz hT
 cmp := cmp25
end Go.Proofs.Ytpncgjcflkhemaa
namespace Go.Proofs.Ytpncgjcflkhemaa
open Go Go.Proofs Clk
set_option maxRecDepth 100000
theorem newRows_of {H : List AO} {te : TI} {x : AV} {rs : List (List AV)} (h : rowsOf H x = some rs) : newRows H te x = some rs := by
 cases x <;> first | exact h | (simp [rowsOf] at h)
theorem good : Clk.Good Try.prog := ⟨by kernel_rfl, fun f fn h hn => by
 have : Try.prog.funcs.all (fun fn => fn.name != "runtime.NumGoroutine") = true := by kernel_rfl
 rw [Array.all_eq_true] at this
 obtain ⟨hi, h'⟩ := Array.getElem?_eq_some_iff.1 h
 have := this f hi
 rw [h', hn] at this
 simp at this⟩
theorem clone74 : ∀ args H v ch, cloneA 1 8 H.length args H = some (v, ch) → ∀ (w : World) (X : Nat → Prop) (β : Beta) (vs : Array Value), HRel w X β H → ARel w (NN X β H) β args vs → CallsIn (WF none) 0 Try.prog 74 vs w (Clk.Ends w X β H v (applyCh H ch)) := by
 refine clone_gen good Try.func74 (by rfl) (by rfl) (by rfl) (by rfl) (by rfl) (by rfl) (by rfl) (by rfl) (by rfl) Try.underlying45 (fun x H => ⟨20, ?_⟩) (fun x H => ⟨20, ?_⟩) (fun x H v ch h => ?_)
 · simp (config := {dsimp := false}) only [go_sem]
 · simp (config := {dsimp := false}) only [go_sem]
 · unfold cloneA at h
   simp only at h
   split at h
   · rename_i hrs
     cases h
     have hnr : ∀ te, newRows H te x = some [] := fun te => newRows_of hrs
     refine ⟨20, ?_⟩
     simp (config := {dsimp := false}) only [go_sem, hnr, reduceIte, Nat.reduceEqDiff, reduceCtorEq, Nat.zero_mul, Nat.not_lt_zero, gt_iff_lt, or_self, Nat.zero_le]
     refine ⟨_, rfl, ?_⟩
     rfl
   · rename_i rs hne hrs
     split at h
     · rename_i hc
       cases h
       simp only [Bool.and_eq_true, decide_eq_true_eq] at hc
       have hnr : ∀ te, newRows H te x = some rs := fun te => newRows_of hrs
       have h1 : ¬ (maxBytes < rs.length * 8) := Nat.not_lt.2 hc.1.2
       have h2 : ¬ (maxBytes < rs.length) := Nat.not_lt.2 hc.2
       have h3 : rs.all (fun r => r.length == 1) = true := hc.1.1
       have h4 : rs.length ≠ 0 := fun e => hne (List.eq_nil_of_length_eq_zero e)
       refine ⟨20, ?_⟩
       simp (config := {dsimp := false}) only [go_sem, hnr, reduceIte, Nat.reduceEqDiff, reduceCtorEq, gt_iff_lt, h1, h2, h3, h4, or_self, Bool.and_self]
       refine ⟨_, rfl, ?_⟩
       rfl
     · cases h
   · cases h
def primW : FuncId → Option (Nat → List AV → List AO → Res) := fun f => if f = 74 then some (cloneA 1 8) else if f = 24 then some (sortA 25) else none
theorem primW_ok : PrimOk Try.prog primW := by
 intro f h e
 unfold primW at e
 split at e
 · rename_i hf; subst hf; cases e
   exact ⟨⟨_, Try.func74, by rfl⟩, clone74⟩
 · split at e
   · rename_i hf; subst hf; cases e
     exact ⟨⟨_, Try.func24, by rfl⟩, sort_prim sortAt⟩
   · cases e
end Go.Proofs.Ytpncgjcflkhemaa
namespace Go.Proofs.Ytpncgjcflkhemaa
open Clk Go.Proofs
theorem prim_eq : seat.prim = primW := by
 funext f
 by_cases h : f < 103
 · have key : (List.range 103).map seat.prim = (List.range 103).map primW := by kernel_rfl
   have := congrArg (fun l => l[f]?) key
   simp only [List.getElem?_map, List.getElem?_range h, Option.map_some] at this
   exact Option.some.inj this
 · have h' : 103 ≤ f := Nat.le_of_not_lt h
   have hl : seat.cl.length = 103 := by kernel_rfl
   have h1 : seat.cl.length ≤ f := Nat.le_trans (Nat.le_of_eq hl) h'
   have n1 : f ≠ 74 := fun e => absurd (e ▸ h') (by decide)
   have n2 : f ≠ 24 := fun e => absurd (e ▸ h') (by decide)
   unfold Seat.prim primW
   rw [List.getD_eq_getElem?_getD, List.getElem?_eq_none h1, if_neg n1, if_neg n2]
   rfl
theorem primOk : PrimOk Try.prog seat.prim := by rw [prim_eq]; exact primW_ok
end Go.Proofs.Ytpncgjcflkhemaa
namespace Go.Proofs.Ytpncgjcflkhemaa
open Clk Go Go.Proofs
set_option linter.unusedVariables false
theorem str_cell {W : World} {b : Nat} {s : ByteArray} {t : TypeId} (h : W.heap[b]? = some (.cells #[.string s] t (0, 0))) : W.cell? ⟨b, 0, none⟩ = some (.string s) ∧ W.frozen? ⟨b, 0, none⟩ = false := by
 constructor
 · unfold World.cell?; rw [h]; rfl
 · unfold World.frozen?; rw [h]; simp
set_option maxHeartbeats 1000000 in
theorem take_ok {U : Str → Option (List Int × Str × Int)} (hU : UnpackAt Try.prog 73 U) {s r : Str} {l : List Int} (h : U s = some (l, r, 0)) (b : Nat) (t : TypeId) (w : World) (N : Nat → Prop) (hN : ∀ x, N x → x < w.heap.size) (hb : w.heap[b]? = some (.cells #[.string ⟨s.toArray⟩] t (0, 0))) (hNb : N b) :
 Calls Try.prog 61 #[.pointer (some ⟨b, 0, none⟩)] w fun en w' => ∃ v, en = .returned v ∧ Gr (fun x => x = b) w w' ∧ RelI w' N (eInts l) v ∧ w'.heap[b]? = some (.cells #[.string ⟨r.toArray⟩] t (0, 0)) := by
 obtain ⟨c1, c2⟩ := str_cell hb
 have hc := hU s l r 0 h w N hN
 have hbl : b < w.heap.size := (Array.getElem?_eq_some_iff.1 hb).1
 go_enter Try.func61, Try.ntmps61
 go_wp2_with (go_at_call 73; refine hc.mono ?_; rintro e w' ⟨v, rfl, hg, hv⟩; obtain ⟨c3, c4⟩ := str_cell ((hg.same b hbl id).trans hb))
 go_ret
 have hs := (hg.wider (L' := fun x => x = b) fun _ h => h.elim).trans (Gr.setCell (L := fun x => x = b) w' b 0 (.string ⟨r.toArray⟩) rfl)
 refine ⟨v, rfl, hs, (Gr.setCell (L := fun x => x = b) w' b 0 (.string ⟨r.toArray⟩) rfl).rel' (fun x e => by subst e; exact hNb) hv, ?_⟩
 rw [heap_setCell, if_pos rfl, (hg.same b hbl id).trans hb]
 rfl
set_option maxHeartbeats 1000000 in
theorem take_bad {U : Str → Option (List Int × Str × Int)} (hU : UnpackAt Try.prog 73 U) {s r : Str} {l : List Int} {e : Int} (h : U s = some (l, r, e)) (he : e ≠ 0) (b : Nat) (t : TypeId) (w : World) (hb : w.heap[b]? = some (.cells #[.string ⟨s.toArray⟩] t (0, 0))) :
 Calls Try.prog 61 #[.pointer (some ⟨b, 0, none⟩)] w fun en w' => en = .panicked [{ v := .iface 40 (.int .i64 30), recovered := false }] ∧ Gr (fun _ => False) w w' := by
 obtain ⟨c1, c2⟩ := str_cell hb
 have hc := hU s l r e h w (fun _ => False) (fun _ h => h.elim)
 have hd : (e != 0) = true := by simpa using he
 go_enter Try.func61, Try.ntmps61
 go_wp2_with (go_at_call 73; refine hc.mono ?_; rintro e w' ⟨v, rfl, hg, hv⟩)
 exact ⟨rfl, rfl, hg⟩
set_option maxHeartbeats 2000000 in
theorem caught_panic (p q : Nat) (pc : Array Value) (qc : Value) (older : List PanicEntry) (w : World) (hp : w.heap[p]? = some (.cells pc 47 (0, 0))) (hps : pc.size = 4) (hq : w.heap[q]? = some (.cells #[qc] 40 (0, 0))) (hpq : p ≠ q) :
 CallsD Try.prog 60 #[.pointer (some ⟨p, 0, none⟩), .pointer (some ⟨q, 0, none⟩)] (.panicking ({ v := .iface 40 (.int .i64 30), recovered := false } :: older)) w fun e u' w' =>
  e = .returned (.tuple #[]) ∧ u' = .panicking ({ v := .iface 40 (.int .i64 30), recovered := true } :: older) ∧ Gr (fun x => x = p ∨ x = q) w w' ∧
  w'.heap[p]? = some (.cells #[.int .i64 0, .int .i64 0, .slice none 0 0, .slice none 0 0] 47 (0, 0)) ∧ w'.heap[q]? = some (.cells #[.int .i64 30] 40 (0, 0)) := by
 refine callsD_of_wpS Try.func60 rfl fun c₀ cs hu => ?_
 apply wpS_seq
 apply wpS_region
 simp [wpOpsS, go_sem, recoverD, hu, Try.ntmps60, Exit.thenS]
 apply wpS_seq
 apply wpS_region
 simp [wpOpsS, go_sem, Exit.thenS]
 refine wpS_cond (t := true) (by simp [Act.eval, Array.replicate]) ?_
 simp only [if_true]
 refine wpS_of_wp ?_
 change Code.wp Try.prog _ _ { tmps := #[.pointer (some ⟨p, 0, none⟩), .pointer (some ⟨q, 0, none⟩), undef, undef, .iface 40 (.int .i64 30), .iface 40 (.int .i64 30), .iface 40 (.int .i64 30), .bool true, undef, undef, undef, undef, undef, undef, undef], defers := [] } w
 have hf : ∀ i, w.frozen? ⟨p, i, none⟩ = false := fun i => by unfold World.frozen?; rw [hp]; simp
 have hcl : ∀ i, i < 4 → ∃ v, w.cell? ⟨p, i, none⟩ = some v := fun i hi => by
  unfold World.cell?; rw [hp]
  exact ⟨pc[i]'(by omega), by show pc[i]? = _; rw [Array.getElem?_eq_getElem]⟩
 obtain ⟨p0, c0⟩ := hcl 0 (by omega)
 obtain ⟨p1, c1⟩ := hcl 1 (by omega)
 obtain ⟨p2, c2⟩ := hcl 2 (by omega)
 obtain ⟨p3, c3⟩ := hcl 3 (by omega)
 have f0 := hf 0
 have f1 := hf 1
 have f2 := hf 2
 have f3 := hf 3
 have d0 : w.cell? ⟨q, 0, none⟩ = some qc := by unfold World.cell?; rw [hq]; rfl
 have g0 : w.frozen? ⟨q, 0, none⟩ = false := by unfold World.frozen?; rw [hq]; simp
 have hT : ∀ W : World, (Instr.typeAssert (.iface 40 (.int .i64 30)) 20 40 false).run Try.prog W = .ok (.int .i64 30) W := fun W => by kernel_rfl
 go_region
 cases c₀
 simp only [bodyPostS, results, Try.results60]
 obtain ⟨s1, s2⟩ := store4 w hp hps (.int .i64 0) (.int .i64 0) (.slice none 0 0) (.slice none 0 0)
 obtain ⟨s3, s4⟩ := store1 _ ((s1.same q (Array.getElem?_eq_some_iff.1 hq).1 fun e => hpq e.symm).trans hq) (.int .i64 30)
 refine ⟨trivial, _, rfl, .tuple #[], by simp [go_sem], rfl, rfl, (((s1.wider (L' := fun x => x = p ∨ x = q) fun _ h => .inl h).trans (s3.wider fun _ h => .inr h))).drew, ?_, s4⟩
 exact (s3.same p (Nat.lt_of_lt_of_le (Array.getElem?_eq_some_iff.1 hp).1 s1.size) hpq).trans s2
set_option maxHeartbeats 2000000 in
theorem caught_idle (p q : Value) (w : World) :
 CallsD Try.prog 60 #[p, q] .returning w fun e u' w' => e = .returned (.tuple #[]) ∧ u' = .returning ∧ w' = w := by
 refine callsD_of_wpS Try.func60 rfl fun c₀ cs hu => ?_
 apply wpS_seq
 apply wpS_region
 simp [wpOpsS, go_sem, recoverD, hu, Try.ntmps60, Exit.thenS]
 apply wpS_seq
 apply wpS_region
 simp [wpOpsS, go_sem, Exit.thenS]
 refine wpS_cond (t := false) (by simp [Act.eval, Array.replicate]) ?_
 simp only [Bool.false_eq_true, if_false]
 refine wpS_of_wp (wp_skip ?_)
 cases c₀
 simp_all [bodyPostS, results, Try.results60]
set_option maxHeartbeats 4000000 in
set_option maxRecDepth 100000 in
theorem read_bad1 {U : Str → Option (List Int × Str × Int)} (hU : UnpackAt Try.prog 73 U) {s r : Str} {l : List Int} {e : Int} (h : U s = some (l, r, e)) (he : e ≠ 0) (w : World) :
 Calls Try.prog 45 #[.string ⟨s.toArray⟩] w fun en w' => en = .returned (.tuple #[.agg #[.int .i64 0, .int .i64 0, .slice none 0 0, .slice none 0 0], .int .i64 30]) ∧ Gr (fun _ => False) w w' := by
 obtain ⟨z1, z2, z3, z4, z5⟩ := alloc3 w (.cells #[.int .i64 0, .int .i64 0, .slice none 0 0, .slice none 0 0] 47) (.cells #[.int .i64 0] 40) (.cells #[.string ⟨s.toArray⟩] 114)
 go_enter_defers Try.func45, Try.ntmps45
 go_wp2_with (go_at_call 61; refine (take_bad hU h he _ 114 _ z4).mono ?_; rintro e w' ⟨rfl, hg⟩)
 refine leaves_cons (f := 60) (args := #[.pointer (some ⟨w.heap.size, 0, none⟩), .pointer (some ⟨w.heap.size + 1, 0, none⟩)]) (by simp) (by simp [go_sem]) ?_
 refine (caught_panic w.heap.size (w.heap.size + 1) _ _ [] _ ((hg.same _ (by omega) id).trans z2) rfl ((hg.same _ (by omega) id).trans z3) (by omega)).mono ?_
 rintro e u' w'' ⟨rfl, rfl, k1, k2, k3⟩
 obtain ⟨q0, q1, q2, q3, _⟩ := cells4 k2
 obtain ⟨q4, _⟩ := cells1 k3
 simp [Leaves, settle, results, Try.results45, go_sem, q0, q1, q2, q3, q4]
 exact (z1.trans hg).hide k1 (fun r h => by omega)
set_option maxHeartbeats 4000000 in
set_option maxRecDepth 100000 in
theorem read_len {U : Str → Option (List Int × Str × Int)} (hU : UnpackAt Try.prog 73 U) {s r : Str} {l : List Int} (h : U s = some (l, r, 0)) (hl : l.length ≠ 2) (w : World) :
 Calls Try.prog 45 #[.string ⟨s.toArray⟩] w fun en w' => en = .returned (.tuple #[.agg #[.int .i64 0, .int .i64 0, .slice none 0 0, .slice none 0 0], .int .i64 30]) ∧ Gr (fun _ => False) w w' := by
 obtain ⟨z1, z2, z3, z4, z5⟩ := alloc3 w (.cells #[.int .i64 0, .int .i64 0, .slice none 0 0, .slice none 0 0] 47) (.cells #[.int .i64 0] 40) (.cells #[.string ⟨s.toArray⟩] 114)
 have hd : ((l.length : Int) != 2) = true := by simp; omega
 go_enter_defers Try.func45, Try.ntmps45
 go_wp2_with (go_at_call 61; refine (take_ok hU h _ 114 _ (fun x => x = w.heap.size + 1 + 1) (fun x hx => by omega) z4 rfl).mono ?_; rintro e w' ⟨v, rfl, hg, hv, hb⟩; obtain ⟨a, c, rfl, hv⟩ := rel_ints hv; have y2 := (hg.same w.heap.size (by omega) (by omega)).trans z2; have y3 := (hg.same (w.heap.size + 1) (by omega) (by omega)).trans z3; obtain ⟨q0, q1, q2, q3, q4, q5, q6, q7⟩ := cells4 y2; obtain ⟨q8, q9⟩ := cells1 y3)
 obtain ⟨s1, s2⟩ := store4 w' y2 rfl (.int .i64 0) (.int .i64 0) (.slice none 0 0) (.slice none 0 0)
 have y3' := (s1.same (w.heap.size + 1) (Nat.lt_of_lt_of_le (by omega) hg.size) (by omega)).trans y3
 obtain ⟨s3, s4⟩ := store1 _ y3' (.int .i64 30)
 have s5 := (s3.same w.heap.size (Nat.lt_of_lt_of_le (by omega) (Nat.le_trans hg.size s1.size)) (by omega)).trans s2
 refine leaves_cons (f := 60) (args := #[.pointer (some ⟨w.heap.size, 0, none⟩), .pointer (some ⟨w.heap.size + 1, 0, none⟩)]) (by simp) (by simp [go_sem]) ?_
 refine (caught_idle _ _ _).mono ?_
 rintro e u' w'' ⟨rfl, rfl, rfl⟩
 obtain ⟨q0, q1, q2, q3, _⟩ := cells4 s5
 obtain ⟨q4, _⟩ := cells1 s4
 simp [Leaves, settle, results, Try.results45, go_sem, q0, q1, q2, q3, q4]
 exact ((z1.hide hg (fun r h => by omega)).hide s1 (fun r h => by omega)).hide s3 (fun r h => by omega)
set_option maxHeartbeats 4000000 in
set_option maxRecDepth 100000 in
theorem read_more {U : Str → Option (List Int × Str × Int)} (hU : UnpackAt Try.prog 73 U) {M : List Int → Option (List Int)} (hM : MovedAt Try.prog 62 M) {s r1 r2 r3 : Str} {l1 l2 l3 l4 : List Int} {e3 : Int} (h1 : U s = some (l1, r1, 0)) (hl : l1.length = 2) (h2 : U r1 = some (l2, r2, 0)) (h3 : U r2 = some (l3, r3, e3)) (h4 : e3 = 0 → M l3 = some l4) (w : World) :
 Calls Try.prog 45 #[.string ⟨s.toArray⟩] w fun en w' => ∃ v, en = .returned (.tuple #[v, .int .i64 (if e3 = 0 then 0 else 30)]) ∧ Gr (fun _ => False) w w' ∧ RelI w' (fun x => x < w.heap.size) (.agg (eRecord (if e3 = 0 then ⟨l1[0], l1[1], l2, l4⟩ else ⟨0, 0, [], []⟩))) v := by
 obtain ⟨z1, z2, z3, z4, z5⟩ := alloc3 w (.cells #[.int .i64 0, .int .i64 0, .slice none 0 0, .slice none 0 0] 47) (.cells #[.int .i64 0] 40) (.cells #[.string ⟨s.toArray⟩] 114)
 have hd : ((2 : Int) != 2) = false := rfl
 go_enter_defers Try.func45, Try.ntmps45
 go_wp2_with (go_at_call 61; refine (take_ok hU h1 _ 114 _ (fun x => x < w.heap.size + 3) (fun x hx => by omega) z4 (by omega)).mono ?_; rintro e w' ⟨v, rfl, hg, hv, hb⟩; obtain ⟨a, c, rfl, hvc⟩ := rel_ints hv; have y2 := (hg.same w.heap.size (by omega) (by omega)).trans z2; have y3 := (hg.same (w.heap.size + 1) (by omega) (by omega)).trans z3; obtain ⟨q0, q1, q2, q3, q4, q5, q6, q7⟩ := cells4 y2; obtain ⟨q8, q9⟩ := cells1 y3; obtain ⟨ad, rfl, g1, g2, g3, g4⟩ := hvc 0 (by omega); obtain ⟨ad', e', g1', g2', g3', g4'⟩ := hvc 1 (by omega); cases e'; rw [hl])
 obtain ⟨ab, ao, sp⟩ := ad
 simp only at g1 g3 g4 g4' g2
 subst g1
 rw [Nat.add_zero] at g4
 have n2 : ab ≠ w.heap.size + 1 + 1 := by omega
 have n3 : ab ≠ w.heap.size := by omega
 have hz := hg.size
 go_region_held3 (fun W : World => W.cell? ⟨ab, ao, none⟩ = some (.int .i64 l1[0]) ∧ W.cell? ⟨ab, ao + 1, none⟩ = some (.int .i64 l1[1])) (first | exact ⟨g4, g4'⟩ | exact ⟨kk1, kk2⟩ | (refine ⟨?_, ?_⟩ <;> simp only [cell_setCell_ne _ _ _ _ _ _ n3, kk1, kk2])) (first | (go_at_call 61; refine (take_ok hU h2 _ 114 w'.drew (fun x => x < w.heap.size + 3) (fun x hx => Nat.lt_of_lt_of_le hx (by show w.heap.size + 3 ≤ w'.heap.size; omega)) hb (by omega)).mono ?_; rintro e w2 ⟨v2, rfl, hg2, hv2, hb2⟩; obtain ⟨a2, c2, hve, _⟩ := rel_ints hv2; subst hve; have yy2 := (hg2.same w.heap.size (by show w.heap.size < w'.heap.size; omega) (by omega)).trans y2; obtain ⟨Q0, Q1, Q2, Q3, Q4, Q5, Q6, Q7⟩ := cells4 yy2; have kk0 := hg2.same ab g3 n2; have kk1 := (cell_of_heap kk0).trans g4; have kk2 := (cell_of_heap kk0).trans g4'))
 obtain ⟨s1, s2⟩ := store4 w2 yy2 rfl (.int .i64 l1[0]) (.int .i64 l1[1]) (.slice a2 l2.length c2) (.slice none 0 0)
 have tz : Gr (fun _ => False) w ((((w2.setCell ⟨w.heap.size, 0, none⟩ (.int .i64 l1[0])).setCell ⟨w.heap.size, 1, none⟩ (.int .i64 l1[1])).setCell ⟨w.heap.size, 2, none⟩ (.slice a2 l2.length c2)).setCell ⟨w.heap.size, 3, none⟩ (.slice none 0 0)) :=
  (((z1.hide hg (fun r h => by omega)).drew).hide hg2 (fun r h => by omega)).hide s1 (fun r h => by omega)
 have hz2 : w.heap.size + 3 ≤ w2.heap.size := Nat.le_trans (by show _ ≤ w'.heap.size; omega) hg2.size
 have t4 := (s1.same (w.heap.size + 1 + 1) (by omega) (by omega)).trans hb2
 have t3 := (s1.same (w.heap.size + 1) (by omega) (by omega)).trans ((hg2.same (w.heap.size + 1) (by show _ < w'.heap.size; omega) (by omega)).trans y3)
 have tv := s1.rel' (N := fun x => x < w.heap.size + 3) (fun x e => by omega) hv2
 have hz3 := Nat.le_trans hz2 s1.size
 generalize ((((w2.setCell ⟨w.heap.size, 0, none⟩ (.int .i64 l1[0])).setCell ⟨w.heap.size, 1, none⟩ (.int .i64 l1[1])).setCell ⟨w.heap.size, 2, none⟩ (.slice a2 l2.length c2)).setCell ⟨w.heap.size, 3, none⟩ (.slice none 0 0)) = w3 at s1 s2 tz t4 t3 tv hz3 ⊢
 clear q0 q1 q2 q3 q4 q5 q6 q7 q8 q9 Q0 Q1 Q2 Q3 Q4 Q5 Q6 Q7 kk0 kk1 kk2 g4 g4'
 by_cases he : e3 = 0
 · subst he
   have hm : M l3 = some l4 := h4 rfl
   go_wp2_with (go_at_call 61; refine (take_ok hU h3 _ 114 w3 (fun x => x < w.heap.size + 3) (fun x hx => Nat.lt_of_lt_of_le hx hz3) t4 (by omega)).mono ?_; rintro e w4 ⟨v3, rfl, hg3, hv3, hb3⟩; have u2 := (hg3.same w.heap.size (by omega) (by omega)).trans s2; have u1 := (hg3.same (w.heap.size + 1) (by omega) (by omega)).trans t3; have hz4 := Nat.le_trans hz3 hg3.size)
   refine (hM l3 l4 hm w4 (fun x => x < w.heap.size + 3) v3 (fun x hx => Nat.lt_of_lt_of_le hx hz4) hv3).mono ?_
   rintro e w5 ⟨v4, rfl, hg4, hv4⟩
   obtain ⟨a4, c4, hve4, _⟩ := rel_ints hv4
   subst hve4
   have x2 := (hg4.same w.heap.size (by omega) id).trans u2
   have x1 := (hg4.same (w.heap.size + 1) (by omega) id).trans u1
   obtain ⟨Q0, Q1, Q2, Q3, Q4, Q5, Q6, Q7⟩ := cells4 x2
   obtain ⟨Q8, Q9⟩ := cells1 x1
   go_wp2
   obtain ⟨a1, a2'⟩ := store3 w5 x2 (.slice a4 l4.length c4)
   obtain ⟨b1, b2⟩ := store4 _ a2' rfl (.int .i64 l1[0]) (.int .i64 l1[1]) (.slice a2 l2.length c2) (.slice a4 l4.length c4)
   have hz5 := Nat.le_trans hz4 hg4.size
   have b3 := (b1.same (w.heap.size + 1) (Nat.lt_of_lt_of_le (by omega) a1.size) (by omega)).trans ((a1.same (w.heap.size + 1) (by omega) (by omega)).trans x1)
   obtain ⟨d1, d2⟩ := store1 _ b3 (.int .i64 0)
   have d3 := (d1.same w.heap.size (Nat.lt_of_lt_of_le (by omega) (Nat.le_trans a1.size b1.size)) (by omega)).trans b2
   have gAll : Gr (fun x => x < w.heap.size + 3) w3 _ := ((((hg3.wider fun _ h => by omega).trans (hg4.wider fun _ h => h.elim)).trans (a1.wider fun _ h => by omega)).trans (b1.wider fun _ h => by omega)).trans (d1.wider fun _ h => by omega)
   have gTail : Gr (fun x => x < w.heap.size + 3) w5 _ := ((a1.wider fun _ h => by omega).trans (b1.wider fun _ h => by omega)).trans (d1.wider fun _ h => by omega)
   refine leaves_cons (f := 60) (args := #[.pointer (some ⟨w.heap.size, 0, none⟩), .pointer (some ⟨w.heap.size + 1, 0, none⟩)]) (by simp) (by simp [go_sem]) ?_
   refine (caught_idle _ _ _).mono ?_
   rintro e u' w'' ⟨rfl, rfl, rfl⟩
   obtain ⟨q0, q1, q2, q3, _⟩ := cells4 d3
   obtain ⟨q4, _⟩ := cells1 d2
   have fin1 := ((((tz.hide hg3 (fun r h => by omega)).hide hg4 (fun r h => h.elim)).hide a1 (fun r h => by omega)).hide b1 (fun r h => by omega)).hide d1 (fun r h => by omega)
   have fin2 := rel_rec (a := l1[0]) (b := l1[1]) (gAll.rel (N' := fun x => x < w.heap.size) (fun _ h => h) (fun _ h => by omega) tv) (gTail.rel (N' := fun x => x < w.heap.size) (fun _ h => h) (fun _ h => by omega) hv4)
   simp [Leaves, settle, results, Try.results45, go_sem, q0, q1, q2, q3, q4]
   exact ⟨fin1, fin2⟩
 · go_wp2_with (go_at_call 61; refine (take_bad hU h3 he _ 114 w3 t4).mono ?_; rintro e w4 ⟨rfl, hg3⟩)
   refine leaves_cons (f := 60) (args := #[.pointer (some ⟨w.heap.size, 0, none⟩), .pointer (some ⟨w.heap.size + 1, 0, none⟩)]) (by simp) (by simp [go_sem]) ?_
   refine (caught_panic w.heap.size (w.heap.size + 1) _ _ [] _ ((hg3.same _ (by omega) id).trans s2) rfl ((hg3.same _ (by omega) id).trans t3) (by omega)).mono ?_
   rintro e u' w'' ⟨rfl, rfl, k1, k2, k3⟩
   obtain ⟨q0, q1, q2, q3, _⟩ := cells4 k2
   obtain ⟨q4, _⟩ := cells1 k3
   have fin1 := (tz.hide hg3 (fun r h => h.elim)).hide k1 (fun r h => by omega)
   have fin2 := rel_rec (w := w'') (N := fun x => x < w.heap.size) (a := 0) (b := 0) rel_nil rel_nil
   simp [Leaves, settle, results, Try.results45, go_sem, q0, q1, q2, q3, q4, he]
   exact ⟨fin1, fin2⟩
theorem read_at {U : Str → Option (List Int × Str × Int)} (hU : UnpackAt Try.prog 73 U) {M : List Int → Option (List Int)} (hM : MovedAt Try.prog 62 M) : ReadAt Try.prog 45 U M := by
 intro s r e h w
 unfold readF at h
 split at h
 · cases h
 · rename_i l1 r1 e1 h1
   by_cases he1 : e1 = 0
   · subst he1
     rw [decide_eq_true rfl, cond_true] at h
     by_cases hl : l1.length = 2
     · rw [decide_eq_true hl, cond_true] at h
       split at h
       · cases h
       · rename_i l2 r2 e2 h2
         by_cases he2 : e2 = 0
         · subst he2
           rw [decide_eq_true rfl, cond_true] at h
           split at h
           · cases h
           · rename_i l3 r3 e3 h3
             by_cases he3 : e3 = 0
             · rw [decide_eq_true he3, cond_true] at h
               split at h
               · cases h
               · rename_i l4 h4
                 cases h
                 have := read_more hU hM h1 hl h2 h3 (fun _ => h4) w
                 rw [if_pos he3, if_pos he3] at this
                 rw [show l1.getD 0 0 = l1[0] by simp [List.getD_eq_getElem?_getD, List.getElem?_eq_getElem (show 0 < l1.length by omega)], show l1.getD 1 0 = l1[1] by simp [List.getD_eq_getElem?_getD, List.getElem?_eq_getElem (show 1 < l1.length by omega)]]
                 exact this
             · rw [decide_eq_false he3, cond_false] at h
               cases h
               have := read_more hU hM (l4 := []) h1 hl h2 h3 (fun e => absurd e he3) w
               rw [if_neg he3, if_neg he3] at this
               exact this
         · rw [decide_eq_false he2, cond_false] at h; cases h
     · rw [decide_eq_false hl, cond_false] at h
       cases h
       exact (read_len hU h1 hl w).mono fun en w' ⟨k1, k2⟩ => ⟨_, k1, k2, rel_rec rel_nil rel_nil⟩
   · rw [decide_eq_false he1, cond_false] at h
     cases h
     exact (read_bad1 hU h1 he1 w).mono fun en w' ⟨k1, k2⟩ => ⟨_, k1, k2, rel_rec rel_nil rel_nil⟩
end Go.Proofs.Ytpncgjcflkhemaa
namespace Clk.Ytpncgjcflkhemaa
open Go Go.Proofs Go.Proofs.Ytpncgjcflkhemaa
set_option maxRecDepth 1000000
set_option linter.unusedVariables false
noncomputable def LN : List (FuncId × Spec) := []
theorem ok_N : OrcOk Try.prog (orcOf LN) := specs_nil
noncomputable def tm_scan_Page : Nat → Option Tmpl := fun _ => none
noncomputable def gh_scan_Page : Nat → Nat → Option (Nat × Nat) := fun _ _ => none
theorem t_scan_Page (N : Nat) (a0 : Chip) (a1 : Int) : symF (seat.mk' (spOf LN) tm_scan_Page gh_scan_Page) N 400 7 [.chip, .i] [.page, .bool] (a0, a1) = G_scan_Page a0 a1 := by kernel_rfl
noncomputable def L_scan_Page : List (FuncId × Spec) := (7, ⟨[.chip, .i], [.page, .bool], S_scan_Page⟩) :: LN
theorem ok_scan_Page : OrcOk Try.prog (orcOf L_scan_Page) := specs_cons sseat good primOk ok_N (by kernel_rfl) ⟨_, Try.func7, by rfl⟩ (tm := tm_scan_Page) (gh := gh_scan_Page) fun x y h => ⟨0, 400, (t_scan_Page 0 x.1 x.2).trans h⟩
noncomputable def tm_scan_Place : Nat → Option Tmpl := fun _ => none
noncomputable def gh_scan_Place : Nat → Nat → Option (Nat × Nat) := fun _ _ => none
theorem t_scan_Place (N : Nat) (a0 : Int) (a1 : Int) : symF (seat.mk' (spOf L_scan_Page) tm_scan_Place gh_scan_Place) N 400 9 [.i, .i] [.i] (a0, a1) = G_scan_Place a0 a1 := by kernel_rfl
noncomputable def L_scan_Place : List (FuncId × Spec) := (9, ⟨[.i, .i], [.i], S_scan_Place⟩) :: L_scan_Page
theorem ok_scan_Place : OrcOk Try.prog (orcOf L_scan_Place) := specs_cons sseat good primOk ok_scan_Page (by kernel_rfl) ⟨_, Try.func9, by rfl⟩ (tm := tm_scan_Place) (gh := gh_scan_Place) fun x y h => ⟨0, 400, (t_scan_Place 0 x.1 x.2).trans h⟩
noncomputable def tm_law03_Made : Nat → Option Tmpl := fun cx => cond (Nat.beq cx 1365) (some ⟨[.cell 2 0 2 .i, .cell 2 0 3 .i], [(4, .i), (5, .i)], 55, [.raw 1 1, .raw 4 1, .raw 4 1, .raw 1 1, .dead, .dead, .blk .i 0 true, .blk .i 0 true], [J, .fix (.ptr 0 0 0 0), .fix (.ptr 1 0 0 0), .fix (.ptr 2 0 0 0), .fix (.ptr 3 0 0 0), .fix (.fn 34 [] [(.ptr 3 0 0 0), (.ptr 0 0 0 0)]), .var .i, .var .i, .fix (.fn 34 [] [(.ptr 3 0 0 0), (.ptr 0 0 0 0)]), .fix (.fn 34 [] [(.ptr 3 0 0 0), (.ptr 0 0 0 0)]), J, J, .fix (.ptr 2 0 0 0), .fix (.fn 34 [] [(.ptr 3 0 0 0), (.ptr 0 0 0 0)]), J, .fix (.fn 34 [] [(.ptr 3 0 0 0), (.ptr 0 0 0 0)]), J, J, J, .fix (.ptr 2 0 0 1), .fix (.fn 34 [] [(.ptr 3 0 0 0), (.ptr 0 0 0 0)]), J, .fix (.fn 34 [] [(.ptr 3 0 0 0), (.ptr 0 0 0 0)]), J, J, J, J, J, J, J, J, J, J, J, J, J, J, J, J, J, J, J, J, J, J, J, J, J, J, J, J, J, J, J, J, .var (.list (.int .u16)), J, J, J, J, .var .i, .var .i, .fix (.bref 6 0), .fix (.bref 7 0), .var .i, .var (.list .i), .var (.list .i)], [], []⟩) <| cond (Nat.beq cx 1366) (some ⟨[.cell 2 0 2 .i, .cell 2 0 3 .i], [(4, .i), (5, .i)], 55, [.raw 1 1, .raw 4 1, .raw 4 1, .raw 1 1, .dead, .dead, .blk .i 0 true, .blk .i 0 true], [J, .fix (.ptr 0 0 0 0), .fix (.ptr 1 0 0 0), .fix (.ptr 2 0 0 0), .fix (.ptr 3 0 0 0), .fix (.fn 34 [] [(.ptr 3 0 0 0), (.ptr 0 0 0 0)]), .var .i, .var .i, .fix (.fn 34 [] [(.ptr 3 0 0 0), (.ptr 0 0 0 0)]), .fix (.fn 34 [] [(.ptr 3 0 0 0), (.ptr 0 0 0 0)]), J, J, .fix (.ptr 2 0 0 0), .fix (.fn 34 [] [(.ptr 3 0 0 0), (.ptr 0 0 0 0)]), J, .fix (.fn 34 [] [(.ptr 3 0 0 0), (.ptr 0 0 0 0)]), J, J, J, .fix (.ptr 2 0 0 1), .fix (.fn 34 [] [(.ptr 3 0 0 0), (.ptr 0 0 0 0)]), J, .fix (.fn 34 [] [(.ptr 3 0 0 0), (.ptr 0 0 0 0)]), J, J, J, J, J, J, J, J, J, J, J, J, J, J, J, J, J, J, J, J, J, J, J, J, J, J, J, J, J, J, J, J, .var (.list (.int .u16)), J, J, J, J, .var .i, .var .i, .fix (.bref 6 0), .fix (.bref 7 0), .var .i, .var (.list .i), .var (.list .i)], [], []⟩) <| cond (Nat.beq cx 1369) (some ⟨[.cell 2 0 2 .i, .cell 2 0 3 .i], [(4, .i), (5, .i)], 55, [.raw 1 1, .raw 4 1, .raw 4 1, .raw 1 1, .dead, .dead, .blk .i 0 true, .blk .i 0 true], [J, .fix (.ptr 0 0 0 0), .fix (.ptr 1 0 0 0), .fix (.ptr 2 0 0 0), .fix (.ptr 3 0 0 0), .fix (.fn 34 [] [(.ptr 3 0 0 0), (.ptr 0 0 0 0)]), .var .i, .var .i, .fix (.fn 34 [] [(.ptr 3 0 0 0), (.ptr 0 0 0 0)]), .fix (.fn 34 [] [(.ptr 3 0 0 0), (.ptr 0 0 0 0)]), J, J, .fix (.ptr 2 0 0 0), .fix (.fn 34 [] [(.ptr 3 0 0 0), (.ptr 0 0 0 0)]), J, .fix (.fn 34 [] [(.ptr 3 0 0 0), (.ptr 0 0 0 0)]), J, J, J, .fix (.ptr 2 0 0 1), .fix (.fn 34 [] [(.ptr 3 0 0 0), (.ptr 0 0 0 0)]), J, .fix (.fn 34 [] [(.ptr 3 0 0 0), (.ptr 0 0 0 0)]), J, J, J, J, J, J, J, J, J, J, J, J, J, J, J, J, J, J, J, J, J, J, J, J, J, J, J, J, J, J, J, J, .var (.list (.int .u16)), J, J, J, J, .var .i, .var .i, .fix (.bref 6 0), .fix (.bref 7 0), .var .i, .var (.list .i), .var (.list .i)], [], []⟩) <| cond (Nat.beq cx 1370) (some ⟨[.cell 2 0 2 .i, .cell 2 0 3 .i], [(4, .i), (5, .i)], 55, [.raw 1 1, .raw 4 1, .raw 4 1, .raw 1 1, .dead, .dead, .blk .i 0 true, .blk .i 0 true], [J, .fix (.ptr 0 0 0 0), .fix (.ptr 1 0 0 0), .fix (.ptr 2 0 0 0), .fix (.ptr 3 0 0 0), .fix (.fn 34 [] [(.ptr 3 0 0 0), (.ptr 0 0 0 0)]), .var .i, .var .i, .fix (.fn 34 [] [(.ptr 3 0 0 0), (.ptr 0 0 0 0)]), .fix (.fn 34 [] [(.ptr 3 0 0 0), (.ptr 0 0 0 0)]), J, J, .fix (.ptr 2 0 0 0), .fix (.fn 34 [] [(.ptr 3 0 0 0), (.ptr 0 0 0 0)]), J, .fix (.fn 34 [] [(.ptr 3 0 0 0), (.ptr 0 0 0 0)]), J, J, J, .fix (.ptr 2 0 0 1), .fix (.fn 34 [] [(.ptr 3 0 0 0), (.ptr 0 0 0 0)]), J, .fix (.fn 34 [] [(.ptr 3 0 0 0), (.ptr 0 0 0 0)]), J, J, J, J, J, J, J, J, J, J, J, J, J, J, J, J, J, J, J, J, J, J, J, J, J, J, J, J, J, J, J, J, .var (.list (.int .u16)), J, J, J, J, .var .i, .var .i, .fix (.bref 6 0), .fix (.bref 7 0), .var .i, .var (.list .i), .var (.list .i)], [], []⟩) <| cond (Nat.beq cx 1381) (some ⟨[.cell 2 0 2 .i, .cell 2 0 3 .i], [(4, .i), (5, .i)], 55, [.raw 1 1, .raw 4 1, .raw 4 1, .raw 1 1, .dead, .dead, .blk .i 0 true, .blk .i 0 true], [J, .fix (.ptr 0 0 0 0), .fix (.ptr 1 0 0 0), .fix (.ptr 2 0 0 0), .fix (.ptr 3 0 0 0), .fix (.fn 34 [] [(.ptr 3 0 0 0), (.ptr 0 0 0 0)]), .var .i, .var .i, .fix (.fn 34 [] [(.ptr 3 0 0 0), (.ptr 0 0 0 0)]), .fix (.fn 34 [] [(.ptr 3 0 0 0), (.ptr 0 0 0 0)]), J, J, .fix (.ptr 2 0 0 0), .fix (.fn 34 [] [(.ptr 3 0 0 0), (.ptr 0 0 0 0)]), J, .fix (.fn 34 [] [(.ptr 3 0 0 0), (.ptr 0 0 0 0)]), J, J, J, .fix (.ptr 2 0 0 1), .fix (.fn 34 [] [(.ptr 3 0 0 0), (.ptr 0 0 0 0)]), J, .fix (.fn 34 [] [(.ptr 3 0 0 0), (.ptr 0 0 0 0)]), J, J, J, J, J, J, J, J, J, J, J, J, J, J, J, J, J, J, J, J, J, J, J, J, J, J, J, J, J, J, J, J, .var (.list (.int .u16)), J, J, J, J, .var .i, .var .i, .fix (.bref 6 0), .fix (.bref 7 0), .var .i, .var (.list .i), .var (.list .i)], [], []⟩) <| cond (Nat.beq cx 1382) (some ⟨[.cell 2 0 2 .i, .cell 2 0 3 .i], [(4, .i), (5, .i)], 55, [.raw 1 1, .raw 4 1, .raw 4 1, .raw 1 1, .dead, .dead, .blk .i 0 true, .blk .i 0 true], [J, .fix (.ptr 0 0 0 0), .fix (.ptr 1 0 0 0), .fix (.ptr 2 0 0 0), .fix (.ptr 3 0 0 0), .fix (.fn 34 [] [(.ptr 3 0 0 0), (.ptr 0 0 0 0)]), .var .i, .var .i, .fix (.fn 34 [] [(.ptr 3 0 0 0), (.ptr 0 0 0 0)]), .fix (.fn 34 [] [(.ptr 3 0 0 0), (.ptr 0 0 0 0)]), J, J, .fix (.ptr 2 0 0 0), .fix (.fn 34 [] [(.ptr 3 0 0 0), (.ptr 0 0 0 0)]), J, .fix (.fn 34 [] [(.ptr 3 0 0 0), (.ptr 0 0 0 0)]), J, J, J, .fix (.ptr 2 0 0 1), .fix (.fn 34 [] [(.ptr 3 0 0 0), (.ptr 0 0 0 0)]), J, .fix (.fn 34 [] [(.ptr 3 0 0 0), (.ptr 0 0 0 0)]), J, J, J, J, J, J, J, J, J, J, J, J, J, J, J, J, J, J, J, J, J, J, J, J, J, J, J, J, J, J, J, J, .var (.list (.int .u16)), J, J, J, J, .var .i, .var .i, .fix (.bref 6 0), .fix (.bref 7 0), .var .i, .var (.list .i), .var (.list .i)], [], []⟩) <| cond (Nat.beq cx 1385) (some ⟨[.cell 2 0 2 .i, .cell 2 0 3 .i], [(4, .i), (5, .i)], 55, [.raw 1 1, .raw 4 1, .raw 4 1, .raw 1 1, .dead, .dead, .blk .i 0 true, .blk .i 0 true], [J, .fix (.ptr 0 0 0 0), .fix (.ptr 1 0 0 0), .fix (.ptr 2 0 0 0), .fix (.ptr 3 0 0 0), .fix (.fn 34 [] [(.ptr 3 0 0 0), (.ptr 0 0 0 0)]), .var .i, .var .i, .fix (.fn 34 [] [(.ptr 3 0 0 0), (.ptr 0 0 0 0)]), .fix (.fn 34 [] [(.ptr 3 0 0 0), (.ptr 0 0 0 0)]), J, J, .fix (.ptr 2 0 0 0), .fix (.fn 34 [] [(.ptr 3 0 0 0), (.ptr 0 0 0 0)]), J, .fix (.fn 34 [] [(.ptr 3 0 0 0), (.ptr 0 0 0 0)]), J, J, J, .fix (.ptr 2 0 0 1), .fix (.fn 34 [] [(.ptr 3 0 0 0), (.ptr 0 0 0 0)]), J, .fix (.fn 34 [] [(.ptr 3 0 0 0), (.ptr 0 0 0 0)]), J, J, J, J, J, J, J, J, J, J, J, J, J, J, J, J, J, J, J, J, J, J, J, J, J, J, J, J, J, J, J, J, .var (.list (.int .u16)), J, J, J, J, .var .i, .var .i, .fix (.bref 6 0), .fix (.bref 7 0), .var .i, .var (.list .i), .var (.list .i)], [], []⟩) <| cond (Nat.beq cx 1386) (some ⟨[.cell 2 0 2 .i, .cell 2 0 3 .i], [(4, .i), (5, .i)], 55, [.raw 1 1, .raw 4 1, .raw 4 1, .raw 1 1, .dead, .dead, .blk .i 0 true, .blk .i 0 true], [J, .fix (.ptr 0 0 0 0), .fix (.ptr 1 0 0 0), .fix (.ptr 2 0 0 0), .fix (.ptr 3 0 0 0), .fix (.fn 34 [] [(.ptr 3 0 0 0), (.ptr 0 0 0 0)]), .var .i, .var .i, .fix (.fn 34 [] [(.ptr 3 0 0 0), (.ptr 0 0 0 0)]), .fix (.fn 34 [] [(.ptr 3 0 0 0), (.ptr 0 0 0 0)]), J, J, .fix (.ptr 2 0 0 0), .fix (.fn 34 [] [(.ptr 3 0 0 0), (.ptr 0 0 0 0)]), J, .fix (.fn 34 [] [(.ptr 3 0 0 0), (.ptr 0 0 0 0)]), J, J, J, .fix (.ptr 2 0 0 1), .fix (.fn 34 [] [(.ptr 3 0 0 0), (.ptr 0 0 0 0)]), J, .fix (.fn 34 [] [(.ptr 3 0 0 0), (.ptr 0 0 0 0)]), J, J, J, J, J, J, J, J, J, J, J, J, J, J, J, J, J, J, J, J, J, J, J, J, J, J, J, J, J, J, J, J, .var (.list (.int .u16)), J, J, J, J, .var .i, .var .i, .fix (.bref 6 0), .fix (.bref 7 0), .var .i, .var (.list .i), .var (.list .i)], [], []⟩) <| cond (Nat.beq cx 1429) (some ⟨[.cell 2 0 2 .i, .cell 2 0 3 .i], [(4, .i), (5, .i)], 55, [.raw 1 1, .raw 4 1, .raw 4 1, .raw 1 1, .dead, .dead, .blk .i 0 true, .blk .i 0 true], [J, .fix (.ptr 0 0 0 0), .fix (.ptr 1 0 0 0), .fix (.ptr 2 0 0 0), .fix (.ptr 3 0 0 0), .fix (.fn 34 [] [(.ptr 3 0 0 0), (.ptr 0 0 0 0)]), .var .i, .var .i, .fix (.fn 34 [] [(.ptr 3 0 0 0), (.ptr 0 0 0 0)]), .fix (.fn 34 [] [(.ptr 3 0 0 0), (.ptr 0 0 0 0)]), J, J, .fix (.ptr 2 0 0 0), .fix (.fn 34 [] [(.ptr 3 0 0 0), (.ptr 0 0 0 0)]), J, .fix (.fn 34 [] [(.ptr 3 0 0 0), (.ptr 0 0 0 0)]), J, J, J, .fix (.ptr 2 0 0 1), .fix (.fn 34 [] [(.ptr 3 0 0 0), (.ptr 0 0 0 0)]), J, .fix (.fn 34 [] [(.ptr 3 0 0 0), (.ptr 0 0 0 0)]), J, J, J, J, J, J, J, J, J, J, J, J, J, J, J, J, J, J, J, J, J, J, J, J, J, J, J, J, J, J, J, J, .var (.list (.int .u16)), J, J, J, J, .var .i, .var .i, .fix (.bref 6 0), .fix (.bref 7 0), .var .i, .var (.list .i), .var (.list .i)], [], []⟩) <| cond (Nat.beq cx 1430) (some ⟨[.cell 2 0 2 .i, .cell 2 0 3 .i], [(4, .i), (5, .i)], 55, [.raw 1 1, .raw 4 1, .raw 4 1, .raw 1 1, .dead, .dead, .blk .i 0 true, .blk .i 0 true], [J, .fix (.ptr 0 0 0 0), .fix (.ptr 1 0 0 0), .fix (.ptr 2 0 0 0), .fix (.ptr 3 0 0 0), .fix (.fn 34 [] [(.ptr 3 0 0 0), (.ptr 0 0 0 0)]), .var .i, .var .i, .fix (.fn 34 [] [(.ptr 3 0 0 0), (.ptr 0 0 0 0)]), .fix (.fn 34 [] [(.ptr 3 0 0 0), (.ptr 0 0 0 0)]), J, J, .fix (.ptr 2 0 0 0), .fix (.fn 34 [] [(.ptr 3 0 0 0), (.ptr 0 0 0 0)]), J, .fix (.fn 34 [] [(.ptr 3 0 0 0), (.ptr 0 0 0 0)]), J, J, J, .fix (.ptr 2 0 0 1), .fix (.fn 34 [] [(.ptr 3 0 0 0), (.ptr 0 0 0 0)]), J, .fix (.fn 34 [] [(.ptr 3 0 0 0), (.ptr 0 0 0 0)]), J, J, J, J, J, J, J, J, J, J, J, J, J, J, J, J, J, J, J, J, J, J, J, J, J, J, J, J, J, J, J, J, .var (.list (.int .u16)), J, J, J, J, .var .i, .var .i, .fix (.bref 6 0), .fix (.bref 7 0), .var .i, .var (.list .i), .var (.list .i)], [], []⟩) <| cond (Nat.beq cx 1433) (some ⟨[.cell 2 0 2 .i, .cell 2 0 3 .i], [(4, .i), (5, .i)], 55, [.raw 1 1, .raw 4 1, .raw 4 1, .raw 1 1, .dead, .dead, .blk .i 0 true, .blk .i 0 true], [J, .fix (.ptr 0 0 0 0), .fix (.ptr 1 0 0 0), .fix (.ptr 2 0 0 0), .fix (.ptr 3 0 0 0), .fix (.fn 34 [] [(.ptr 3 0 0 0), (.ptr 0 0 0 0)]), .var .i, .var .i, .fix (.fn 34 [] [(.ptr 3 0 0 0), (.ptr 0 0 0 0)]), .fix (.fn 34 [] [(.ptr 3 0 0 0), (.ptr 0 0 0 0)]), J, J, .fix (.ptr 2 0 0 0), .fix (.fn 34 [] [(.ptr 3 0 0 0), (.ptr 0 0 0 0)]), J, .fix (.fn 34 [] [(.ptr 3 0 0 0), (.ptr 0 0 0 0)]), J, J, J, .fix (.ptr 2 0 0 1), .fix (.fn 34 [] [(.ptr 3 0 0 0), (.ptr 0 0 0 0)]), J, .fix (.fn 34 [] [(.ptr 3 0 0 0), (.ptr 0 0 0 0)]), J, J, J, J, J, J, J, J, J, J, J, J, J, J, J, J, J, J, J, J, J, J, J, J, J, J, J, J, J, J, J, J, .var (.list (.int .u16)), J, J, J, J, .var .i, .var .i, .fix (.bref 6 0), .fix (.bref 7 0), .var .i, .var (.list .i), .var (.list .i)], [], []⟩) <| cond (Nat.beq cx 1434) (some ⟨[.cell 2 0 2 .i, .cell 2 0 3 .i], [(4, .i), (5, .i)], 55, [.raw 1 1, .raw 4 1, .raw 4 1, .raw 1 1, .dead, .dead, .blk .i 0 true, .blk .i 0 true], [J, .fix (.ptr 0 0 0 0), .fix (.ptr 1 0 0 0), .fix (.ptr 2 0 0 0), .fix (.ptr 3 0 0 0), .fix (.fn 34 [] [(.ptr 3 0 0 0), (.ptr 0 0 0 0)]), .var .i, .var .i, .fix (.fn 34 [] [(.ptr 3 0 0 0), (.ptr 0 0 0 0)]), .fix (.fn 34 [] [(.ptr 3 0 0 0), (.ptr 0 0 0 0)]), J, J, .fix (.ptr 2 0 0 0), .fix (.fn 34 [] [(.ptr 3 0 0 0), (.ptr 0 0 0 0)]), J, .fix (.fn 34 [] [(.ptr 3 0 0 0), (.ptr 0 0 0 0)]), J, J, J, .fix (.ptr 2 0 0 1), .fix (.fn 34 [] [(.ptr 3 0 0 0), (.ptr 0 0 0 0)]), J, .fix (.fn 34 [] [(.ptr 3 0 0 0), (.ptr 0 0 0 0)]), J, J, J, J, J, J, J, J, J, J, J, J, J, J, J, J, J, J, J, J, J, J, J, J, J, J, J, J, J, J, J, J, .var (.list (.int .u16)), J, J, J, J, .var .i, .var .i, .fix (.bref 6 0), .fix (.bref 7 0), .var .i, .var (.list .i), .var (.list .i)], [], []⟩) <| cond (Nat.beq cx 1445) (some ⟨[.cell 2 0 2 .i, .cell 2 0 3 .i], [(4, .i), (5, .i)], 55, [.raw 1 1, .raw 4 1, .raw 4 1, .raw 1 1, .dead, .dead, .blk .i 0 true, .blk .i 0 true], [J, .fix (.ptr 0 0 0 0), .fix (.ptr 1 0 0 0), .fix (.ptr 2 0 0 0), .fix (.ptr 3 0 0 0), .fix (.fn 34 [] [(.ptr 3 0 0 0), (.ptr 0 0 0 0)]), .var .i, .var .i, .fix (.fn 34 [] [(.ptr 3 0 0 0), (.ptr 0 0 0 0)]), .fix (.fn 34 [] [(.ptr 3 0 0 0), (.ptr 0 0 0 0)]), J, J, .fix (.ptr 2 0 0 0), .fix (.fn 34 [] [(.ptr 3 0 0 0), (.ptr 0 0 0 0)]), J, .fix (.fn 34 [] [(.ptr 3 0 0 0), (.ptr 0 0 0 0)]), J, J, J, .fix (.ptr 2 0 0 1), .fix (.fn 34 [] [(.ptr 3 0 0 0), (.ptr 0 0 0 0)]), J, .fix (.fn 34 [] [(.ptr 3 0 0 0), (.ptr 0 0 0 0)]), J, J, J, J, J, J, J, J, J, J, J, J, J, J, J, J, J, J, J, J, J, J, J, J, J, J, J, J, J, J, J, J, .var (.list (.int .u16)), J, J, J, J, .var .i, .var .i, .fix (.bref 6 0), .fix (.bref 7 0), .var .i, .var (.list .i), .var (.list .i)], [], []⟩) <| cond (Nat.beq cx 1446) (some ⟨[.cell 2 0 2 .i, .cell 2 0 3 .i], [(4, .i), (5, .i)], 55, [.raw 1 1, .raw 4 1, .raw 4 1, .raw 1 1, .dead, .dead, .blk .i 0 true, .blk .i 0 true], [J, .fix (.ptr 0 0 0 0), .fix (.ptr 1 0 0 0), .fix (.ptr 2 0 0 0), .fix (.ptr 3 0 0 0), .fix (.fn 34 [] [(.ptr 3 0 0 0), (.ptr 0 0 0 0)]), .var .i, .var .i, .fix (.fn 34 [] [(.ptr 3 0 0 0), (.ptr 0 0 0 0)]), .fix (.fn 34 [] [(.ptr 3 0 0 0), (.ptr 0 0 0 0)]), J, J, .fix (.ptr 2 0 0 0), .fix (.fn 34 [] [(.ptr 3 0 0 0), (.ptr 0 0 0 0)]), J, .fix (.fn 34 [] [(.ptr 3 0 0 0), (.ptr 0 0 0 0)]), J, J, J, .fix (.ptr 2 0 0 1), .fix (.fn 34 [] [(.ptr 3 0 0 0), (.ptr 0 0 0 0)]), J, .fix (.fn 34 [] [(.ptr 3 0 0 0), (.ptr 0 0 0 0)]), J, J, J, J, J, J, J, J, J, J, J, J, J, J, J, J, J, J, J, J, J, J, J, J, J, J, J, J, J, J, J, J, .var (.list (.int .u16)), J, J, J, J, .var .i, .var .i, .fix (.bref 6 0), .fix (.bref 7 0), .var .i, .var (.list .i), .var (.list .i)], [], []⟩) <| cond (Nat.beq cx 1449) (some ⟨[.cell 2 0 2 .i, .cell 2 0 3 .i], [(4, .i), (5, .i)], 55, [.raw 1 1, .raw 4 1, .raw 4 1, .raw 1 1, .dead, .dead, .blk .i 0 true, .blk .i 0 true], [J, .fix (.ptr 0 0 0 0), .fix (.ptr 1 0 0 0), .fix (.ptr 2 0 0 0), .fix (.ptr 3 0 0 0), .fix (.fn 34 [] [(.ptr 3 0 0 0), (.ptr 0 0 0 0)]), .var .i, .var .i, .fix (.fn 34 [] [(.ptr 3 0 0 0), (.ptr 0 0 0 0)]), .fix (.fn 34 [] [(.ptr 3 0 0 0), (.ptr 0 0 0 0)]), J, J, .fix (.ptr 2 0 0 0), .fix (.fn 34 [] [(.ptr 3 0 0 0), (.ptr 0 0 0 0)]), J, .fix (.fn 34 [] [(.ptr 3 0 0 0), (.ptr 0 0 0 0)]), J, J, J, .fix (.ptr 2 0 0 1), .fix (.fn 34 [] [(.ptr 3 0 0 0), (.ptr 0 0 0 0)]), J, .fix (.fn 34 [] [(.ptr 3 0 0 0), (.ptr 0 0 0 0)]), J, J, J, J, J, J, J, J, J, J, J, J, J, J, J, J, J, J, J, J, J, J, J, J, J, J, J, J, J, J, J, J, .var (.list (.int .u16)), J, J, J, J, .var .i, .var .i, .fix (.bref 6 0), .fix (.bref 7 0), .var .i, .var (.list .i), .var (.list .i)], [], []⟩) <| cond (Nat.beq cx 1450) (some ⟨[.cell 2 0 2 .i, .cell 2 0 3 .i], [(4, .i), (5, .i)], 55, [.raw 1 1, .raw 4 1, .raw 4 1, .raw 1 1, .dead, .dead, .blk .i 0 true, .blk .i 0 true], [J, .fix (.ptr 0 0 0 0), .fix (.ptr 1 0 0 0), .fix (.ptr 2 0 0 0), .fix (.ptr 3 0 0 0), .fix (.fn 34 [] [(.ptr 3 0 0 0), (.ptr 0 0 0 0)]), .var .i, .var .i, .fix (.fn 34 [] [(.ptr 3 0 0 0), (.ptr 0 0 0 0)]), .fix (.fn 34 [] [(.ptr 3 0 0 0), (.ptr 0 0 0 0)]), J, J, .fix (.ptr 2 0 0 0), .fix (.fn 34 [] [(.ptr 3 0 0 0), (.ptr 0 0 0 0)]), J, .fix (.fn 34 [] [(.ptr 3 0 0 0), (.ptr 0 0 0 0)]), J, J, J, .fix (.ptr 2 0 0 1), .fix (.fn 34 [] [(.ptr 3 0 0 0), (.ptr 0 0 0 0)]), J, .fix (.fn 34 [] [(.ptr 3 0 0 0), (.ptr 0 0 0 0)]), J, J, J, J, J, J, J, J, J, J, J, J, J, J, J, J, J, J, J, J, J, J, J, J, J, J, J, J, J, J, J, J, .var (.list (.int .u16)), J, J, J, J, .var .i, .var .i, .fix (.bref 6 0), .fix (.bref 7 0), .var .i, .var (.list .i), .var (.list .i)], [], []⟩) <| cond (Nat.beq cx 1621) (some ⟨[.cell 2 0 2 .i, .cell 2 0 3 .i], [(4, .i), (5, .i)], 55, [.raw 1 1, .raw 4 1, .raw 4 1, .raw 1 1, .dead, .dead, .blk .i 0 true, .blk .i 0 true], [J, .fix (.ptr 0 0 0 0), .fix (.ptr 1 0 0 0), .fix (.ptr 2 0 0 0), .fix (.ptr 3 0 0 0), .fix (.fn 34 [] [(.ptr 3 0 0 0), (.ptr 0 0 0 0)]), .var .i, .var .i, .fix (.fn 34 [] [(.ptr 3 0 0 0), (.ptr 0 0 0 0)]), .fix (.fn 34 [] [(.ptr 3 0 0 0), (.ptr 0 0 0 0)]), J, J, .fix (.ptr 2 0 0 0), .fix (.fn 34 [] [(.ptr 3 0 0 0), (.ptr 0 0 0 0)]), J, .fix (.fn 34 [] [(.ptr 3 0 0 0), (.ptr 0 0 0 0)]), J, J, J, .fix (.ptr 2 0 0 1), .fix (.fn 34 [] [(.ptr 3 0 0 0), (.ptr 0 0 0 0)]), J, .fix (.fn 34 [] [(.ptr 3 0 0 0), (.ptr 0 0 0 0)]), J, J, J, J, J, J, J, J, J, J, J, J, J, J, J, J, J, J, J, J, J, J, J, J, J, J, J, J, J, J, J, J, .var (.list (.int .u16)), J, J, J, J, .var .i, .var .i, .fix (.bref 6 0), .fix (.bref 7 0), .var .i, .var (.list .i), .var (.list .i)], [], []⟩) <| cond (Nat.beq cx 1622) (some ⟨[.cell 2 0 2 .i, .cell 2 0 3 .i], [(4, .i), (5, .i)], 55, [.raw 1 1, .raw 4 1, .raw 4 1, .raw 1 1, .dead, .dead, .blk .i 0 true, .blk .i 0 true], [J, .fix (.ptr 0 0 0 0), .fix (.ptr 1 0 0 0), .fix (.ptr 2 0 0 0), .fix (.ptr 3 0 0 0), .fix (.fn 34 [] [(.ptr 3 0 0 0), (.ptr 0 0 0 0)]), .var .i, .var .i, .fix (.fn 34 [] [(.ptr 3 0 0 0), (.ptr 0 0 0 0)]), .fix (.fn 34 [] [(.ptr 3 0 0 0), (.ptr 0 0 0 0)]), J, J, .fix (.ptr 2 0 0 0), .fix (.fn 34 [] [(.ptr 3 0 0 0), (.ptr 0 0 0 0)]), J, .fix (.fn 34 [] [(.ptr 3 0 0 0), (.ptr 0 0 0 0)]), J, J, J, .fix (.ptr 2 0 0 1), .fix (.fn 34 [] [(.ptr 3 0 0 0), (.ptr 0 0 0 0)]), J, .fix (.fn 34 [] [(.ptr 3 0 0 0), (.ptr 0 0 0 0)]), J, J, J, J, J, J, J, J, J, J, J, J, J, J, J, J, J, J, J, J, J, J, J, J, J, J, J, J, J, J, J, J, .var (.list (.int .u16)), J, J, J, J, .var .i, .var .i, .fix (.bref 6 0), .fix (.bref 7 0), .var .i, .var (.list .i), .var (.list .i)], [], []⟩) <| cond (Nat.beq cx 1625) (some ⟨[.cell 2 0 2 .i, .cell 2 0 3 .i], [(4, .i), (5, .i)], 55, [.raw 1 1, .raw 4 1, .raw 4 1, .raw 1 1, .dead, .dead, .blk .i 0 true, .blk .i 0 true], [J, .fix (.ptr 0 0 0 0), .fix (.ptr 1 0 0 0), .fix (.ptr 2 0 0 0), .fix (.ptr 3 0 0 0), .fix (.fn 34 [] [(.ptr 3 0 0 0), (.ptr 0 0 0 0)]), .var .i, .var .i, .fix (.fn 34 [] [(.ptr 3 0 0 0), (.ptr 0 0 0 0)]), .fix (.fn 34 [] [(.ptr 3 0 0 0), (.ptr 0 0 0 0)]), J, J, .fix (.ptr 2 0 0 0), .fix (.fn 34 [] [(.ptr 3 0 0 0), (.ptr 0 0 0 0)]), J, .fix (.fn 34 [] [(.ptr 3 0 0 0), (.ptr 0 0 0 0)]), J, J, J, .fix (.ptr 2 0 0 1), .fix (.fn 34 [] [(.ptr 3 0 0 0), (.ptr 0 0 0 0)]), J, .fix (.fn 34 [] [(.ptr 3 0 0 0), (.ptr 0 0 0 0)]), J, J, J, J, J, J, J, J, J, J, J, J, J, J, J, J, J, J, J, J, J, J, J, J, J, J, J, J, J, J, J, J, .var (.list (.int .u16)), J, J, J, J, .var .i, .var .i, .fix (.bref 6 0), .fix (.bref 7 0), .var .i, .var (.list .i), .var (.list .i)], [], []⟩) <| cond (Nat.beq cx 1626) (some ⟨[.cell 2 0 2 .i, .cell 2 0 3 .i], [(4, .i), (5, .i)], 55, [.raw 1 1, .raw 4 1, .raw 4 1, .raw 1 1, .dead, .dead, .blk .i 0 true, .blk .i 0 true], [J, .fix (.ptr 0 0 0 0), .fix (.ptr 1 0 0 0), .fix (.ptr 2 0 0 0), .fix (.ptr 3 0 0 0), .fix (.fn 34 [] [(.ptr 3 0 0 0), (.ptr 0 0 0 0)]), .var .i, .var .i, .fix (.fn 34 [] [(.ptr 3 0 0 0), (.ptr 0 0 0 0)]), .fix (.fn 34 [] [(.ptr 3 0 0 0), (.ptr 0 0 0 0)]), J, J, .fix (.ptr 2 0 0 0), .fix (.fn 34 [] [(.ptr 3 0 0 0), (.ptr 0 0 0 0)]), J, .fix (.fn 34 [] [(.ptr 3 0 0 0), (.ptr 0 0 0 0)]), J, J, J, .fix (.ptr 2 0 0 1), .fix (.fn 34 [] [(.ptr 3 0 0 0), (.ptr 0 0 0 0)]), J, .fix (.fn 34 [] [(.ptr 3 0 0 0), (.ptr 0 0 0 0)]), J, J, J, J, J, J, J, J, J, J, J, J, J, J, J, J, J, J, J, J, J, J, J, J, J, J, J, J, J, J, J, J, .var (.list (.int .u16)), J, J, J, J, .var .i, .var .i, .fix (.bref 6 0), .fix (.bref 7 0), .var .i, .var (.list .i), .var (.list .i)], [], []⟩) <| cond (Nat.beq cx 1637) (some ⟨[.cell 2 0 2 .i, .cell 2 0 3 .i], [(4, .i), (5, .i)], 55, [.raw 1 1, .raw 4 1, .raw 4 1, .raw 1 1, .dead, .dead, .blk .i 0 true, .blk .i 0 true], [J, .fix (.ptr 0 0 0 0), .fix (.ptr 1 0 0 0), .fix (.ptr 2 0 0 0), .fix (.ptr 3 0 0 0), .fix (.fn 34 [] [(.ptr 3 0 0 0), (.ptr 0 0 0 0)]), .var .i, .var .i, .fix (.fn 34 [] [(.ptr 3 0 0 0), (.ptr 0 0 0 0)]), .fix (.fn 34 [] [(.ptr 3 0 0 0), (.ptr 0 0 0 0)]), J, J, .fix (.ptr 2 0 0 0), .fix (.fn 34 [] [(.ptr 3 0 0 0), (.ptr 0 0 0 0)]), J, .fix (.fn 34 [] [(.ptr 3 0 0 0), (.ptr 0 0 0 0)]), J, J, J, .fix (.ptr 2 0 0 1), .fix (.fn 34 [] [(.ptr 3 0 0 0), (.ptr 0 0 0 0)]), J, .fix (.fn 34 [] [(.ptr 3 0 0 0), (.ptr 0 0 0 0)]), J, J, J, J, J, J, J, J, J, J, J, J, J, J, J, J, J, J, J, J, J, J, J, J, J, J, J, J, J, J, J, J, .var (.list (.int .u16)), J, J, J, J, .var .i, .var .i, .fix (.bref 6 0), .fix (.bref 7 0), .var .i, .var (.list .i), .var (.list .i)], [], []⟩) <| cond (Nat.beq cx 1638) (some ⟨[.cell 2 0 2 .i, .cell 2 0 3 .i], [(4, .i), (5, .i)], 55, [.raw 1 1, .raw 4 1, .raw 4 1, .raw 1 1, .dead, .dead, .blk .i 0 true, .blk .i 0 true], [J, .fix (.ptr 0 0 0 0), .fix (.ptr 1 0 0 0), .fix (.ptr 2 0 0 0), .fix (.ptr 3 0 0 0), .fix (.fn 34 [] [(.ptr 3 0 0 0), (.ptr 0 0 0 0)]), .var .i, .var .i, .fix (.fn 34 [] [(.ptr 3 0 0 0), (.ptr 0 0 0 0)]), .fix (.fn 34 [] [(.ptr 3 0 0 0), (.ptr 0 0 0 0)]), J, J, .fix (.ptr 2 0 0 0), .fix (.fn 34 [] [(.ptr 3 0 0 0), (.ptr 0 0 0 0)]), J, .fix (.fn 34 [] [(.ptr 3 0 0 0), (.ptr 0 0 0 0)]), J, J, J, .fix (.ptr 2 0 0 1), .fix (.fn 34 [] [(.ptr 3 0 0 0), (.ptr 0 0 0 0)]), J, .fix (.fn 34 [] [(.ptr 3 0 0 0), (.ptr 0 0 0 0)]), J, J, J, J, J, J, J, J, J, J, J, J, J, J, J, J, J, J, J, J, J, J, J, J, J, J, J, J, J, J, J, J, .var (.list (.int .u16)), J, J, J, J, .var .i, .var .i, .fix (.bref 6 0), .fix (.bref 7 0), .var .i, .var (.list .i), .var (.list .i)], [], []⟩) <| cond (Nat.beq cx 1641) (some ⟨[.cell 2 0 2 .i, .cell 2 0 3 .i], [(4, .i), (5, .i)], 55, [.raw 1 1, .raw 4 1, .raw 4 1, .raw 1 1, .dead, .dead, .blk .i 0 true, .blk .i 0 true], [J, .fix (.ptr 0 0 0 0), .fix (.ptr 1 0 0 0), .fix (.ptr 2 0 0 0), .fix (.ptr 3 0 0 0), .fix (.fn 34 [] [(.ptr 3 0 0 0), (.ptr 0 0 0 0)]), .var .i, .var .i, .fix (.fn 34 [] [(.ptr 3 0 0 0), (.ptr 0 0 0 0)]), .fix (.fn 34 [] [(.ptr 3 0 0 0), (.ptr 0 0 0 0)]), J, J, .fix (.ptr 2 0 0 0), .fix (.fn 34 [] [(.ptr 3 0 0 0), (.ptr 0 0 0 0)]), J, .fix (.fn 34 [] [(.ptr 3 0 0 0), (.ptr 0 0 0 0)]), J, J, J, .fix (.ptr 2 0 0 1), .fix (.fn 34 [] [(.ptr 3 0 0 0), (.ptr 0 0 0 0)]), J, .fix (.fn 34 [] [(.ptr 3 0 0 0), (.ptr 0 0 0 0)]), J, J, J, J, J, J, J, J, J, J, J, J, J, J, J, J, J, J, J, J, J, J, J, J, J, J, J, J, J, J, J, J, .var (.list (.int .u16)), J, J, J, J, .var .i, .var .i, .fix (.bref 6 0), .fix (.bref 7 0), .var .i, .var (.list .i), .var (.list .i)], [], []⟩) <| cond (Nat.beq cx 1642) (some ⟨[.cell 2 0 2 .i, .cell 2 0 3 .i], [(4, .i), (5, .i)], 55, [.raw 1 1, .raw 4 1, .raw 4 1, .raw 1 1, .dead, .dead, .blk .i 0 true, .blk .i 0 true], [J, .fix (.ptr 0 0 0 0), .fix (.ptr 1 0 0 0), .fix (.ptr 2 0 0 0), .fix (.ptr 3 0 0 0), .fix (.fn 34 [] [(.ptr 3 0 0 0), (.ptr 0 0 0 0)]), .var .i, .var .i, .fix (.fn 34 [] [(.ptr 3 0 0 0), (.ptr 0 0 0 0)]), .fix (.fn 34 [] [(.ptr 3 0 0 0), (.ptr 0 0 0 0)]), J, J, .fix (.ptr 2 0 0 0), .fix (.fn 34 [] [(.ptr 3 0 0 0), (.ptr 0 0 0 0)]), J, .fix (.fn 34 [] [(.ptr 3 0 0 0), (.ptr 0 0 0 0)]), J, J, J, .fix (.ptr 2 0 0 1), .fix (.fn 34 [] [(.ptr 3 0 0 0), (.ptr 0 0 0 0)]), J, .fix (.fn 34 [] [(.ptr 3 0 0 0), (.ptr 0 0 0 0)]), J, J, J, J, J, J, J, J, J, J, J, J, J, J, J, J, J, J, J, J, J, J, J, J, J, J, J, J, J, J, J, J, .var (.list (.int .u16)), J, J, J, J, .var .i, .var .i, .fix (.bref 6 0), .fix (.bref 7 0), .var .i, .var (.list .i), .var (.list .i)], [], []⟩) <| cond (Nat.beq cx 1685) (some ⟨[.cell 2 0 2 .i, .cell 2 0 3 .i], [(4, .i), (5, .i)], 55, [.raw 1 1, .raw 4 1, .raw 4 1, .raw 1 1, .dead, .dead, .blk .i 0 true, .blk .i 0 true], [J, .fix (.ptr 0 0 0 0), .fix (.ptr 1 0 0 0), .fix (.ptr 2 0 0 0), .fix (.ptr 3 0 0 0), .fix (.fn 34 [] [(.ptr 3 0 0 0), (.ptr 0 0 0 0)]), .var .i, .var .i, .fix (.fn 34 [] [(.ptr 3 0 0 0), (.ptr 0 0 0 0)]), .fix (.fn 34 [] [(.ptr 3 0 0 0), (.ptr 0 0 0 0)]), J, J, .fix (.ptr 2 0 0 0), .fix (.fn 34 [] [(.ptr 3 0 0 0), (.ptr 0 0 0 0)]), J, .fix (.fn 34 [] [(.ptr 3 0 0 0), (.ptr 0 0 0 0)]), J, J, J, .fix (.ptr 2 0 0 1), .fix (.fn 34 [] [(.ptr 3 0 0 0), (.ptr 0 0 0 0)]), J, .fix (.fn 34 [] [(.ptr 3 0 0 0), (.ptr 0 0 0 0)]), J, J, J, J, J, J, J, J, J, J, J, J, J, J, J, J, J, J, J, J, J, J, J, J, J, J, J, J, J, J, J, J, .var (.list (.int .u16)), J, J, J, J, .var .i, .var .i, .fix (.bref 6 0), .fix (.bref 7 0), .var .i, .var (.list .i), .var (.list .i)], [], []⟩) <| cond (Nat.beq cx 1686) (some ⟨[.cell 2 0 2 .i, .cell 2 0 3 .i], [(4, .i), (5, .i)], 55, [.raw 1 1, .raw 4 1, .raw 4 1, .raw 1 1, .dead, .dead, .blk .i 0 true, .blk .i 0 true], [J, .fix (.ptr 0 0 0 0), .fix (.ptr 1 0 0 0), .fix (.ptr 2 0 0 0), .fix (.ptr 3 0 0 0), .fix (.fn 34 [] [(.ptr 3 0 0 0), (.ptr 0 0 0 0)]), .var .i, .var .i, .fix (.fn 34 [] [(.ptr 3 0 0 0), (.ptr 0 0 0 0)]), .fix (.fn 34 [] [(.ptr 3 0 0 0), (.ptr 0 0 0 0)]), J, J, .fix (.ptr 2 0 0 0), .fix (.fn 34 [] [(.ptr 3 0 0 0), (.ptr 0 0 0 0)]), J, .fix (.fn 34 [] [(.ptr 3 0 0 0), (.ptr 0 0 0 0)]), J, J, J, .fix (.ptr 2 0 0 1), .fix (.fn 34 [] [(.ptr 3 0 0 0), (.ptr 0 0 0 0)]), J, .fix (.fn 34 [] [(.ptr 3 0 0 0), (.ptr 0 0 0 0)]), J, J, J, J, J, J, J, J, J, J, J, J, J, J, J, J, J, J, J, J, J, J, J, J, J, J, J, J, J, J, J, J, .var (.list (.int .u16)), J, J, J, J, .var .i, .var .i, .fix (.bref 6 0), .fix (.bref 7 0), .var .i, .var (.list .i), .var (.list .i)], [], []⟩) <| cond (Nat.beq cx 1689) (some ⟨[.cell 2 0 2 .i, .cell 2 0 3 .i], [(4, .i), (5, .i)], 55, [.raw 1 1, .raw 4 1, .raw 4 1, .raw 1 1, .dead, .dead, .blk .i 0 true, .blk .i 0 true], [J, .fix (.ptr 0 0 0 0), .fix (.ptr 1 0 0 0), .fix (.ptr 2 0 0 0), .fix (.ptr 3 0 0 0), .fix (.fn 34 [] [(.ptr 3 0 0 0), (.ptr 0 0 0 0)]), .var .i, .var .i, .fix (.fn 34 [] [(.ptr 3 0 0 0), (.ptr 0 0 0 0)]), .fix (.fn 34 [] [(.ptr 3 0 0 0), (.ptr 0 0 0 0)]), J, J, .fix (.ptr 2 0 0 0), .fix (.fn 34 [] [(.ptr 3 0 0 0), (.ptr 0 0 0 0)]), J, .fix (.fn 34 [] [(.ptr 3 0 0 0), (.ptr 0 0 0 0)]), J, J, J, .fix (.ptr 2 0 0 1), .fix (.fn 34 [] [(.ptr 3 0 0 0), (.ptr 0 0 0 0)]), J, .fix (.fn 34 [] [(.ptr 3 0 0 0), (.ptr 0 0 0 0)]), J, J, J, J, J, J, J, J, J, J, J, J, J, J, J, J, J, J, J, J, J, J, J, J, J, J, J, J, J, J, J, J, .var (.list (.int .u16)), J, J, J, J, .var .i, .var .i, .fix (.bref 6 0), .fix (.bref 7 0), .var .i, .var (.list .i), .var (.list .i)], [], []⟩) <| cond (Nat.beq cx 1690) (some ⟨[.cell 2 0 2 .i, .cell 2 0 3 .i], [(4, .i), (5, .i)], 55, [.raw 1 1, .raw 4 1, .raw 4 1, .raw 1 1, .dead, .dead, .blk .i 0 true, .blk .i 0 true], [J, .fix (.ptr 0 0 0 0), .fix (.ptr 1 0 0 0), .fix (.ptr 2 0 0 0), .fix (.ptr 3 0 0 0), .fix (.fn 34 [] [(.ptr 3 0 0 0), (.ptr 0 0 0 0)]), .var .i, .var .i, .fix (.fn 34 [] [(.ptr 3 0 0 0), (.ptr 0 0 0 0)]), .fix (.fn 34 [] [(.ptr 3 0 0 0), (.ptr 0 0 0 0)]), J, J, .fix (.ptr 2 0 0 0), .fix (.fn 34 [] [(.ptr 3 0 0 0), (.ptr 0 0 0 0)]), J, .fix (.fn 34 [] [(.ptr 3 0 0 0), (.ptr 0 0 0 0)]), J, J, J, .fix (.ptr 2 0 0 1), .fix (.fn 34 [] [(.ptr 3 0 0 0), (.ptr 0 0 0 0)]), J, .fix (.fn 34 [] [(.ptr 3 0 0 0), (.ptr 0 0 0 0)]), J, J, J, J, J, J, J, J, J, J, J, J, J, J, J, J, J, J, J, J, J, J, J, J, J, J, J, J, J, J, J, J, .var (.list (.int .u16)), J, J, J, J, .var .i, .var .i, .fix (.bref 6 0), .fix (.bref 7 0), .var .i, .var (.list .i), .var (.list .i)], [], []⟩) <| cond (Nat.beq cx 1701) (some ⟨[.cell 2 0 2 .i, .cell 2 0 3 .i], [(4, .i), (5, .i)], 55, [.raw 1 1, .raw 4 1, .raw 4 1, .raw 1 1, .dead, .dead, .blk .i 0 true, .blk .i 0 true], [J, .fix (.ptr 0 0 0 0), .fix (.ptr 1 0 0 0), .fix (.ptr 2 0 0 0), .fix (.ptr 3 0 0 0), .fix (.fn 34 [] [(.ptr 3 0 0 0), (.ptr 0 0 0 0)]), .var .i, .var .i, .fix (.fn 34 [] [(.ptr 3 0 0 0), (.ptr 0 0 0 0)]), .fix (.fn 34 [] [(.ptr 3 0 0 0), (.ptr 0 0 0 0)]), J, J, .fix (.ptr 2 0 0 0), .fix (.fn 34 [] [(.ptr 3 0 0 0), (.ptr 0 0 0 0)]), J, .fix (.fn 34 [] [(.ptr 3 0 0 0), (.ptr 0 0 0 0)]), J, J, J, .fix (.ptr 2 0 0 1), .fix (.fn 34 [] [(.ptr 3 0 0 0), (.ptr 0 0 0 0)]), J, .fix (.fn 34 [] [(.ptr 3 0 0 0), (.ptr 0 0 0 0)]), J, J, J, J, J, J, J, J, J, J, J, J, J, J, J, J, J, J, J, J, J, J, J, J, J, J, J, J, J, J, J, J, .var (.list (.int .u16)), J, J, J, J, .var .i, .var .i, .fix (.bref 6 0), .fix (.bref 7 0), .var .i, .var (.list .i), .var (.list .i)], [], []⟩) <| cond (Nat.beq cx 1702) (some ⟨[.cell 2 0 2 .i, .cell 2 0 3 .i], [(4, .i), (5, .i)], 55, [.raw 1 1, .raw 4 1, .raw 4 1, .raw 1 1, .dead, .dead, .blk .i 0 true, .blk .i 0 true], [J, .fix (.ptr 0 0 0 0), .fix (.ptr 1 0 0 0), .fix (.ptr 2 0 0 0), .fix (.ptr 3 0 0 0), .fix (.fn 34 [] [(.ptr 3 0 0 0), (.ptr 0 0 0 0)]), .var .i, .var .i, .fix (.fn 34 [] [(.ptr 3 0 0 0), (.ptr 0 0 0 0)]), .fix (.fn 34 [] [(.ptr 3 0 0 0), (.ptr 0 0 0 0)]), J, J, .fix (.ptr 2 0 0 0), .fix (.fn 34 [] [(.ptr 3 0 0 0), (.ptr 0 0 0 0)]), J, .fix (.fn 34 [] [(.ptr 3 0 0 0), (.ptr 0 0 0 0)]), J, J, J, .fix (.ptr 2 0 0 1), .fix (.fn 34 [] [(.ptr 3 0 0 0), (.ptr 0 0 0 0)]), J, .fix (.fn 34 [] [(.ptr 3 0 0 0), (.ptr 0 0 0 0)]), J, J, J, J, J, J, J, J, J, J, J, J, J, J, J, J, J, J, J, J, J, J, J, J, J, J, J, J, J, J, J, J, .var (.list (.int .u16)), J, J, J, J, .var .i, .var .i, .fix (.bref 6 0), .fix (.bref 7 0), .var .i, .var (.list .i), .var (.list .i)], [], []⟩) <| cond (Nat.beq cx 1705) (some ⟨[.cell 2 0 2 .i, .cell 2 0 3 .i], [(4, .i), (5, .i)], 55, [.raw 1 1, .raw 4 1, .raw 4 1, .raw 1 1, .dead, .dead, .blk .i 0 true, .blk .i 0 true], [J, .fix (.ptr 0 0 0 0), .fix (.ptr 1 0 0 0), .fix (.ptr 2 0 0 0), .fix (.ptr 3 0 0 0), .fix (.fn 34 [] [(.ptr 3 0 0 0), (.ptr 0 0 0 0)]), .var .i, .var .i, .fix (.fn 34 [] [(.ptr 3 0 0 0), (.ptr 0 0 0 0)]), .fix (.fn 34 [] [(.ptr 3 0 0 0), (.ptr 0 0 0 0)]), J, J, .fix (.ptr 2 0 0 0), .fix (.fn 34 [] [(.ptr 3 0 0 0), (.ptr 0 0 0 0)]), J, .fix (.fn 34 [] [(.ptr 3 0 0 0), (.ptr 0 0 0 0)]), J, J, J, .fix (.ptr 2 0 0 1), .fix (.fn 34 [] [(.ptr 3 0 0 0), (.ptr 0 0 0 0)]), J, .fix (.fn 34 [] [(.ptr 3 0 0 0), (.ptr 0 0 0 0)]), J, J, J, J, J, J, J, J, J, J, J, J, J, J, J, J, J, J, J, J, J, J, J, J, J, J, J, J, J, J, J, J, .var (.list (.int .u16)), J, J, J, J, .var .i, .var .i, .fix (.bref 6 0), .fix (.bref 7 0), .var .i, .var (.list .i), .var (.list .i)], [], []⟩) <| cond (Nat.beq cx 1706) (some ⟨[.cell 2 0 2 .i, .cell 2 0 3 .i], [(4, .i), (5, .i)], 55, [.raw 1 1, .raw 4 1, .raw 4 1, .raw 1 1, .dead, .dead, .blk .i 0 true, .blk .i 0 true], [J, .fix (.ptr 0 0 0 0), .fix (.ptr 1 0 0 0), .fix (.ptr 2 0 0 0), .fix (.ptr 3 0 0 0), .fix (.fn 34 [] [(.ptr 3 0 0 0), (.ptr 0 0 0 0)]), .var .i, .var .i, .fix (.fn 34 [] [(.ptr 3 0 0 0), (.ptr 0 0 0 0)]), .fix (.fn 34 [] [(.ptr 3 0 0 0), (.ptr 0 0 0 0)]), J, J, .fix (.ptr 2 0 0 0), .fix (.fn 34 [] [(.ptr 3 0 0 0), (.ptr 0 0 0 0)]), J, .fix (.fn 34 [] [(.ptr 3 0 0 0), (.ptr 0 0 0 0)]), J, J, J, .fix (.ptr 2 0 0 1), .fix (.fn 34 [] [(.ptr 3 0 0 0), (.ptr 0 0 0 0)]), J, .fix (.fn 34 [] [(.ptr 3 0 0 0), (.ptr 0 0 0 0)]), J, J, J, J, J, J, J, J, J, J, J, J, J, J, J, J, J, J, J, J, J, J, J, J, J, J, J, J, J, J, J, J, .var (.list (.int .u16)), J, J, J, J, .var .i, .var .i, .fix (.bref 6 0), .fix (.bref 7 0), .var .i, .var (.list .i), .var (.list .i)], [], []⟩) <| none
noncomputable def gh_law03_Made : Nat → Nat → Option (Nat × Nat) := fun _ _ => none
theorem t_law03_Made (N : Nat) (a0 : (List Int)) : symF (seat.mk' (spOf L_scan_Place) tm_law03_Made gh_law03_Made) N 400 20 [(.list (.int .u16))] [.record] a0 = G_law03_Made N a0 := by kernel_rfl
noncomputable def L_law03_Made : List (FuncId × Spec) := (20, ⟨[(.list (.int .u16))], [.record], S_law03_Made⟩) :: L_scan_Place
theorem ok_law03_Made : OrcOk Try.prog (orcOf L_law03_Made) := specs_cons sseat good primOk ok_scan_Place (by kernel_rfl) ⟨_, Try.func20, by rfl⟩ (tm := tm_law03_Made) (gh := gh_law03_Made) fun x y h => by obtain ⟨N, h⟩ := lim_spec h; exact ⟨N, 400, (t_law03_Made N x).trans h⟩
noncomputable def tm_ref03_keys : Nat → Option Tmpl := fun cx => cond (Nat.beq cx 1) (some ⟨[], [], 46, [], [.var (.list .i), J, J, .var .i, J, J, J, J, J, J, J, J, J, J, J, J, J, J, J, J, J, J, J, J, J, J, J, J, J, J, J, J, J, J, J, J, J, J, J, J, J, J, J, J, J, J], [], []⟩) <| none
noncomputable def gh_ref03_keys : Nat → Nat → Option (Nat × Nat) := fun _ _ => none
theorem t_ref03_keys (N : Nat) (a0 : (List Int)) : symF (seat.mk' (spOf L_law03_Made) tm_ref03_keys gh_ref03_keys) N 400 57 [(.list .i)] [.bool] a0 = G_ref03_keys N a0 := by kernel_rfl
noncomputable def L_ref03_keys : List (FuncId × Spec) := (57, ⟨[(.list .i)], [.bool], S_ref03_keys⟩) :: L_law03_Made
theorem ok_ref03_keys : OrcOk Try.prog (orcOf L_ref03_keys) := specs_cons sseat good primOk ok_law03_Made (by kernel_rfl) ⟨_, Try.func57, by rfl⟩ (tm := tm_ref03_keys) (gh := gh_ref03_keys) fun x y h => by obtain ⟨N, h⟩ := lim_spec h; exact ⟨N, 400, (t_ref03_keys N x).trans h⟩
noncomputable def tm_ref03_Right : Nat → Option Tmpl := fun cx => cond (Nat.beq cx 26) (some ⟨[], [], 58, [.st .record], [J, .fix (.ptr 0 0 0 0), J, .var .i, .fix (.ptr 0 0 0 1), J, J, J, .fix (.ptr 0 0 0 1), J, J, J, J, .fix (.ptr 0 0 0 2), J, J, J, J, .fix (.ptr 0 0 0 0), J, J, J, J, J, J, J, J, J, J, J, J, J, J, J, J, J, J, J, J, J, J, J, J, J, J, J, J, J, J, J, J, J, J, J, J, J, J, J, .agg .record], [], []⟩) <| none
noncomputable def gh_ref03_Right : Nat → Nat → Option (Nat × Nat) := fun _ _ => none
theorem t_ref03_Right (N : Nat) (a0 : Record) : symF (seat.mk' (spOf L_ref03_keys) tm_ref03_Right gh_ref03_Right) N 400 41 [.record] [.bool] a0 = G_ref03_Right N a0 := by kernel_rfl
noncomputable def L_ref03_Right : List (FuncId × Spec) := (41, ⟨[.record], [.bool], S_ref03_Right⟩) :: L_ref03_keys
theorem ok_ref03_Right : OrcOk Try.prog (orcOf L_ref03_Right) := specs_cons sseat good primOk ok_ref03_keys (by kernel_rfl) ⟨_, Try.func41, by rfl⟩ (tm := tm_ref03_Right) (gh := gh_ref03_Right) fun x y h => by obtain ⟨N, h⟩ := lim_spec h; exact ⟨N, 400, (t_ref03_Right N x).trans h⟩
noncomputable def tm_ref02_Put : Nat → Option Tmpl := fun cx => cond (Nat.beq cx 6) (some ⟨[], [], 28, [], [.var .i, J, J, .var .str, J, J, J, J, J, J, J, J, J, J, J, J, J, J, J, J, J, J, J, J, J, J, J, J], [], []⟩) <| none
noncomputable def gh_ref02_Put : Nat → Nat → Option (Nat × Nat) := fun _ _ => none
theorem t_ref02_Put (N : Nat) (a0 : Int) : symF (seat.mk' (spOf L_ref03_Right) tm_ref02_Put gh_ref02_Put) N 400 72 [.i] [.str] a0 = G_ref02_Put N a0 := by kernel_rfl
noncomputable def L_ref02_Put : List (FuncId × Spec) := (72, ⟨[.i], [.str], S_ref02_Put⟩) :: L_ref03_Right
theorem ok_ref02_Put : OrcOk Try.prog (orcOf L_ref02_Put) := specs_cons sseat good primOk ok_ref03_Right (by kernel_rfl) ⟨_, Try.func72, by rfl⟩ (tm := tm_ref02_Put) (gh := gh_ref02_Put) fun x y h => by obtain ⟨N, h⟩ := lim_spec h; exact ⟨N, 400, (t_ref02_Put N x).trans h⟩
noncomputable def tm_ref02_Pack : Nat → Option Tmpl := fun cx => cond (Nat.beq cx 1) (some ⟨[], [], 27, [], [.var (.list .i), J, J, J, .var .str, .var .i, J, J, J, J, J, J, J, J, J, J, J, J, J, J, J, J, J, J, J, J, J], [], []⟩) <| none
noncomputable def gh_ref02_Pack : Nat → Nat → Option (Nat × Nat) := fun _ _ => none
theorem t_ref02_Pack (N : Nat) (a0 : (List Int)) : symF (seat.mk' (spOf L_ref02_Put) tm_ref02_Pack gh_ref02_Pack) N 400 58 [(.list .i)] [.str, .i] a0 = G_ref02_Pack N a0 := by kernel_rfl
noncomputable def L_ref02_Pack : List (FuncId × Spec) := (58, ⟨[(.list .i)], [.str, .i], S_ref02_Pack⟩) :: L_ref02_Put
theorem ok_ref02_Pack : OrcOk Try.prog (orcOf L_ref02_Pack) := specs_cons sseat good primOk ok_ref02_Put (by kernel_rfl) ⟨_, Try.func58, by rfl⟩ (tm := tm_ref02_Pack) (gh := gh_ref02_Pack) fun x y h => by obtain ⟨N, h⟩ := lim_spec h; exact ⟨N, 400, (t_ref02_Pack N x).trans h⟩
noncomputable def tm_ref03_body : Nat → Option Tmpl := fun cx => cond (Nat.beq cx 1) (some ⟨[.tmp 4 .i], [(2, .i)], 54, [.st .record, .blk .i 0 false, .dead, .blk .i 0 true], [J, .fix (.ptr 0 0 0 0), J, .fix (.bref 1 0), .fix (.bref 3 0), .var .i, J, J, J, J, J, J, .fix (.ptr 0 0 0 0), J, .fix (.ptr 0 0 0 1), J, .fix (.bref 1 0), J, J, J, J, J, J, J, J, J, J, J, J, J, J, J, J, J, J, J, J, J, J, J, J, J, J, J, J, J, J, J, J, J, J, J, J, J, .agg .record, .var (.list .i), .var (.list .i)], [], []⟩) <| none
noncomputable def gh_ref03_body : Nat → Nat → Option (Nat × Nat) := fun _ _ => none
theorem t_ref03_body (N : Nat) (a0 : Record) : symF (seat.mk' (spOf L_ref02_Pack) tm_ref03_body gh_ref03_body) N 400 42 [.record] [.str] a0 = G_ref03_body N a0 := by kernel_rfl
noncomputable def L_ref03_body : List (FuncId × Spec) := (42, ⟨[.record], [.str], S_ref03_body⟩) :: L_ref02_Pack
theorem ok_ref03_body : OrcOk Try.prog (orcOf L_ref03_body) := specs_cons sseat good primOk ok_ref02_Pack (by kernel_rfl) ⟨_, Try.func42, by rfl⟩ (tm := tm_ref03_body) (gh := gh_ref03_body) fun x y h => by obtain ⟨N, h⟩ := lim_spec h; exact ⟨N, 400, (t_ref03_body N x).trans h⟩
noncomputable def tm_ref01_Bytes : Nat → Option Tmpl := fun _ => none
noncomputable def gh_ref01_Bytes : Nat → Nat → Option (Nat × Nat) := fun _ _ => none
theorem t_ref01_Bytes (N : Nat) (a0 : Int) : symF (seat.mk' (spOf L_ref03_body) tm_ref01_Bytes gh_ref01_Bytes) N 400 43 [.i] [.str] a0 = G_ref01_Bytes a0 := by kernel_rfl
noncomputable def L_ref01_Bytes : List (FuncId × Spec) := (43, ⟨[.i], [.str], S_ref01_Bytes⟩) :: L_ref03_body
theorem ok_ref01_Bytes : OrcOk Try.prog (orcOf L_ref01_Bytes) := specs_cons sseat good primOk ok_ref03_body (by kernel_rfl) ⟨_, Try.func43, by rfl⟩ (tm := tm_ref01_Bytes) (gh := gh_ref01_Bytes) fun x y h => ⟨0, 400, (t_ref01_Bytes 0 x).trans h⟩
noncomputable def tm_ref01_step : Nat → Option Tmpl := fun _ => none
noncomputable def gh_ref01_step : Nat → Nat → Option (Nat × Nat) := fun _ _ => none
theorem t_ref01_step (N : Nat) (a0 : Int) : symF (seat.mk' (spOf L_ref01_Bytes) tm_ref01_step gh_ref01_step) N 400 59 [.i] [.i] a0 = G_ref01_step a0 := by kernel_rfl
noncomputable def L_ref01_step : List (FuncId × Spec) := (59, ⟨[.i], [.i], S_ref01_step⟩) :: L_ref01_Bytes
theorem ok_ref01_step : OrcOk Try.prog (orcOf L_ref01_step) := specs_cons sseat good primOk ok_ref01_Bytes (by kernel_rfl) ⟨_, Try.func59, by rfl⟩ (tm := tm_ref01_step) (gh := gh_ref01_step) fun x y h => ⟨0, 400, (t_ref01_step 0 x).trans h⟩
noncomputable def tm_ref01_Sum : Nat → Option Tmpl := fun cx => cond (Nat.beq cx 1) (some ⟨[], [], 26, [], [.var .str, J, J, .var .i, .var .i, J, J, J, J, J, J, J, J, J, J, J, J, J, J, J, J, J, J, J, J, J], [], []⟩) <| cond (Nat.beq cx 29) (some ⟨[], [], 26, [], [.var .str, J, J, .var .i, .var .i, .var .i, J, J, J, J, J, J, J, J, J, J, J, J, J, J, J, J, J, J, J, J], [], []⟩) <| none
noncomputable def gh_ref01_Sum : Nat → Nat → Option (Nat × Nat) := fun _ _ => none
theorem t_ref01_Sum (N : Nat) (a0 : Str) : symF (seat.mk' (spOf L_ref01_step) tm_ref01_Sum gh_ref01_Sum) N 400 44 [.str] [.i] a0 = G_ref01_Sum N a0 := by kernel_rfl
noncomputable def L_ref01_Sum : List (FuncId × Spec) := (44, ⟨[.str], [.i], S_ref01_Sum⟩) :: L_ref01_step
theorem ok_ref01_Sum : OrcOk Try.prog (orcOf L_ref01_Sum) := specs_cons sseat good primOk ok_ref01_step (by kernel_rfl) ⟨_, Try.func44, by rfl⟩ (tm := tm_ref01_Sum) (gh := gh_ref01_Sum) fun x y h => by obtain ⟨N, h⟩ := lim_spec h; exact ⟨N, 400, (t_ref01_Sum N x).trans h⟩
noncomputable def tm_ref03_Encode : Nat → Option Tmpl := fun _ => none
noncomputable def gh_ref03_Encode : Nat → Nat → Option (Nat × Nat) := fun _ _ => none
theorem t_ref03_Encode (N : Nat) (a0 : Record) (a1 : Str) : symF (seat.mk' (spOf L_ref01_Sum) tm_ref03_Encode gh_ref03_Encode) N 400 32 [.record, .str] [.str, .i] (a0, a1) = G_ref03_Encode a0 a1 := by kernel_rfl
noncomputable def L_ref03_Encode : List (FuncId × Spec) := (32, ⟨[.record, .str], [.str, .i], S_ref03_Encode⟩) :: L_ref01_Sum
theorem ok_ref03_Encode : OrcOk Try.prog (orcOf L_ref03_Encode) := specs_cons sseat good primOk ok_ref01_Sum (by kernel_rfl) ⟨_, Try.func32, by rfl⟩ (tm := tm_ref03_Encode) (gh := gh_ref03_Encode) fun x y h => ⟨0, 400, (t_ref03_Encode 0 x.1 x.2).trans h⟩
noncomputable def tm_ref04_Make : Nat → Option Tmpl := fun _ => none
noncomputable def gh_ref04_Make : Nat → Nat → Option (Nat × Nat) := fun _ _ => none
theorem t_ref04_Make (N : Nat) (a0 : Write) : symF (seat.mk' (spOf L_ref03_Encode) tm_ref04_Make gh_ref04_Make) N 400 21 [.write] [.page, .i] a0 = G_ref04_Make a0 := by kernel_rfl
noncomputable def L_ref04_Make : List (FuncId × Spec) := (21, ⟨[.write], [.page, .i], S_ref04_Make⟩) :: L_ref03_Encode
theorem ok_ref04_Make : OrcOk Try.prog (orcOf L_ref04_Make) := specs_cons sseat good primOk ok_ref03_Encode (by kernel_rfl) ⟨_, Try.func21, by rfl⟩ (tm := tm_ref04_Make) (gh := gh_ref04_Make) fun x y h => ⟨0, 400, (t_ref04_Make 0 x).trans h⟩
noncomputable def tm_law06_Page : Nat → Option Tmpl := fun _ => none
noncomputable def gh_law06_Page : Nat → Nat → Option (Nat × Nat) := fun _ _ => none
theorem t_law06_Page (N : Nat) (a0 : Int) (a1 : (List Int)) : symF (seat.mk' (spOf L_ref04_Make) tm_law06_Page gh_law06_Page) N 400 12 [.i, (.list (.int .u16))] [.page] (a0, a1) = G_law06_Page a0 a1 := by kernel_rfl
noncomputable def L_law06_Page : List (FuncId × Spec) := (12, ⟨[.i, (.list (.int .u16))], [.page], S_law06_Page⟩) :: L_ref04_Make
theorem ok_law06_Page : OrcOk Try.prog (orcOf L_law06_Page) := specs_cons sseat good primOk ok_ref04_Make (by kernel_rfl) ⟨_, Try.func12, by rfl⟩ (tm := tm_law06_Page) (gh := gh_law06_Page) fun x y h => ⟨0, 400, (t_law06_Page 0 x.1 x.2).trans h⟩
noncomputable def tm_pack_finish : Nat → Option Tmpl := fun _ => none
noncomputable def gh_pack_finish : Nat → Nat → Option (Nat × Nat) := fun _ _ => none
theorem t_pack_finish (N : Nat) (a0 : Int) (a1 : Str) (a2 : Bool) : symF (seat.mk' (spOf L_law06_Page) tm_pack_finish gh_pack_finish) N 400 85 [.i, .str, .bool] [.i, .str, .bool] (a0, a1, a2) = G_pack_finish a0 a1 a2 := by kernel_rfl
noncomputable def L_pack_finish : List (FuncId × Spec) := (85, ⟨[.i, .str, .bool], [.i, .str, .bool], S_pack_finish⟩) :: L_law06_Page
theorem ok_pack_finish : OrcOk Try.prog (orcOf L_pack_finish) := specs_cons sseat good primOk ok_law06_Page (by kernel_rfl) ⟨_, Try.func85, by rfl⟩ (tm := tm_pack_finish) (gh := gh_pack_finish) fun x y h => ⟨0, 400, (t_pack_finish 0 x.1 x.2.1 x.2.2).trans h⟩
noncomputable def tm_pack_Take : Nat → Option Tmpl := fun cx => cond (Nat.beq cx 1) (some ⟨[], [], 42, [], [.var .str, J, .var .i, J, J, J, J, J, J, .var .i, .var .i, J, J, J, J, J, J, J, J, J, J, J, J, J, J, J, J, J, J, J, J, J, J, J, J, J, J, J, J, J, J, J], [], []⟩) <| none
noncomputable def gh_pack_Take : Nat → Nat → Option (Nat × Nat) := fun _ _ => none
theorem t_pack_Take (N : Nat) (a0 : Str) : symF (seat.mk' (spOf L_pack_finish) tm_pack_Take gh_pack_Take) N 400 80 [.str] [.i, .str, .bool] a0 = G_pack_Take N a0 := by kernel_rfl
noncomputable def L_pack_Take : List (FuncId × Spec) := (80, ⟨[.str], [.i, .str, .bool], S_pack_Take⟩) :: L_pack_finish
theorem ok_pack_Take : OrcOk Try.prog (orcOf L_pack_Take) := specs_cons sseat good primOk ok_pack_finish (by kernel_rfl) ⟨_, Try.func80, by rfl⟩ (tm := tm_pack_Take) (gh := gh_pack_Take) fun x y h => by obtain ⟨N, h⟩ := lim_spec h; exact ⟨N, 400, (t_pack_Take N x).trans h⟩
noncomputable def tm_pack_Unpack : Nat → Option Tmpl := fun cx => cond (Nat.beq cx 6) (some ⟨[.tmp 2 .i], [(0, .i)], 40, [.dead, .blk .i 0 true], [J, J, .fix (.bref 1 0), .var .str, J, J, J, J, J, J, J, J, J, J, J, J, J, J, J, J, J, J, .var .i, .var .i, J, J, J, J, J, J, J, J, J, J, J, J, J, J, J, J, .var (.list .i)], [], []⟩) <| none
noncomputable def gh_pack_Unpack : Nat → Nat → Option (Nat × Nat) := fun _ _ => none
theorem t_pack_Unpack (N : Nat) (a0 : Str) : symF (seat.mk' (spOf L_pack_Take) tm_pack_Unpack gh_pack_Unpack) N 400 73 [.str] [(.list .i), .str, .i] a0 = G_pack_Unpack N a0 := by kernel_rfl
noncomputable def L_pack_Unpack : List (FuncId × Spec) := (73, ⟨[.str], [(.list .i), .str, .i], S_pack_Unpack⟩) :: L_pack_Take
theorem ok_pack_Unpack : OrcOk Try.prog (orcOf L_pack_Unpack) := specs_cons sseat good primOk ok_pack_Take (by kernel_rfl) ⟨_, Try.func73, by rfl⟩ (tm := tm_pack_Unpack) (gh := gh_pack_Unpack) fun x y h => by obtain ⟨N, h⟩ := lim_spec h; exact ⟨N, 400, (t_pack_Unpack N x).trans h⟩
noncomputable def tm_tag_moved : Nat → Option Tmpl := fun cx => cond (Nat.beq cx 1) (some ⟨[], [], 22, [.blk .i 0 false], [.fix (.bref 0 0), .var .i, J, J, J, J, J, .fix (.bref 0 0), .fix (.bref 0 0), .var .i, .var .i, J, J, J, J, J, J, J, J, J, J, J, .var (.list .i)], [], []⟩) <| none
noncomputable def gh_tag_moved : Nat → Nat → Option (Nat × Nat) := fun _ _ => none
theorem t_tag_moved (N : Nat) (a0 : (List Int)) (a1 : Int) : symF (seat.mk' (spOf L_pack_Unpack) tm_tag_moved gh_tag_moved) N 400 62 [(.list .i), .i] [(.list .i)] (a0, a1) = G_tag_moved N a0 a1 := by kernel_rfl
noncomputable def L_tag_moved : List (FuncId × Spec) := (62, ⟨[(.list .i), .i], [(.list .i)], S_tag_moved⟩) :: L_pack_Unpack
theorem ok_tag_moved : OrcOk Try.prog (orcOf L_tag_moved) := specs_cons sseat good primOk ok_pack_Unpack (by kernel_rfl) ⟨_, Try.func62, by rfl⟩ (tm := tm_tag_moved) (gh := gh_tag_moved) fun x y h => by obtain ⟨N, h⟩ := lim_spec h; exact ⟨N, 400, (t_tag_moved N x.1 x.2).trans h⟩
noncomputable def L_tag_read : List (FuncId × Spec) := (45, ⟨[.str], [.record, .i], S_tag_read⟩) :: L_tag_moved
theorem ok_tag_read : OrcOk Try.prog (orcOf L_tag_read) := read_spec (U := S_pack_Unpack) (M := fun l => S_tag_moved (l, -1)) ok_tag_moved ⟨_, Try.func45, by rfl⟩ (read_at (unpack_at ok_tag_moved (by kernel_rfl)) (moved_at (h := S_tag_moved) ok_tag_moved (by kernel_rfl)))
noncomputable def tm_cmp_isNaN : Nat → Option Tmpl := fun _ => none
noncomputable def gh_cmp_isNaN : Nat → Nat → Option (Nat × Nat) := fun _ _ => none
theorem t_cmp_isNaN (N : Nat) (a0 : Int) : symF (seat.mk' (spOf L_tag_read) tm_cmp_isNaN gh_cmp_isNaN) N 400 39 [.i] [.bool] a0 = G_cmp_isNaN a0 := by kernel_rfl
noncomputable def L_cmp_isNaN : List (FuncId × Spec) := (39, ⟨[.i], [.bool], S_cmp_isNaN⟩) :: L_tag_read
theorem ok_cmp_isNaN : OrcOk Try.prog (orcOf L_cmp_isNaN) := specs_cons sseat good primOk ok_tag_read (by kernel_rfl) ⟨_, Try.func39, by rfl⟩ (tm := tm_cmp_isNaN) (gh := gh_cmp_isNaN) fun x y h => ⟨0, 400, (t_cmp_isNaN 0 x).trans h⟩
noncomputable def tm_cmp_Less : Nat → Option Tmpl := fun _ => none
noncomputable def gh_cmp_Less : Nat → Nat → Option (Nat × Nat) := fun _ _ => none
theorem t_cmp_Less (N : Nat) (a0 : Int) (a1 : Int) : symF (seat.mk' (spOf L_cmp_isNaN) tm_cmp_Less gh_cmp_Less) N 400 86 [.i, .i] [.bool] (a0, a1) = G_cmp_Less a0 a1 := by kernel_rfl
noncomputable def L_cmp_Less : List (FuncId × Spec) := (86, ⟨[.i, .i], [.bool], S_cmp_Less⟩) :: L_cmp_isNaN
theorem ok_cmp_Less : OrcOk Try.prog (orcOf L_cmp_Less) := specs_cons sseat good primOk ok_cmp_isNaN (by kernel_rfl) ⟨_, Try.func86, by rfl⟩ (tm := tm_cmp_Less) (gh := gh_cmp_Less) fun x y h => ⟨0, 400, (t_cmp_Less 0 x.1 x.2).trans h⟩
noncomputable def tm_slices_IsSorted : Nat → Option Tmpl := fun cx => cond (Nat.beq cx 1) (some ⟨[], [], 21, [], [.var (.list .i), J, J, .var .i, J, J, J, J, J, J, J, J, J, J, J, J, J, J, J, J, J], [], []⟩) <| none
noncomputable def gh_slices_IsSorted : Nat → Nat → Option (Nat × Nat) := fun _ _ => none
theorem t_slices_IsSorted (N : Nat) (a0 : (List Int)) : symF (seat.mk' (spOf L_cmp_Less) tm_slices_IsSorted gh_slices_IsSorted) N 400 82 [(.list .i)] [.bool] a0 = G_slices_IsSorted N a0 := by kernel_rfl
noncomputable def L_slices_IsSorted : List (FuncId × Spec) := (82, ⟨[(.list .i)], [.bool], S_slices_IsSorted⟩) :: L_cmp_Less
theorem ok_slices_IsSorted : OrcOk Try.prog (orcOf L_slices_IsSorted) := specs_cons sseat good primOk ok_cmp_Less (by kernel_rfl) ⟨_, Try.func82, by rfl⟩ (tm := tm_slices_IsSorted) (gh := gh_slices_IsSorted) fun x y h => by obtain ⟨N, h⟩ := lim_spec h; exact ⟨N, 400, (t_slices_IsSorted N x).trans h⟩
noncomputable def tm_tag_keys : Nat → Option Tmpl := fun cx => cond (Nat.beq cx 1) (some ⟨[], [], 19, [], [.var (.list .i), .fix (.fn 81 [] []), J, J, J, J, J, .var .i, .var .i, J, J, J, J, J, J, J, J, J, J], [], []⟩) <| cond (Nat.beq cx 5) (some ⟨[], [], 19, [.blk .i 0 false], [.var (.list .i), .fix (.fn 81 [] []), J, J, J, J, J, .var .i, .var .i, J, J, J, J, J, J, J, J, J, J, .var (.list .i)], [], []⟩) <| cond (Nat.beq cx 6) (some ⟨[], [], 61, [.blk .i 0 false], [.fix (.bref 0 0), J, J, .var .i, J, J, .fix (.bref 0 0), J, J, J, J, J, J, J, J, J, J, J, J, J, J, J, J, J, J, J, J, J, J, J, J, J, J, J, J, J, J, J, J, J, J, J, J, J, J, J, J, J, J, J, J, J, J, J, J, J, J, J, J, J, J, .var (.list .i)], [], []⟩) <| cond (Nat.beq cx 110) (some ⟨[], [], 19, [.blk .i 0 false], [.var (.list .i), .fix (.fn 81 [] []), J, J, J, J, J, .var .i, .var .i, J, J, J, J, J, J, J, J, J, J, .var (.list .i)], [], []⟩) <| cond (Nat.beq cx 437) (some ⟨[], [], 61, [.blk .i 0 false, .dead, .dead, .dead, .dead, .dead, .dead, .dead, .dead, .dead, .dead], [.fix (.bref 0 0), J, J, .var .i, .sub 0 0, .var .i, .fix (.bref 0 0), J, J, J, J, .fix (.bref 0 0), J, J, J, J, .fix (.bref 0 0), J, J, J, .fix (.bref 0 0), J, J, J, J, J, .fix (.bref 0 0), J, J, J, J, J, J, J, J, J, J, J, J, J, J, J, J, J, J, J, J, J, J, J, J, J, J, J, J, J, J, J, J, J, J, .var (.list .i)], [], []⟩) <| cond (Nat.beq cx 7006) (some ⟨[], [], 19, [.blk .i 0 false, .dead, .dead, .dead, .dead, .dead, .dead, .dead, .dead, .dead, .dead], [.var (.list .i), .fix (.fn 81 [] []), J, J, J, J, J, .var .i, .var .i, J, J, J, J, J, J, J, J, J, J, .var (.list .i)], [], []⟩) <| none
noncomputable def gh_tag_keys : Nat → Nat → Option (Nat × Nat) := fun _ _ => none
theorem t_tag_keys (N : Nat) (a0 : (List Int)) : symF (seat.mk' (spOf L_slices_IsSorted) tm_tag_keys gh_tag_keys) N 400 76 [(.list .i)] [.bool] a0 = G_tag_keys N a0 := by kernel_rfl
noncomputable def L_tag_keys : List (FuncId × Spec) := (76, ⟨[(.list .i)], [.bool], S_tag_keys⟩) :: L_slices_IsSorted
theorem ok_tag_keys : OrcOk Try.prog (orcOf L_tag_keys) := specs_cons sseat good primOk ok_slices_IsSorted (by kernel_rfl) ⟨_, Try.func76, by rfl⟩ (tm := tm_tag_keys) (gh := gh_tag_keys) fun x y h => by obtain ⟨N, h⟩ := lim_spec h; exact ⟨N, 400, (t_tag_keys N x).trans h⟩
noncomputable def tm_tag_Right : Nat → Option Tmpl := fun cx => cond (Nat.beq cx 106) (some ⟨[], [], 19, [.st .record], [.var (.list .i), .fix (.fn 75 [] []), J, J, J, J, J, .var .i, .var .i, J, J, J, J, J, J, J, J, J, J, .agg .record], [], []⟩) <| none
noncomputable def gh_tag_Right : Nat → Nat → Option (Nat × Nat) := fun _ _ => none
theorem t_tag_Right (N : Nat) (a0 : Record) : symF (seat.mk' (spOf L_tag_keys) tm_tag_Right gh_tag_Right) N 400 63 [.record] [.bool] a0 = G_tag_Right N a0 := by kernel_rfl
noncomputable def L_tag_Right : List (FuncId × Spec) := (63, ⟨[.record], [.bool], S_tag_Right⟩) :: L_tag_keys
theorem ok_tag_Right : OrcOk Try.prog (orcOf L_tag_Right) := specs_cons sseat good primOk ok_tag_keys (by kernel_rfl) ⟨_, Try.func63, by rfl⟩ (tm := tm_tag_Right) (gh := gh_tag_Right) fun x y h => by obtain ⟨N, h⟩ := lim_spec h; exact ⟨N, 400, (t_tag_Right N x).trans h⟩
noncomputable def tm_pack_Put : Nat → Option Tmpl := fun cx => cond (Nat.beq cx 6) (some ⟨[.tmp 3 (.int .u8)], [(0, (.int .u8))], 26, [.dead, .blk (.int .u8) 0 true], [.var .i, J, J, .fix (.bref 1 0), J, J, J, J, J, J, J, J, J, J, J, J, J, J, J, J, J, J, J, J, J, J, .var (.list (.int .u8))], [], []⟩) <| none
noncomputable def gh_pack_Put : Nat → Nat → Option (Nat × Nat) := fun _ _ => none
theorem t_pack_Put (N : Nat) (a0 : Int) : symF (seat.mk' (spOf L_tag_Right) tm_pack_Put gh_pack_Put) N 400 78 [.i] [.str] a0 = G_pack_Put N a0 := by kernel_rfl
noncomputable def L_pack_Put : List (FuncId × Spec) := (78, ⟨[.i], [.str], S_pack_Put⟩) :: L_tag_Right
theorem ok_pack_Put : OrcOk Try.prog (orcOf L_pack_Put) := specs_cons sseat good primOk ok_tag_Right (by kernel_rfl) ⟨_, Try.func78, by rfl⟩ (tm := tm_pack_Put) (gh := gh_pack_Put) fun x y h => by obtain ⟨N, h⟩ := lim_spec h; exact ⟨N, 400, (t_pack_Put N x).trans h⟩
end Clk.Ytpncgjcflkhemaa
namespace Clk.Ytpncgjcflkhemaa
open Go Go.Proofs Go.Proofs.Ytpncgjcflkhemaa
set_option maxRecDepth 1000000
set_option linter.unusedVariables false
noncomputable def tm_pack_Pack : Nat → Option Tmpl := fun cx => cond (Nat.beq cx 1) (some ⟨[], [], 26, [], [J, J, J, J, .var .str, J, J, J, J, J, J, .var (.list .i), .var .i, .var .i, J, J, J, J, J, J, J, J, J, J, J, J], [], []⟩) <| none
noncomputable def gh_pack_Pack : Nat → Nat → Option (Nat × Nat) := fun _ _ => none
theorem t_pack_Pack (N : Nat) (a0 : (List Int)) : symF (seat.mk' (spOf L_pack_Put) tm_pack_Pack gh_pack_Pack) N 400 64 [(.list .i)] [.str, .i] a0 = G_pack_Pack N a0 := by kernel_rfl
noncomputable def L_pack_Pack : List (FuncId × Spec) := (64, ⟨[(.list .i)], [.str, .i], S_pack_Pack⟩) :: L_pack_Put
theorem ok_pack_Pack : OrcOk Try.prog (orcOf L_pack_Pack) := specs_cons sseat good primOk ok_pack_Put (by kernel_rfl) ⟨_, Try.func64, by rfl⟩ (tm := tm_pack_Pack) (gh := gh_pack_Pack) fun x y h => by obtain ⟨N, h⟩ := lim_spec h; exact ⟨N, 400, (t_pack_Pack N x).trans h⟩
noncomputable def tm_crc_Bytes : Nat → Option Tmpl := fun cx => cond (Nat.beq cx 6) (some ⟨[], [], 23, [.blk (.int .u8) 0 false], [.var .i, J, J, .fix (.ptr 0 0 0 0), J, J, J, J, J, J, .var .i, J, J, J, J, J, J, J, J, J, J, J, J, .var (.list (.int .u8))], [], []⟩) <| none
noncomputable def gh_crc_Bytes : Nat → Nat → Option (Nat × Nat) := fun _ _ => none
theorem t_crc_Bytes (N : Nat) (a0 : Int) : symF (seat.mk' (spOf L_pack_Pack) tm_crc_Bytes gh_crc_Bytes) N 400 65 [.i] [.str] a0 = G_crc_Bytes N a0 := by kernel_rfl
noncomputable def L_crc_Bytes : List (FuncId × Spec) := (65, ⟨[.i], [.str], S_crc_Bytes⟩) :: L_pack_Pack
theorem ok_crc_Bytes : OrcOk Try.prog (orcOf L_crc_Bytes) := specs_cons sseat good primOk ok_pack_Pack (by kernel_rfl) ⟨_, Try.func65, by rfl⟩ (tm := tm_crc_Bytes) (gh := gh_crc_Bytes) fun x y h => by obtain ⟨N, h⟩ := lim_spec h; exact ⟨N, 400, (t_crc_Bytes N x).trans h⟩
noncomputable def tm_crc_Sum : Nat → Option Tmpl := fun cx => cond (Nat.beq cx 1) (some ⟨[], [], 32, [], [.var .str, J, J, .var (.int .u32), J, J, J, .var .i, .var .i, J, J, J, J, J, J, J, J, J, J, J, J, J, J, J, J, J, J, J, J, J, J, J], [], []⟩) <| cond (Nat.beq cx 29) (some ⟨[], [], 32, [], [.var .str, J, J, .var (.int .u32), J, J, J, .var .i, .var .i, J, J, J, J, J, J, J, J, .var .i, J, J, J, J, J, J, J, J, J, J, J, J, J, J], [], []⟩) <| none
noncomputable def gh_crc_Sum : Nat → Nat → Option (Nat × Nat) := fun _ _ => none
theorem t_crc_Sum (N : Nat) (a0 : Str) : symF (seat.mk' (spOf L_crc_Bytes) tm_crc_Sum gh_crc_Sum) N 400 66 [.str] [.i] a0 = G_crc_Sum N a0 := by kernel_rfl
noncomputable def L_crc_Sum : List (FuncId × Spec) := (66, ⟨[.str], [.i], S_crc_Sum⟩) :: L_crc_Bytes
theorem ok_crc_Sum : OrcOk Try.prog (orcOf L_crc_Sum) := specs_cons sseat good primOk ok_crc_Bytes (by kernel_rfl) ⟨_, Try.func66, by rfl⟩ (tm := tm_crc_Sum) (gh := gh_crc_Sum) fun x y h => by obtain ⟨N, h⟩ := lim_spec h; exact ⟨N, 400, (t_crc_Sum N x).trans h⟩
noncomputable def tm_tag_Encode : Nat → Option Tmpl := fun _ => none
noncomputable def gh_tag_Encode : Nat → Nat → Option (Nat × Nat) := fun _ _ => none
theorem t_tag_Encode (N : Nat) (a0 : Record) (a1 : Str) : symF (seat.mk' (spOf L_crc_Sum) tm_tag_Encode gh_tag_Encode) N 400 46 [.record, .str] [.str, .i] (a0, a1) = G_tag_Encode a0 a1 := by kernel_rfl
noncomputable def L_tag_Encode : List (FuncId × Spec) := (46, ⟨[.record, .str], [.str, .i], S_tag_Encode⟩) :: L_crc_Sum
theorem ok_tag_Encode : OrcOk Try.prog (orcOf L_tag_Encode) := specs_cons sseat good primOk ok_crc_Sum (by kernel_rfl) ⟨_, Try.func46, by rfl⟩ (tm := tm_tag_Encode) (gh := gh_tag_Encode) fun x y h => ⟨0, 400, (t_tag_Encode 0 x.1 x.2).trans h⟩
noncomputable def tm_tag_Decode : Nat → Option Tmpl := fun _ => none
noncomputable def gh_tag_Decode : Nat → Nat → Option (Nat × Nat) := fun _ _ => none
theorem t_tag_Decode (N : Nat) (a0 : Str) (a1 : Str) : symF (seat.mk' (spOf L_tag_Encode) tm_tag_Decode gh_tag_Decode) N 400 36 [.str, .str] [.record, .i] (a0, a1) = G_tag_Decode a0 a1 := by kernel_rfl
noncomputable def L_tag_Decode : List (FuncId × Spec) := (36, ⟨[.str, .str], [.record, .i], S_tag_Decode⟩) :: L_tag_Encode
theorem ok_tag_Decode : OrcOk Try.prog (orcOf L_tag_Decode) := specs_cons sseat good primOk ok_tag_Encode (by kernel_rfl) ⟨_, Try.func36, by rfl⟩ (tm := tm_tag_Decode) (gh := gh_tag_Decode) fun x y h => ⟨0, 400, (t_tag_Decode 0 x.1 x.2).trans h⟩
noncomputable def tm_look_Look : Nat → Option Tmpl := fun _ => none
noncomputable def gh_look_Look : Nat → Nat → Option (Nat × Nat) := fun _ _ => none
theorem t_look_Look (N : Nat) (a0 : Page) : symF (seat.mk' (spOf L_tag_Decode) tm_look_Look gh_look_Look) N 400 23 [.page] [.i, .record] a0 = G_look_Look a0 := by kernel_rfl
noncomputable def L_look_Look : List (FuncId × Spec) := (23, ⟨[.page], [.i, .record], S_look_Look⟩) :: L_tag_Decode
theorem ok_look_Look : OrcOk Try.prog (orcOf L_look_Look) := specs_cons sseat good primOk ok_tag_Decode (by kernel_rfl) ⟨_, Try.func23, by rfl⟩ (tm := tm_look_Look) (gh := gh_look_Look) fun x y h => ⟨0, 400, (t_look_Look 0 x).trans h⟩
noncomputable def tm_scan_All : Nat → Option Tmpl := fun cx => cond (Nat.beq cx 1) (some ⟨[.cell 1 0 0 .found], [(5, .found)], 38, [.raw 4 1, .raw 1 1, .raw 4 1, .dfr, .loop 27, .dead, .blk .found 0 true], [.fix (.yield 4), .fix (.ptr 2 0 0 0), J, J, J, J, J, J, .fix (.ptr 2 0 0 0), .var (.list .block), .var .i, .var .i, J, J, J, J, J, J, J, J, J, J, J, J, J, J, J, J, J, J, J, J, J, J, J, J, J, J, J, J, J, J, .fix (.bref 6 0), J, J, J, J, J, .fix (.ptr 0 0 0 0), .fix (.ptr 1 0 0 0), J, J, J, J, J, .fix (.fn 35 [] [(.ptr 2 0 0 0)]), J, J, J, J, J, J, J, J, J, J, J, J, J, J, J, J, J, J, .var (.list .found)], [], [.bk 8 6]⟩) <| cond (Nat.beq cx 29) (some ⟨[], [(6, .found)], 38, [.raw 4 1, .raw 1 1, .raw 4 1, .dfr, .loop 27, .dead, .dead, .raw 4 1, .blk .found 0 true], [.fix (.yield 4), .fix (.ptr 2 0 0 0), J, .var .i, .fix (.ptr 7 0 0 0), J, J, J, .fix (.ptr 2 0 0 0), .var (.list .block), .var .i, .var .i, J, J, J, J, .fix (.ptr 7 0 0 0), .var (.list .page), .var .i, .var .i, J, J, J, J, J, J, J, J, J, J, J, J, J, J, J, J, J, J, J, J, J, J, .fix (.bref 8 0), J, J, J, J, J, .fix (.ptr 0 0 0 0), .fix (.ptr 1 0 0 0), J, J, J, J, J, .fix (.fn 35 [] [(.ptr 2 0 0 0)]), J, J, J, J, J, J, J, J, J, J, J, J, J, J, J, J, J, J, J, J, J, J, .var (.list .found)], [], []⟩) <| none
noncomputable def gh_scan_All : Nat → Nat → Option (Nat × Nat) := fun _ _ => none
theorem t_scan_All (N : Nat) (a0 : Chip) : symF (seat.mk' (spOf L_look_Look) tm_scan_All gh_scan_All) N 400 13 [.chip] [(.list .found)] a0 = G_scan_All N a0 := by kernel_rfl
noncomputable def L_scan_All : List (FuncId × Spec) := (13, ⟨[.chip], [(.list .found)], S_scan_All⟩) :: L_look_Look
theorem ok_scan_All : OrcOk Try.prog (orcOf L_scan_All) := specs_cons sseat good primOk ok_look_Look (by kernel_rfl) ⟨_, Try.func13, by rfl⟩ (tm := tm_scan_All) (gh := gh_scan_All) fun x y h => by obtain ⟨N, h⟩ := lim_spec h; exact ⟨N, 400, (t_scan_All N x).trans h⟩
noncomputable def tm_ref05_there : Nat → Option Tmpl := fun _ => none
noncomputable def gh_ref05_there : Nat → Nat → Option (Nat × Nat) := fun _ _ => none
theorem t_ref05_there (N : Nat) (a0 : Chip) (a1 : Int) (a2 : Int) : symF (seat.mk' (spOf L_scan_All) tm_ref05_there gh_ref05_there) N 400 29 [.chip, .i, .i] [.bool] (a0, a1, a2) = G_ref05_there a0 a1 a2 := by kernel_rfl
noncomputable def L_ref05_there : List (FuncId × Spec) := (29, ⟨[.chip, .i, .i], [.bool], S_ref05_there⟩) :: L_scan_All
theorem ok_ref05_there : OrcOk Try.prog (orcOf L_ref05_there) := specs_cons sseat good primOk ok_scan_All (by kernel_rfl) ⟨_, Try.func29, by rfl⟩ (tm := tm_ref05_there) (gh := gh_ref05_there) fun x y h => ⟨0, 400, (t_ref05_there 0 x.1 x.2.1 x.2.2).trans h⟩
noncomputable def tm_ref05_broken : Nat → Option Tmpl := fun cx => cond (Nat.beq cx 1) (some ⟨[.tmp 3 .block], [(4, .block)], 29, [.raw 4 1, .raw 4 1, .st .chip, .raw 4 1, .dead, .nst true 0 true], [J, .fix (.ptr 2 0 0 0), .fix (.ptr 3 0 0 0), .fix (.bref 5 0), .var .i, J, J, J, J, J, J, J, J, J, J, J, J, J, J, J, J, J, J, J, J, J, J, J, J, J, J, J, J, J, J, J, J, .agg .chip, J, J, J, J, .var (.list .block)], [.nest 5 true], [.abs 5]⟩) <| none
noncomputable def gh_ref05_broken : Nat → Nat → Option (Nat × Nat) := fun _ _ => none
theorem t_ref05_broken (N : Nat) (a0 : Chip) : symF (seat.mk' (spOf L_ref05_there) tm_ref05_broken gh_ref05_broken) N 400 30 [.chip] [.chip, .i] a0 = G_ref05_broken N a0 := by kernel_rfl
noncomputable def L_ref05_broken : List (FuncId × Spec) := (30, ⟨[.chip], [.chip, .i], S_ref05_broken⟩) :: L_ref05_there
theorem ok_ref05_broken : OrcOk Try.prog (orcOf L_ref05_broken) := specs_cons sseat good primOk ok_ref05_there (by kernel_rfl) ⟨_, Try.func30, by rfl⟩ (tm := tm_ref05_broken) (gh := gh_ref05_broken) fun x y h => by obtain ⟨N, h⟩ := lim_spec h; exact ⟨N, 400, (t_ref05_broken N x).trans h⟩
noncomputable def tm_ref05_Program : Nat → Option Tmpl := fun cx => cond (Nat.beq cx 5) (some ⟨[.tmp 3 .block], [(6, .block)], 29, [.raw 4 1, .raw 3 1, .raw 4 1, .raw 4 1, .st .chip, .raw 4 1, .dead, .nst true 0 true], [J, .fix (.ptr 4 0 0 0), .fix (.ptr 5 0 0 0), .fix (.bref 7 0), .var .i, J, J, J, J, J, J, J, J, J, J, J, J, J, J, J, J, J, J, J, J, J, J, J, J, J, J, J, J, J, J, J, J, J, J, J, J, J, J, J, .agg .chip, J, J, J, J, .var (.list .block)], [.nest 7 true], [.abs 7]⟩) <| cond (Nat.beq cx 26) (some ⟨[.tmp 3 .block], [(6, .block)], 29, [.raw 4 1, .st .page, .st .fate, .raw 4 1, .st .chip, .raw 4 1, .dead, .nst true 0 true], [J, .fix (.ptr 4 0 0 0), .fix (.ptr 5 0 0 0), .fix (.bref 7 0), .var .i, J, J, J, J, J, J, J, J, J, J, J, J, J, J, J, J, J, J, J, J, J, J, J, J, J, J, J, J, .agg .page, .agg .fate, J, J, J, J, .agg .chip, J, J, J, J, .var (.list .block)], [.nest 7 true], [.abs 7]⟩) <| none
noncomputable def gh_ref05_Program : Nat → Nat → Option (Nat × Nat) := fun cx id => cond (Nat.beq cx 27541 && Nat.beq id 18) (some (7, 1)) <| cond (Nat.beq cx 27542 && Nat.beq id 18) (some (7, 1)) <| cond (Nat.beq cx 27545 && Nat.beq id 18) (some (7, 1)) <| cond (Nat.beq cx 27546 && Nat.beq id 18) (some (7, 1)) <| cond (Nat.beq cx 27557 && Nat.beq id 18) (some (7, 1)) <| cond (Nat.beq cx 27558 && Nat.beq id 18) (some (7, 1)) <| cond (Nat.beq cx 27561 && Nat.beq id 18) (some (7, 1)) <| cond (Nat.beq cx 27562 && Nat.beq id 18) (some (7, 1)) <| none
theorem t_ref05_Program (N : Nat) (a0 : Chip) (a1 : Int) (a2 : Int) (a3 : Page) (a4 : Fate) : symF (seat.mk' (spOf L_ref05_broken) tm_ref05_Program gh_ref05_Program) N 400 14 [.chip, .i, .i, .page, .fate] [.chip, .i] (a0, a1, a2, a3, a4) = G_ref05_Program N a0 a1 a2 a3 a4 := by kernel_rfl
noncomputable def L_ref05_Program : List (FuncId × Spec) := (14, ⟨[.chip, .i, .i, .page, .fate], [.chip, .i], S_ref05_Program⟩) :: L_ref05_broken
theorem ok_ref05_Program : OrcOk Try.prog (orcOf L_ref05_Program) := specs_cons sseat good primOk ok_ref05_broken (by kernel_rfl) ⟨_, Try.func14, by rfl⟩ (tm := tm_ref05_Program) (gh := gh_ref05_Program) fun x y h => by obtain ⟨N, h⟩ := lim_spec h; exact ⟨N, 400, (t_ref05_Program N x.1 x.2.1 x.2.2.1 x.2.2.2.1 x.2.2.2.2).trans h⟩
noncomputable def tm_ref05_New : Nat → Option Tmpl := fun cx => cond (Nat.beq cx 6) (some ⟨[.cell 1 0 0 .block], [(2, .block)], 68, [.raw 4 1, .raw 4 1, .dead, .nst true 0 true], [.var .i, .var .i, .var (.list .i), J, J, J, .fix (.ptr 0 0 0 0), J, .fix (.ptr 1 0 0 0), .var .i, J, J, J, J, J, J, J, J, J, J, J, J, J, J, J, J, J, J, J, J, J, J, J, J, J, J, J, J, J, J, J, J, J, J, J, J, J, J, J, J, J, J, J, J, J, J, J, J, J, J, J, J, J, J, J, J, J, J, J, J, J, J, .fix (.bref 3 0), .var .bool, .var .bool, .var .i, .var (.list .block)], [.nest 3 true], [.abs 3]⟩) <| cond (Nat.beq cx 110) (some ⟨[], [], 68, [.raw 4 1, .raw 4 1, .dead, .nst true 0 false], [.var .i, J, .var (.list .i), J, J, J, .fix (.ptr 0 0 0 0), J, .fix (.ptr 1 0 0 0), J, .var .i, J, J, J, J, J, J, J, J, J, J, J, J, J, J, J, J, J, J, J, J, J, J, J, J, J, J, J, J, J, J, J, J, J, J, J, J, J, J, J, J, J, J, J, J, J, J, J, J, J, J, J, J, J, J, J, J, J, J, J, J, J, .fix (.bref 3 0), .var .bool, .var .bool, .var .i, .var (.list .block)], [], []⟩) <| none
noncomputable def gh_ref05_New : Nat → Nat → Option (Nat × Nat) := fun _ _ => none
theorem t_ref05_New (N : Nat) (a0 : Int) (a1 : Int) (a2 : (List Int)) : symF (seat.mk' (spOf L_ref05_Program) tm_ref05_New gh_ref05_New) N 400 19 [.i, .i, (.list .i)] [.chip, .i] (a0, a1, a2) = G_ref05_New N a0 a1 a2 := by kernel_rfl
noncomputable def L_ref05_New : List (FuncId × Spec) := (19, ⟨[.i, .i, (.list .i)], [.chip, .i], S_ref05_New⟩) :: L_ref05_Program
theorem ok_ref05_New : OrcOk Try.prog (orcOf L_ref05_New) := specs_cons sseat good primOk ok_ref05_Program (by kernel_rfl) ⟨_, Try.func19, by rfl⟩ (tm := tm_ref05_New) (gh := gh_ref05_New) fun x y h => by obtain ⟨N, h⟩ := lim_spec h; exact ⟨N, 400, (t_ref05_New N x.1 x.2.1 x.2.2).trans h⟩
noncomputable def tm_law06_awake : Nat → Option Tmpl := fun _ => none
noncomputable def gh_law06_awake : Nat → Nat → Option (Nat × Nat) := fun _ _ => none
theorem t_law06_awake (N : Nat) : symF (seat.mk' (spOf L_ref05_New) tm_law06_awake gh_law06_awake) N 400 6 [] [.bool] () = G_law06_awake := by kernel_rfl
noncomputable def L_law06_awake : List (FuncId × Spec) := (6, ⟨[], [.bool], S_law06_awake⟩) :: L_ref05_New
theorem ok_law06_awake : OrcOk Try.prog (orcOf L_law06_awake) := specs_cons sseat good primOk ok_ref05_New (by kernel_rfl) ⟨_, Try.func6, by rfl⟩ (tm := tm_law06_awake) (gh := gh_law06_awake) fun x y h => ⟨0, 400, (t_law06_awake 0 ).trans h⟩
noncomputable def tm_ref05_Erase : Nat → Option Tmpl := fun cx => cond (Nat.beq cx 5) (some ⟨[.tmp 3 .block], [(5, .block)], 29, [.raw 4 1, .raw 4 1, .raw 4 1, .st .chip, .raw 4 1, .dead, .nst true 0 true], [J, .fix (.ptr 3 0 0 0), .fix (.ptr 4 0 0 0), .fix (.bref 6 0), .var .i, J, J, J, J, J, J, J, J, J, J, J, J, J, J, J, J, J, J, J, J, J, J, J, J, J, J, J, J, J, J, J, J, J, J, J, J, .agg .chip, J, J, J, J, .var (.list .block)], [.nest 6 true], [.abs 6]⟩) <| cond (Nat.beq cx 26) (some ⟨[.tmp 3 .block], [(5, .block)], 29, [.raw 4 1, .st .fate, .raw 4 1, .st .chip, .raw 4 1, .dead, .nst true 0 true], [J, .fix (.ptr 3 0 0 0), .fix (.ptr 4 0 0 0), .fix (.bref 6 0), .var .i, J, J, J, J, J, J, J, J, J, J, J, J, J, J, J, J, J, J, J, J, J, J, J, J, J, J, J, J, .agg .fate, J, J, J, J, .agg .chip, J, J, J, J, .var (.list .block)], [.nest 6 true], [.abs 6]⟩) <| cond (Nat.beq cx 1722) (some ⟨[], [], 112, [.raw 4 1, .st .fate, .raw 4 1, .raw 4 1, .raw 4 1, .dead, .nst true 0 false, .raw 4 1], [J, J, J, .fix (.ptr 0 0 0 0), J, .fix (.ptr 1 0 0 0), .fix (.ptr 2 0 0 0), J, .fix (.ptr 7 0 0 0), .pt 6 0 0, .var .i, .fix (.ptr 0 0 0 2), J, J, J, J, J, J, J, .fix (.ptr 0 0 0 0), J, J, J, J, J, .fix (.ptr 0 0 0 0), J, J, J, J, J, J, J, .fix (.ptr 1 0 0 0), J, J, J, J, .fix (.ptr 1 0 0 0), J, J, J, J, J, J, J, J, J, .fix (.ptr 7 0 0 3), J, J, .fix (.ptr 7 0 0 3), .fix (.ptr 7 0 0 0), .fix (.bref 6 0), J, J, .fix (.ptr 1 0 0 0), J, J, J, J, J, J, J, J, J, J, J, J, J, J, J, J, J, J, J, J, J, J, J, J, J, J, J, J, J, J, J, J, J, J, J, J, J, J, J, J, J, J, J, J, J, J, J, J, J, J, J, J, J, J, J, J, J, J, J, .agg .fate, J, J, J, J, .fix (.bref 6 0), J, J, J, .fix (.bref 6 0), J, J, J, .var (.list .block), .fix (.bref 6 0), .var .bool, .var .bool, .var .i], [], [.abs 6]⟩) <| none
noncomputable def gh_ref05_Erase : Nat → Nat → Option (Nat × Nat) := fun cx id => cond (Nat.beq cx 6891 && Nat.beq id 13) (some (6, 9)) <| none
theorem t_ref05_Erase (N : Nat) (a0 : Chip) (a1 : Int) (a2 : Fate) : symF (seat.mk' (spOf L_law06_awake) tm_ref05_Erase gh_ref05_Erase) N 400 17 [.chip, .i, .fate] [.chip, .i] (a0, a1, a2) = G_ref05_Erase N a0 a1 a2 := by kernel_rfl
noncomputable def L_ref05_Erase : List (FuncId × Spec) := (17, ⟨[.chip, .i, .fate], [.chip, .i], S_ref05_Erase⟩) :: L_law06_awake
theorem ok_ref05_Erase : OrcOk Try.prog (orcOf L_ref05_Erase) := specs_cons sseat good primOk ok_law06_awake (by kernel_rfl) ⟨_, Try.func17, by rfl⟩ (tm := tm_ref05_Erase) (gh := gh_ref05_Erase) fun x y h => by obtain ⟨N, h⟩ := lim_spec h; exact ⟨N, 400, (t_ref05_Erase N x.1 x.2.1 x.2.2).trans h⟩
noncomputable def tm_law06_Made : Nat → Option Tmpl := fun cx => cond (Nat.beq cx 1) (some ⟨[], [], 98, [.raw 4 1, .st .chip], [.var (.list (.int .u16)), .var .i, J, J, J, J, .fix (.ptr 0 0 0 0), .fix (.ptr 1 0 0 0), J, .var .i, .var .i, J, J, J, J, J, J, J, J, J, J, J, J, J, J, J, J, J, J, J, J, J, J, J, J, J, J, J, J, J, J, J, J, J, J, J, J, J, J, J, J, J, J, J, J, J, J, J, J, J, J, J, J, J, J, J, J, J, J, J, J, J, J, J, J, J, J, J, J, J, J, J, J, J, J, J, J, J, J, J, J, J, J, J, J, J, J, J, J, J, J, J, .agg .chip], [], []⟩) <| none
noncomputable def gh_law06_Made : Nat → Nat → Option (Nat × Nat) := fun _ _ => none
theorem t_law06_Made (N : Nat) (a0 : (List Int)) (a1 : Int) (a2 : Int) : symF (seat.mk' (spOf L_ref05_Erase) tm_law06_Made gh_law06_Made) N 400 11 [(.list (.int .u16)), .i, .i] [.chip] (a0, a1, a2) = G_law06_Made N a0 a1 a2 := by kernel_rfl
noncomputable def L_law06_Made : List (FuncId × Spec) := (11, ⟨[(.list (.int .u16)), .i, .i], [.chip], S_law06_Made⟩) :: L_ref05_Erase
theorem ok_law06_Made : OrcOk Try.prog (orcOf L_law06_Made) := specs_cons sseat good primOk ok_ref05_Erase (by kernel_rfl) ⟨_, Try.func11, by rfl⟩ (tm := tm_law06_Made) (gh := gh_law06_Made) fun x y h => by obtain ⟨N, h⟩ := lim_spec h; exact ⟨N, 400, (t_law06_Made N x.1 x.2.1 x.2.2).trans h⟩
noncomputable def tm_ref02_Take : Nat → Option Tmpl := fun cx => cond (Nat.beq cx 1) (some ⟨[], [], 48, [], [.var .str, J, J, J, J, .var .i, .var .i, .var .i, J, J, J, J, J, J, J, J, J, J, J, J, J, J, J, J, J, J, J, J, J, J, J, J, J, J, J, J, J, J, J, J, J, J, J, J, J, J, J, J], [], []⟩) <| none
noncomputable def gh_ref02_Take : Nat → Nat → Option (Nat × Nat) := fun _ _ => none
theorem t_ref02_Take (N : Nat) (a0 : Str) : symF (seat.mk' (spOf L_law06_Made) tm_ref02_Take gh_ref02_Take) N 400 40 [.str] [.i, .str, .bool] a0 = G_ref02_Take N a0 := by kernel_rfl
noncomputable def L_ref02_Take : List (FuncId × Spec) := (40, ⟨[.str], [.i, .str, .bool], S_ref02_Take⟩) :: L_law06_Made
theorem ok_ref02_Take : OrcOk Try.prog (orcOf L_ref02_Take) := specs_cons sseat good primOk ok_law06_Made (by kernel_rfl) ⟨_, Try.func40, by rfl⟩ (tm := tm_ref02_Take) (gh := gh_ref02_Take) fun x y h => by obtain ⟨N, h⟩ := lim_spec h; exact ⟨N, 400, (t_ref02_Take N x).trans h⟩
noncomputable def tm_ref02_Unpack : Nat → Option Tmpl := fun cx => cond (Nat.beq cx 6) (some ⟨[.tmp 8 .i], [(0, .i)], 47, [.dead, .blk .i 0 true], [J, J, J, J, J, .var .i, .var .str, J, .fix (.bref 1 0), .var .i, J, J, J, J, J, J, J, J, J, J, J, J, J, J, J, J, J, J, J, J, J, J, J, J, J, J, J, J, J, J, J, J, J, J, J, J, J, .var (.list .i)], [], []⟩) <| none
noncomputable def gh_ref02_Unpack : Nat → Nat → Option (Nat × Nat) := fun _ _ => none
theorem t_ref02_Unpack (N : Nat) (a0 : Str) : symF (seat.mk' (spOf L_ref02_Take) tm_ref02_Unpack gh_ref02_Unpack) N 400 31 [.str] [(.list .i), .str, .i] a0 = G_ref02_Unpack N a0 := by kernel_rfl
noncomputable def L_ref02_Unpack : List (FuncId × Spec) := (31, ⟨[.str], [(.list .i), .str, .i], S_ref02_Unpack⟩) :: L_ref02_Take
theorem ok_ref02_Unpack : OrcOk Try.prog (orcOf L_ref02_Unpack) := specs_cons sseat good primOk ok_ref02_Take (by kernel_rfl) ⟨_, Try.func31, by rfl⟩ (tm := tm_ref02_Unpack) (gh := gh_ref02_Unpack) fun x y h => by obtain ⟨N, h⟩ := lim_spec h; exact ⟨N, 400, (t_ref02_Unpack N x).trans h⟩
noncomputable def tm_ref03_Decode : Nat → Option Tmpl := fun cx => cond (Nat.beq cx 6) (some ⟨[.cell 9 0 3 .i], [(11, .i)], 91, [.raw 4 1, .dead, .dead, .dead, .dead, .dead, .dead, .dead, .dead, .raw 4 1, .dead, .dead, .blk .i 0 true], [.var .str, .var .str, J, J, .fix (.ptr 0 0 0 0), J, J, J, J, J, J, .var (.list .i), J, J, .fix (.ptr 9 0 0 0), .var .i, J, J, J, J, J, J, J, J, J, J, J, J, J, J, J, J, J, J, J, J, J, J, J, J, J, J, J, J, J, J, J, J, J, J, J, J, J, J, J, J, J, J, J, J, J, J, J, J, J, J, J, J, J, J, J, J, J, J, J, J, J, J, J, J, J, J, J, J, J, J, J, J, J, J, J, J, J, J, J, .var .i, .var .i, .var (.list .i), .fix (.bref 12 0), .var (.list .i)], [], []⟩) <| none
noncomputable def gh_ref03_Decode : Nat → Nat → Option (Nat × Nat) := fun _ _ => none
theorem t_ref03_Decode (N : Nat) (a0 : Str) (a1 : Str) : symF (seat.mk' (spOf L_ref02_Unpack) tm_ref03_Decode gh_ref03_Decode) N 400 15 [.str, .str] [.record, .i] (a0, a1) = G_ref03_Decode N a0 a1 := by kernel_rfl
noncomputable def L_ref03_Decode : List (FuncId × Spec) := (15, ⟨[.str, .str], [.record, .i], S_ref03_Decode⟩) :: L_ref02_Unpack
theorem ok_ref03_Decode : OrcOk Try.prog (orcOf L_ref03_Decode) := specs_cons sseat good primOk ok_ref02_Unpack (by kernel_rfl) ⟨_, Try.func15, by rfl⟩ (tm := tm_ref03_Decode) (gh := gh_ref03_Decode) fun x y h => by obtain ⟨N, h⟩ := lim_spec h; exact ⟨N, 400, (t_ref03_Decode N x.1 x.2).trans h⟩
noncomputable def tm_ref02_Same : Nat → Option Tmpl := fun cx => cond (Nat.beq cx 6) (some ⟨[], [], 26, [], [.var (.list .i), .var (.list .i), J, J, J, .var .i, J, J, J, J, J, J, J, J, J, J, J, J, J, J, J, J, J, J, J, J], [], []⟩) <| none
noncomputable def gh_ref02_Same : Nat → Nat → Option (Nat × Nat) := fun _ _ => none
theorem t_ref02_Same (N : Nat) (a0 : (List Int)) (a1 : (List Int)) : symF (seat.mk' (spOf L_ref03_Decode) tm_ref02_Same gh_ref02_Same) N 400 33 [(.list .i), (.list .i)] [.bool] (a0, a1) = G_ref02_Same N a0 a1 := by kernel_rfl
noncomputable def L_ref02_Same : List (FuncId × Spec) := (33, ⟨[(.list .i), (.list .i)], [.bool], S_ref02_Same⟩) :: L_ref03_Decode
theorem ok_ref02_Same : OrcOk Try.prog (orcOf L_ref02_Same) := specs_cons sseat good primOk ok_ref03_Decode (by kernel_rfl) ⟨_, Try.func33, by rfl⟩ (tm := tm_ref02_Same) (gh := gh_ref02_Same) fun x y h => by obtain ⟨N, h⟩ := lim_spec h; exact ⟨N, 400, (t_ref02_Same N x.1 x.2).trans h⟩
noncomputable def tm_ref03_Same : Nat → Option Tmpl := fun _ => none
noncomputable def gh_ref03_Same : Nat → Nat → Option (Nat × Nat) := fun _ _ => none
theorem t_ref03_Same (N : Nat) (a0 : Record) (a1 : Record) : symF (seat.mk' (spOf L_ref02_Same) tm_ref03_Same gh_ref03_Same) N 400 16 [.record, .record] [.bool] (a0, a1) = G_ref03_Same a0 a1 := by kernel_rfl
noncomputable def L_ref03_Same : List (FuncId × Spec) := (16, ⟨[.record, .record], [.bool], S_ref03_Same⟩) :: L_ref02_Same
theorem ok_ref03_Same : OrcOk Try.prog (orcOf L_ref03_Same) := specs_cons sseat good primOk ok_ref02_Same (by kernel_rfl) ⟨_, Try.func16, by rfl⟩ (tm := tm_ref03_Same) (gh := gh_ref03_Same) fun x y h => ⟨0, 400, (t_ref03_Same 0 x.1 x.2).trans h⟩
noncomputable def tm_law06_ScanOne : Nat → Option Tmpl := fun cx => cond (Nat.beq cx 25) (some ⟨[], [], 134, [.st .chip, .st .page], [J, J, J, .var .bool, J, J, J, J, J, .var .bool, .fix (.ptr 0 0 0 0), .fix (.ptr 1 0 0 0), .var (.list .found), .var .i, J, J, J, J, J, J, J, J, J, J, J, J, J, J, J, J, J, J, J, .fix (.ptr 1 0 0 2), J, J, .fix (.ptr 1 0 0 2), J, J, J, J, J, J, J, J, J, J, J, J, J, J, J, J, J, J, J, J, J, J, J, J, J, J, J, J, J, J, J, J, J, J, J, J, J, J, J, J, J, J, J, J, J, J, J, J, J, J, J, J, J, J, J, J, J, J, J, J, J, J, J, J, J, J, J, J, J, J, J, J, J, J, J, J, J, J, J, J, J, J, J, J, J, J, J, J, J, J, J, J, J, J, J, J, J, .agg .chip, .agg .page], [], []⟩) <| cond (Nat.beq cx 26) (some ⟨[], [], 134, [.st .chip, .st .page], [J, J, J, .var .bool, J, J, J, J, J, .var .bool, .fix (.ptr 0 0 0 0), .fix (.ptr 1 0 0 0), .var (.list .found), .var .i, J, J, J, J, J, J, J, J, J, J, J, J, J, J, J, J, J, J, J, J, J, J, J, J, J, J, J, J, J, J, J, J, J, J, J, J, J, J, J, J, J, J, J, J, J, J, J, J, J, J, J, J, J, J, J, J, J, J, J, J, J, J, J, J, J, J, J, J, J, J, J, J, J, J, J, J, J, J, J, J, J, J, J, J, J, J, J, J, J, J, J, J, J, J, J, J, J, J, J, J, J, J, J, J, J, J, J, J, J, J, J, J, J, J, J, J, J, J, J, J, .agg .chip, .agg .page], [], []⟩) <| cond (Nat.beq cx 26470) (some ⟨[], [], 134, [.st .chip, .st .page, .raw 4 1], [J, J, J, .var .bool, J, J, J, J, J, .var .bool, .fix (.ptr 0 0 0 0), .fix (.ptr 1 0 0 0), .var (.list .found), .var .i, .var .i, .fix (.ptr 2 0 0 0), J, .var (.list .found), .var .i, .var .i, .var .i, J, J, J, J, J, J, J, J, J, J, J, J, .fix (.ptr 1 0 0 2), J, J, .fix (.ptr 1 0 0 2), J, J, J, J, J, J, .fix (.ptr 0 0 0 0), J, J, J, J, J, J, J, J, J, J, J, J, J, J, J, J, J, J, J, J, J, J, J, J, J, J, J, J, J, J, J, J, J, J, J, J, J, J, J, J, J, J, J, J, J, J, J, J, J, J, J, J, J, J, J, J, J, J, J, J, J, J, J, J, J, J, J, J, J, J, J, J, J, J, J, J, J, J, J, J, J, J, J, J, J, J, J, J, J, J, .agg .chip, .agg .page, J, J, J, J], [], []⟩) <| cond (Nat.beq cx 26474) (some ⟨[], [], 134, [.st .chip, .st .page, .raw 4 1], [J, J, J, .var .bool, J, J, J, J, J, .var .bool, .fix (.ptr 0 0 0 0), .fix (.ptr 1 0 0 0), .var (.list .found), .var .i, .var .i, .fix (.ptr 2 0 0 0), J, .var (.list .found), .var .i, .var .i, .var .i, J, J, J, J, J, J, J, J, J, J, J, J, .fix (.ptr 1 0 0 2), J, J, .fix (.ptr 1 0 0 2), J, J, J, J, J, J, .fix (.ptr 0 0 0 0), J, J, J, J, J, J, J, J, J, J, J, J, J, J, J, J, J, J, J, J, J, J, J, J, J, J, J, J, J, J, J, J, J, J, J, J, J, J, J, J, J, J, J, J, J, J, J, J, J, J, J, J, J, J, J, J, J, J, J, J, J, J, J, J, J, J, J, J, J, J, J, J, J, J, J, J, J, J, J, J, J, J, J, J, J, J, J, J, J, J, .agg .chip, .agg .page, J, J, J, J], [], []⟩) <| cond (Nat.beq cx 27494) (some ⟨[], [], 134, [.st .chip, .st .page, .raw 4 1], [J, J, J, .var .bool, J, J, J, J, J, .var .bool, .fix (.ptr 0 0 0 0), .fix (.ptr 1 0 0 0), .var (.list .found), .var .i, .var .i, .fix (.ptr 2 0 0 0), J, .var (.list .found), .var .i, .var .i, .var .i, J, J, J, J, J, J, J, J, J, J, J, J, J, J, J, J, J, J, J, J, J, J, .fix (.ptr 0 0 0 0), J, J, J, J, J, J, J, J, J, J, J, J, J, J, J, J, J, J, J, J, J, J, J, J, J, J, J, J, J, J, J, J, J, J, J, J, J, J, J, J, J, J, J, J, J, J, J, J, J, J, J, J, J, J, J, J, J, J, J, J, J, J, J, J, J, J, J, J, J, J, J, J, J, J, J, J, J, J, J, J, J, J, J, J, J, J, J, J, J, J, .agg .chip, .agg .page, J, J, J, J], [], []⟩) <| cond (Nat.beq cx 27498) (some ⟨[], [], 134, [.st .chip, .st .page, .raw 4 1], [J, J, J, .var .bool, J, J, J, J, J, .var .bool, .fix (.ptr 0 0 0 0), .fix (.ptr 1 0 0 0), .var (.list .found), .var .i, .var .i, .fix (.ptr 2 0 0 0), J, .var (.list .found), .var .i, .var .i, .var .i, J, J, J, J, J, J, J, J, J, J, J, J, J, J, J, J, J, J, J, J, J, J, .fix (.ptr 0 0 0 0), J, J, J, J, J, J, J, J, J, J, J, J, J, J, J, J, J, J, J, J, J, J, J, J, J, J, J, J, J, J, J, J, J, J, J, J, J, J, J, J, J, J, J, J, J, J, J, J, J, J, J, J, J, J, J, J, J, J, J, J, J, J, J, J, J, J, J, J, J, J, J, J, J, J, J, J, J, J, J, J, J, J, J, J, J, J, J, J, J, J, .agg .chip, .agg .page, J, J, J, J], [], []⟩) <| none
noncomputable def gh_law06_ScanOne : Nat → Nat → Option (Nat × Nat) := fun _ _ => none
theorem t_law06_ScanOne (N : Nat) (a0 : (List Int)) (a1 : Int) (a2 : (List Int)) (a3 : Bool) : symF (seat.mk' (spOf L_ref03_Same) tm_law06_ScanOne gh_law06_ScanOne) N 400 4 [(.list (.int .u16)), (.int .u8), (.list (.int .u16)), .bool] [.bool] (a0, a1, a2, a3) = G_law06_ScanOne N a0 a1 a2 a3 := by kernel_rfl
noncomputable def L_law06_ScanOne : List (FuncId × Spec) := (4, ⟨[(.list (.int .u16)), (.int .u8), (.list (.int .u16)), .bool], [.bool], S_law06_ScanOne⟩) :: L_ref03_Same
theorem ok_law06_ScanOne : OrcOk Try.prog (orcOf L_law06_ScanOne) := specs_cons sseat good primOk ok_ref03_Same (by kernel_rfl) ⟨_, Try.func4, by rfl⟩ (tm := tm_law06_ScanOne) (gh := gh_law06_ScanOne) fun x y h => by obtain ⟨N, h⟩ := lim_spec h; exact ⟨N, 400, (t_law06_ScanOne N x.1 x.2.1 x.2.2.1 x.2.2.2).trans h⟩
end Clk.Ytpncgjcflkhemaa
namespace Clk
open Go
set_option linter.unusedVariables false
end Clk
namespace Clk
open Go
set_option linter.unusedVariables false
theorem mkL_chk {l : List Int} (hl : U16 l) {kind : Int} : ∀ (n a : Nat) (key : Int) (p : Option Int), 0 ≤ key → (∀ q, p = some q → q < key) → chkL p (mkL l kind n a key).1 = true
 | 0, a, key, p, _, _ => rfl
 | n + 1, a, key, p, h1, h2 => by
   have p1 := pk_range hl a (n := 10) (by omega)
   unfold mkL
   by_cases hk : key < 64
   · rw [if_pos hk]
     have hin : inr key = true := by unfold inr; rw [decide_eq_true h1, decide_eq_true hk]; rfl
     have hp : ∀ p : Option Int, (∀ q, p = some q → q < key) → (match p with | none => true | some q => decide (q < key)) = true := fun p h2 => by
      cases p with
      | none => rfl
      | some q => exact decide_eq_true (h2 q rfl)
     by_cases hc : kind = 2
     · rw [if_pos hc]
       have := mkL_chk hl (kind := kind) n (a + 2) (key + 1 + pk l a 10) (some key) (by omega) (fun q hq => by cases hq; omega)
       simp only [chkL, hin, this, Bool.true_and, Bool.and_true]; exact hp p h2
     · rw [if_neg hc]
       have := mkL_chk hl (kind := kind) n (a + 1) (key + 1 + pk l a 10) (some key) (by omega) (fun q hq => by cases hq; omega)
       simp only [chkL, hin, this, Bool.true_and, Bool.and_true]; exact hp p h2
   · rw [if_neg hk]; rfl
theorem madeT_keys {l : List Int} (hl : U16 l) : keysT (madeT l).keys = true := by
 have q3 := pk_range hl 3 (n := 20) (by omega)
 have q4 := pk_range hl 4 (n := 8) (by omega)
 have h8 := (madeT_ok hl).2
 have h0 : 0 < (madeT l).keys.length := by
  unfold madeT
  simp only
  obtain ⟨n, hn⟩ : ∃ n, (pk l 4 8 + 1).toNat = n + 1 := ⟨(pk l 4 8).toNat, by omega⟩
  rw [hn, mkL, if_pos (by omega)]
  split <;> simp
 unfold keysT
 rw [decide_eq_true h0, decide_eq_true h8, Bool.and_true, Bool.and_true]
 exact mkL_chk hl _ 5 _ none (by omega) (by intro q h; cases h)
theorem getD_set_ne' {α : Type} {l : List α} {i j : Nat} {x d : α} (h : i ≠ j) : (l.set i x).getD j d = l.getD j d := by
 rw [List.getD_eq_getElem?_getD, List.getElem?_set_ne h, ← List.getD_eq_getElem?_getD]
theorem encT_ok {r : Record} {data : Str} (h : rightT r = true) (hd : data.length ≤ 16) : (encT r data).2 = 0 := by
 unfold encT
 rw [if_neg]
 rintro (h1 | h1)
 · rw [h] at h1; cases h1
 · omega
end Clk
namespace Clk
open Go
set_option linter.unusedVariables false
theorem ofNat_toNat {n : Nat} (h : n < 256) : (UInt8.ofNat n).toNat = n := by simp; omega
theorem take_putN : ∀ (f n acc u : Nat) (first : Bool) (rest : Str), n < 128 ^ (f + 1) → acc + n * u ≤ 1099511627776 → (first = true ∨ 0 < n) → takeN (f + 1) first acc u (putN f n ++ rest) = (((acc + n * u : Nat) : Int), rest, true)
 | 0, n, acc, u, first, rest, h1, h2, h3 => by
   have hn : n < 128 := by simpa using h1
   simp only [putN, List.singleton_append, takeN, ofNat_toNat (show n < 256 by omega)]
   rw [if_pos hn, if_neg]
   rintro (h | ⟨h, h'⟩)
   · omega
   · rcases h3 with h3 | h3
     · rw [h3] at h; cases h
     · omega
 | f + 1, n, acc, u, first, rest, h1, h2, h3 => by
   unfold putN
   by_cases hn : 127 < n
   · rw [if_pos hn]
     simp only [List.cons_append, takeN, ofNat_toNat (show 128 + n % 128 < 256 by omega)]
     have e1 : (128 + n % 128) % 128 = n % 128 := by omega
     have e2 : acc + n % 128 * u + n / 128 * (u * 128) = acc + n * u := by
      have : n * u = n % 128 * u + n / 128 * (u * 128) := by
       have h := Nat.div_add_mod n 128
       calc n * u = (128 * (n / 128) + n % 128) * u := by rw [h]
        _ = n % 128 * u + n / 128 * (u * 128) := by rw [Nat.add_mul, Nat.add_comm]; congr 1; rw [Nat.mul_comm 128, Nat.mul_assoc, Nat.mul_comm 128]
      omega
     rw [if_neg (by omega), e1, take_putN f (n / 128) _ _ false rest (by rw [Nat.pow_succ] at h1; omega) (by rw [e2]; exact h2) (.inr (by omega)), e2]
   · rw [if_neg hn]
     simp only [List.singleton_append, takeN, ofNat_toNat (show n < 256 by omega)]
     rw [if_pos (by omega), if_neg]
     rintro (h | ⟨h, h'⟩)
     · omega
     · rcases h3 with h3 | h3
       · rw [h3] at h; cases h
       · omega
def Small40 (n : Int) : Prop := 0 ≤ n ∧ n ≤ 1099511627776
theorem take_putV {n : Int} (h : Small40 n) (rest : Str) : takeT (putV n ++ rest) = (n, rest, true) := by
 unfold putV takeT
 rw [if_neg (by have := h.1; have := h.2; omega)]
 obtain ⟨h1, h2⟩ := h
 rw [take_putN 5 n.toNat 0 1 true rest (by have : (128 : Nat) ^ (5 + 1) = 4398046511104 := rfl; omega) (by omega) (.inl rfl)]
 have : ((0 + n.toNat * 1 : Nat) : Int) = n := by omega
 rw [this]
def flatP (l : List Int) : Str := l.flatMap putV
theorem packL_flat : ∀ (l : List Int) (s : Str), (∀ n ∈ l, Small40 n) → packL l s = (s ++ flatP l, 0)
 | [], s, _ => by simp [packL, flatP]
 | n :: l, s, h => by
   obtain ⟨h1, h2⟩ := h n List.mem_cons_self
   unfold packL
   have : putV n ≠ [] := by unfold putV; rw [if_neg (by omega)]; exact putN_ne 5 _
   rw [if_neg this, packL_flat l _ fun m hm => h m (List.mem_cons_of_mem _ hm)]
   simp [flatP]
theorem flatP_len : ∀ (l : List Int), (∀ n ∈ l, Small40 n) → l.length ≤ (flatP l).length
 | [], _ => Nat.zero_le _
 | n :: l, h => by
   obtain ⟨h1, h2⟩ := h n List.mem_cons_self
   have h3 := flatP_len l fun m hm => h m (List.mem_cons_of_mem _ hm)
   have : putV n ≠ [] := by unfold putV; rw [if_neg (by omega)]; exact putN_ne 5 _
   have : 0 < (putV n).length := List.length_pos_iff.2 this
   simp only [flatP, List.flatMap_cons, List.length_append, List.length_cons] at h3 ⊢
   omega
theorem unpackL_flat : ∀ (l : List Int) (rest : Str) (acc : List Int), (∀ n ∈ l, Small40 n) → unpackL l.length (flatP l ++ rest) acc = (acc ++ l, rest, 0)
 | [], rest, acc, _ => by simp [unpackL, flatP]
 | n :: l, rest, acc, h => by
   have e : flatP (n :: l) ++ rest = putV n ++ (flatP l ++ rest) := by simp [flatP]
   simp only [List.length_cons, unpackL, e, take_putV (h n List.mem_cons_self)]
   rw [if_neg (by simp), unpackL_flat l rest _ fun m hm => h m (List.mem_cons_of_mem _ hm)]
   simp
theorem unpack_pack {l : List Int} (hl : ∀ n ∈ l, Small40 n) (hn : l.length ≤ 1099511627776) (rest : Str) : unpackT ((packT l).1 ++ rest) = (l, rest, 0) := by
 have hf := flatP_len l hl
 have e : (packT l).1 ++ rest = putV l.length ++ (flatP l ++ rest) := by unfold packT; rw [packL_flat l _ hl]; simp
 unfold unpackT
 rw [e, take_putV ⟨by omega, by omega⟩]
 simp only
 rw [if_neg (by simp; omega), Int.toNat_natCast, unpackL_flat l rest [] hl]
 simp
theorem mv_mov {l : List Int} (h : l.all vr = true) : mvT (movT 1 l) = l := by
 unfold mvT movT
 rw [List.map_map]
 conv => rhs; rw [← List.map_id l]
 refine List.map_congr_left fun n hn => ?_
 have := vr_range h n hn
 show w64 (w64 (n + 1) - 1) = n
 rw [w64_id (n := n + 1) (by omega) (by omega), w64_id (by omega) (by omega)]; omega
theorem dec_enc {r : Record} {data : Str} (h : rightT r = true) (hd : data.length ≤ 16) : decT (encT r data).1 data = (r, 0) := by
 obtain ⟨k0, k1, k2, k3, k4, k5, k6, k7⟩ := rightT_len h
 have hk : ∀ n ∈ r.keys, Small40 n := fun n hn => by have := keysT_range k7 n hn; exact ⟨by omega, by omega⟩
 have hv : ∀ n ∈ movT 1 r.values, Small40 n := fun n hn => by
  unfold movT at hn
  obtain ⟨m, hm, rfl⟩ := List.mem_map.1 hn
  have := vr_range k6 m hm
  rw [w64_id (by omega) (by omega)]; exact ⟨by omega, by omega⟩
 have hh : ∀ n ∈ [r.kind, r.seq], Small40 n := fun n hn => by
  simp only [List.mem_cons, List.not_mem_nil, or_false] at hn
  rcases hn with rfl | rfl
  · exact ⟨by omega, by omega⟩
  · exact ⟨k3, k4⟩
 have hml : (movT 1 r.values).length = r.values.length := by simp [movT]
 have hE : encT r data = (bodyT r ++ bytes4 (crcT (bodyT r ++ data)), 0) := by
  unfold encT
  rw [if_neg]
  rintro (h1 | h1)
  · rw [h] at h1; cases h1
  · omega
 generalize hX : bytes4 (crcT (bodyT r ++ data)) = X at hE
 have u1 : unpackT (encT r data).1 = ([r.kind, r.seq], (packT r.keys).1 ++ ((packT (movT 1 r.values)).1 ++ X), 0) := by
  rw [hE]
  unfold bodyT
  simp only [List.append_assoc]
  exact unpack_pack hh (by simp) _
 have u2 : unpackT ((packT r.keys).1 ++ ((packT (movT 1 r.values)).1 ++ X)) = (r.keys, (packT (movT 1 r.values)).1 ++ X, 0) := unpack_pack hk (by omega) _
 have u3 : unpackT ((packT (movT 1 r.values)).1 ++ X) = (movT 1 r.values, X, 0) := unpack_pack hv (by omega) _
 have hr : (⟨r.kind, r.seq, r.keys, mvT (movT 1 r.values)⟩ : Record) = r := by rw [mv_mov k6]
 unfold decT
 rw [u1]
 simp only
 rw [u2]
 simp only
 rw [u3]
 simp only [List.length_cons, List.length_nil]
 rw [if_neg (by simp)]
 have e0 : [r.kind, r.seq].getD 0 0 = r.kind := rfl
 have e1 : [r.kind, r.seq].getD 1 0 = r.seq := rfl
 rw [e0, e1, hr, if_neg]
 rw [hE]
 simp
def vv (b p : Nat) (pg : Page) : List Found := if (lookT pg).1 = 1 ∧ 0 ≤ placeT b p then [⟨placeT b p, (lookT pg).2⟩] else []
def vp (b : Nat) : Nat → List Page → List Found
 | _, [] => []
 | p, pg :: l => vv b p pg ++ vp b (p + 1) l
def vb : Nat → List Block → List Found
 | _, [] => []
 | b, x :: l => vp b 0 x.pages ++ vb (b + 1) l
theorem pagesT_fold (b : Nat) : ∀ (l : List Page) (p : Nat) (out : List Found), pagesT b p l out = (vp b p l).foldl insT out
 | [], p, out => rfl
 | pg :: l, p, out => by
   unfold pagesT vp vv
   rw [pagesT_fold b l (p + 1), List.foldl_append]
   split <;> rfl
theorem blocksT_fold : ∀ (l : List Block) (b : Nat) (out : List Found), blocksT b l out = (vb b l).foldl insT out
 | [], b, out => rfl
 | x :: l, b, out => by
   unfold blocksT vb
   rw [blocksT_fold l (b + 1), List.foldl_append, pagesT_fold]
theorem vp_set (b : Nat) : ∀ (l : List Page) (p j : Nat), j < l.length → ∃ A B, vp b p l = A ++ vv b (p + j) (l.getD j default) ++ B ∧ ∀ q, vp b p (l.set j q) = A ++ vv b (p + j) q ++ B
 | [], p, j, h => by simp at h
 | x :: l, p, 0, h => ⟨[], vp b (p + 1) l, by simp [vp], fun q => by simp [vp]⟩
 | x :: l, p, j + 1, h => by
   obtain ⟨A, B, h1, h2⟩ := vp_set b l (p + 1) j (by simpa using h)
   have e : p + 1 + j = p + (j + 1) := by omega
   refine ⟨vv b p x ++ A, B, ?_, fun q => ?_⟩
   · simp only [vp, h1, e, List.append_assoc]; rfl
   · simp only [List.set_cons_succ, vp, h2, e, List.append_assoc]
theorem vb_set : ∀ (l : List Block) (b i : Nat), i < l.length → ∃ A B, vb b l = A ++ vp (b + i) 0 (l.getD i default).pages ++ B ∧ ∀ y, vb b (l.set i y) = A ++ vp (b + i) 0 y.pages ++ B
 | [], b, i, h => by simp at h
 | x :: l, b, 0, h => ⟨[], vb (b + 1) l, by simp [vb], fun y => by simp [vb]⟩
 | x :: l, b, i + 1, h => by
   obtain ⟨A, B, h1, h2⟩ := vb_set l (b + 1) i (by simpa using h)
   have e : b + 1 + i = b + (i + 1) := by omega
   refine ⟨vp b 0 x.pages ++ A, B, ?_, fun y => ?_⟩
   · simp only [vb, h1, e, List.append_assoc]; rfl
   · simp only [List.set_cons_succ, vb, h2, e, List.append_assoc]
end Clk
namespace Clk
open Go
set_option linter.unusedVariables false
theorem prog_vb {c : Chip} {b p : Nat} (hb : b < c.blocks.length) (hp : p < (c.blocks.getD b default).pages.length) : ∃ A B, vb 0 c.blocks = A ++ vv b p ((c.blocks.getD b default).pages.getD p default) ++ B ∧ ∀ q n e bd, vb 0 (c.blocks.set b ⟨(c.blocks.getD b default).pages.set p q, n, e, bd⟩) = A ++ vv b p q ++ B := by
 obtain ⟨A, B, h1, h2⟩ := vb_set c.blocks 0 b hb
 obtain ⟨C, D, h3, h4⟩ := vp_set (0 + b) (c.blocks.getD b default).pages 0 p hp
 have e : 0 + b = b := by omega
 have e2 : 0 + p = p := by omega
 rw [e] at h1 h2 h3 h4
 rw [e2] at h3 h4
 refine ⟨A ++ C, D ++ B, by rw [h1, h3]; simp, fun q n e bd => ?_⟩
 rw [h2, h4]; simp
theorem allT_vb (c : Chip) : allT c = (vb 0 c.blocks).foldl insT [] := blocksT_fold _ 0 []
theorem vv_none {b p : Nat} {pg : Page} (h : (lookT pg).1 ≠ 1) : vv b p pg = [] := by
 unfold vv; rw [if_neg (fun x => h x.1)]
theorem look_blank {p : Page} (h : p.written = false) : lookT p = (0, zRec) := by unfold lookT; rw [if_pos h]
theorem progT_cases {c : Chip} {b p : Int} {page : Page} {f : Fate} (h : (progT c b p page f).2 = 0 ∨ (progT c b p page f).2 = 53) : canProg c b p f = true ∧ progT c b p page f = (⟨c.blocks.set b.toNat (newBlock (c.blocks.getD b.toNat default) p page f), c.broken, decide (f.kind = 2), w64 (c.ops + 1)⟩, if f.kind = 0 then 0 else if f.kind = 1 then 53 else 52) := by
 unfold progT at h ⊢
 split at h
 · simp at h
 · rename_i ho
   rw [if_neg ho]
   split at h
   · rename_i hc
     rw [if_pos hc]
     exact ⟨hc, rfl⟩
   · unfold brkT at h; simp at h
end Clk
namespace Clk
open Go
set_option linter.unusedVariables false
theorem s_pack_finish (n : Int) (r : Str) (ok : Bool) : S_pack_finish (n, r, ok) = some (if ok = false ∨ 1099511627776 < n then (0, [], false) else (n, r, true)) := by
 show G_pack_finish n r ok = _
 unfold G_pack_finish
 cases ok with
 | false => simp
 | true =>
   by_cases h : 1099511627776 < n
   · rw [decide_eq_true h, if_pos (.inr h)]; rfl
   · rw [decide_eq_false h, if_neg (by simp; omega)]; rfl
theorem andNot_all : (List.range 256).map (fun c : Nat => w64 (bAndNot .i64 (w64 (c : Int)) 128)) = (List.range 256).map (fun c : Nat => ((c % 128 : Nat) : Int)) := by kernel_rfl
theorem pow_all : (List.range 6).map (fun k : Nat => (w64 (7 * (k : Int)), (2 : Int) ^ (min (Int.toNat (w64 (7 * (k : Int)))) 64))) = (List.range 6).map (fun k : Nat => (((7 * k : Nat) : Int), ((128 ^ k : Nat) : Int))) := by kernel_rfl
theorem andNot128 {c : Nat} (h : c < 256) : w64 (bAndNot .i64 (w64 (c : Int)) 128) = ((c % 128 : Nat) : Int) := by
 have := congrArg (fun l => l[c]?) andNot_all
 simpa only [List.getElem?_map, List.getElem?_range h, Option.map_some, Option.some.injEq] using this
theorem pow7 {k : Nat} (h : k < 6) : w64 (7 * (k : Int)) = ((7 * k : Nat) : Int) ∧ (2 : Int) ^ (min (Int.toNat (w64 (7 * (k : Int)))) 64) = ((128 ^ k : Nat) : Int) := by
 have := congrArg (fun l => l[k]?) pow_all
 simp only [List.getElem?_map, List.getElem?_range h, Option.map_some, Option.some.injEq, Prod.mk.injEq] at this
 exact this
theorem or_add {n m k : Nat} (h : n < 128 ^ k) : n ||| m * 128 ^ k = n + m * 128 ^ k := by
 have e : 128 ^ k = 2 ^ (7 * k) := by rw [Nat.pow_mul]
 rw [e] at h ⊢
 have := Nat.two_pow_add_eq_or_of_lt h m
 rw [Nat.or_comm, Nat.mul_comm m, ← this]; omega
theorem pack_Take_L1 {s : Str} (hs : s.length < 4294967296) : ∀ (f N : Nat) (l : Str) (n k : Nat) (i cnt : Int), s.drop k = l → i = k → cnt = min (s.length : Int) 6 → k + f = 6 → n < 128 ^ k → f < N → iterF F_pack_Take_L1 N (s, n, cnt, i) = some (takeN f (k == 0) n (128 ^ k) l)
 | f, 0, _, _, _, _, _, _, _, _, _, _, h => by omega
 | 0, N + 1, l, n, k, i, cnt, h1, h2, hc, h3, h4, h6 => by
   rw [iterF_succ, F_pack_Take_L1_eq]
   unfold G_pack_Take_L1
   simp only [takeN]
   rw [decide_eq_false (show ¬ i < cnt by omega), cond_false]
 | f + 1, N + 1, [], n, k, i, cnt, h1, h2, hc, h3, h4, h6 => by
   have := drop_nil h1
   rw [iterF_succ, F_pack_Take_L1_eq]
   unfold G_pack_Take_L1
   simp only [takeN]
   rw [decide_eq_false (show ¬ i < cnt by omega), cond_false]
 | f + 1, N + 1, c :: l, n, k, i, cnt, h1, h2, hcn, h3, h4, h6 => by
   obtain ⟨g1, g2, g3⟩ := drop_cons h1
   subst h2
   have hc := u8_lt c
   have hu : 128 ^ k ≤ 34359738368 := Nat.le_trans (Nat.pow_le_pow_right (by omega) (show k ≤ 5 by omega)) (by decide)
   have hu0 : 0 < 128 ^ k := Nat.pow_pos (by omega)
   have hm2 : c.toNat % 128 * 128 ^ k ≤ 127 * 128 ^ k := Nat.mul_le_mul (by omega) (Nat.le_refl _)
   obtain ⟨p1, p2⟩ := pow7 (show k < 6 by omega)
   have hor : w64 (bOr .i64 (n : Int) (w64 ((w64 (bAndNot .i64 (w64 (c.toNat : Int)) 128)) * 2 ^ (min (Int.toNat (w64 (7 * (k : Int)))) 64)))) = ((n + c.toNat % 128 * 128 ^ k : Nat) : Int) := by
    rw [andNot128 hc, p2]
    have e2 : ((c.toNat % 128 : Nat) : Int) * ((128 ^ k : Nat) : Int) = ((c.toNat % 128 * 128 ^ k : Nat) : Int) := by push_cast; rfl
    rw [e2, w64_id (n := ((c.toNat % 128 * 128 ^ k : Nat) : Int)) (by omega) (by omega), bOr_nat (k := .i64) (show n < 2 ^ 64 by omega) (show c.toNat % 128 * 128 ^ k < 2 ^ 64 by omega), or_add h4, w64_id (by omega) (by omega)]
   rw [iterF_succ, F_pack_Take_L1_eq]
   unfold G_pack_Take_L1
   simp only [Int.toNat_natCast, g2, takeN]
   rw [decide_eq_true (show (k : Int) < cnt by omega), decide_eq_true (show (k : Int) < s.length by omega), decide_eq_true (show (0 : Int) ≤ k by omega), p1, decide_eq_true (show (0 : Int) ≤ ((7 * k : Nat) : Int) by omega)]
   rw [p1] at hor
   simp only [Int.toNat_natCast] at hor ⊢
   rw [hor, w64_id (n := (c.toNat : Int)) (by omega) (by omega), w64_id (n := (k : Int) + 1) (by omega) (by omega)]
   simp only [cond_true, s_pack_finish, some_bind']
   have e4 : Int.toNat ((k : Int) + 1) = k + 1 := by omega
   by_cases h7 : c.toNat < 128
   · have e3 : c.toNat % 128 = c.toNat := Nat.mod_eq_of_lt h7
     rw [decide_eq_true (show (c.toNat : Int) < 128 by omega), cond_true, if_pos h7, decide_eq_true (show (0 : Int) ≤ (k : Int) + 1 by omega), decide_eq_true (show (k : Int) + 1 ≤ s.length by omega), e4, g3, e3]
     simp only [cond_true]
     by_cases h9 : k = 0
     · subst h9
       rw [decide_eq_true (show ((0 : Nat) : Int) = 0 from rfl), cond_true]
       by_cases h8 : 1099511627776 < n + c.toNat * 128 ^ 0
       · rw [if_pos (.inr (by omega)), if_pos (.inl h8)]
       · rw [if_neg (by simp; omega), if_neg (by simp; omega)]
     · rw [decide_eq_false (show ¬ (k : Int) = 0 by omega), cond_false]
       by_cases h8 : 1099511627776 < n + c.toNat * 128 ^ k
       · rw [if_pos (.inr (by omega)), if_pos (.inl h8)]
       · by_cases h10 : c.toNat = 0
         · rw [if_pos (.inl (by simp; omega)), if_pos (.inr ⟨by simpa using h9, h10⟩)]
         · rw [if_neg (by rintro (h | h); simp at h; omega; omega), if_neg (by rintro (h | ⟨_, h⟩); exact h8 h; exact h10 h)]
   · rw [decide_eq_false (show ¬ (c.toNat : Int) < 128 by omega), cond_false, if_neg h7]
     have hn2 : n + c.toNat % 128 * 128 ^ k < 128 ^ (k + 1) := by rw [Nat.pow_succ]; omega
     have := pack_Take_L1 hs f N l (n + c.toNat % 128 * 128 ^ k) (k + 1) ((k : Int) + 1) cnt g3 (by omega) hcn (by omega) hn2 (by omega)
     rw [this, Nat.pow_succ]
     rfl
theorem s_pack_Take {s : Str} (hs : s.length < 4294967296) : S_pack_Take s = some (takeT s) := by
 refine lim_eq 7 fun N hN => ?_
 exact pack_Take_L1 hs 6 N s 0 0 0 _ rfl rfl rfl (by omega) (by omega) (by omega)
theorem pack_Unpack_L1 {n : Int} (hn : n < 4294967296) : ∀ (m N k : Nat) (i : Int) (s : Str) (acc : List Int), (k : Int) + m = n → i = k → s.length < 4294967296 → acc.length = k → m < N → iterF F_pack_Unpack_L1 N (s, n, i, acc) = some (unpackL m s acc)
 | m, 0, _, _, _, _, _, _, _, _, h => by omega
 | 0, N + 1, k, i, s, acc, h1, h2, h3, h4, h5 => by
   rw [iterF_succ, F_pack_Unpack_L1_eq]
   unfold G_pack_Unpack_L1
   simp only [unpackL]
   rw [decide_eq_false (by omega)]; rfl
 | m + 1, N + 1, k, i, s, acc, h1, h2, h3, h4, h5 => by
   rw [iterF_succ, F_pack_Unpack_L1_eq]
   unfold G_pack_Unpack_L1
   simp only [unpackL, s_pack_Take h3, some_bind']
   rw [decide_eq_true (show i < n by omega), cond_true]
   have hl := takeT_len s
   cases hb : (takeT s).2.2 with
   | false => rfl
   | true =>
     rw [if_neg (by simp), Bool.not_true, cond_false]
     rw [decide_eq_true (by simp; omega), cond_true, decide_eq_true (by simp; omega), cond_true]
     exact pack_Unpack_L1 hn m N (k + 1) _ _ _ (by omega) (by rw [w64_id (by omega) (by omega)]; omega) (by omega) (by simp; omega) (by omega)
theorem s_pack_Unpack {s : Str} (hs : s.length < 4294967296) : S_pack_Unpack s = some (unpackT s) := by
 refine lim_eq (s.length + 1) fun N hN => ?_
 show G_pack_Unpack N s = _
 unfold G_pack_Unpack unpackT
 simp only [s_pack_Take hs, some_bind']
 have hl := takeT_len s
 have hn := takeT_nn s
 cases hb : (takeT s).2.2 with
 | false => rfl
 | true =>
   rw [Bool.not_true, cond_false]
   by_cases h1 : ((takeT s).2.1.length : Int) < (takeT s).1
   · rw [decide_eq_true h1, cond_true, if_pos (.inr h1)]
   · rw [decide_eq_false h1, cond_false, if_neg (by simp; omega)]
     exact pack_Unpack_L1 (by omega) _ N 0 0 _ _ (by omega) rfl (by omega) rfl (by omega)
def tagOk (s : Str) : Prop := (unpackT s).2.2 = 0 → (unpackT s).1.length = 2 → (unpackT (unpackT s).2.1).2.2 = 0
theorem s_tag_read {s : Str} (hs : s.length < 4294967296) (ht : tagOk s) : S_tag_read s = some (if (unpackT s).2.2 ≠ 0 ∨ (unpackT s).1.length ≠ 2 ∨ (unpackT (unpackT (unpackT s).2.1).2.1).2.2 ≠ 0 then (zRec, 30) else (⟨(unpackT s).1.getD 0 0, (unpackT s).1.getD 1 0, (unpackT (unpackT s).2.1).1, movT (-1) (unpackT (unpackT (unpackT s).2.1).2.1).1⟩, 0)) := by
 have q1 := unpackT_len s
 have q2 := unpackT_len (unpackT s).2.1
 have q3 := unpackT_len (unpackT (unpackT s).2.1).2.1
 unfold tagOk at ht
 show readF S_pack_Unpack (fun l => S_tag_moved (l, -1)) s = _
 unfold readF
 simp only [s_pack_Unpack hs]
 by_cases c1 : (unpackT s).2.2 = 0
 · rw [decide_eq_true c1, cond_true]
   by_cases c2 : (unpackT s).1.length = 2
   · rw [decide_eq_true c2, cond_true]
     simp only [s_pack_Unpack (show (unpackT s).2.1.length < 4294967296 by omega)]
     rw [decide_eq_true (ht c1 c2), cond_true]
     simp only [s_pack_Unpack (show (unpackT (unpackT s).2.1).2.1.length < 4294967296 by omega)]
     by_cases c3 : (unpackT (unpackT (unpackT s).2.1).2.1).2.2 = 0
     · rw [decide_eq_true c3, cond_true, if_neg (by simp [c1, c2, c3])]
       simp only [s_tag_moved (show (unpackT (unpackT (unpackT s).2.1).2.1).1.length < 4294967296 by omega)]
     · rw [decide_eq_false c3, cond_false, if_pos (.inr (.inr c3))]; rfl
   · rw [decide_eq_false c2, cond_false, if_pos (.inr (.inl c2))]; rfl
 · rw [decide_eq_false c1, cond_false, if_pos (.inl c1)]; rfl
theorem mv_mov1 (l : List Int) : movT (-1) l = mvT l := by unfold movT mvT; rfl
theorem s_tag_Decode {tag data : Str} (ht : tag.length < 4294967296) (hd : data.length < 4294967296) (hk : tagOk tag) : S_tag_Decode (tag, data) = some (decT tag data) := by
 have q1 := unpackT_len tag
 have q2 := unpackT_len (unpackT tag).2.1
 have q3 := unpackT_len (unpackT (unpackT tag).2.1).2.1
 show G_tag_Decode tag data = _
 unfold G_tag_Decode
 rw [s_tag_read ht hk, some_bind']
 unfold decT
 have hk' := hk
 unfold tagOk at hk'
 split
 · rename_i h
   rw [decide_eq_false (by decide), Bool.not_false, cond_true, if_pos (by
    rcases h with h | h | h
    · exact .inl h
    · exact .inr (.inr (.inr h))
    · exact .inr (.inr (.inl h)))]
   rfl
 · rename_i h
   simp only [not_or, Decidable.not_not] at h
   obtain ⟨c1, c2, c3⟩ := h
   rw [decide_eq_true rfl, Bool.not_true, cond_false, if_neg (by simp [c1, c2, c3, hk' c1 c2])]
   simp only
   rw [mv_mov1, s_tag_Encode ⟨by show (unpackT (unpackT tag).2.1).1.length < _; omega, by show (mvT _).length < _; unfold mvT; rw [List.length_map]; omega⟩ hd, some_bind']
   generalize ({ kind := _, seq := _, keys := _, values := _ } : Record) = r
   by_cases e1 : (encT r data).2 = 0
   · rw [decide_eq_true e1, Bool.not_true, cond_false]
     by_cases e2 : (encT r data).1 = tag
     · rw [decide_eq_true e2, Bool.not_true, cond_false, if_neg (by simp [e1, e2])]
     · rw [decide_eq_false e2, Bool.not_false, cond_true, if_pos (.inr e2)]; rfl
   · rw [decide_eq_false e1, Bool.not_false, cond_true, if_pos (.inl e1)]; rfl
theorem s_look_Look {p : Page} (h : PageOk p) (hk : tagOk p.tag) : S_look_Look p = some (lookT p) := by
 show G_look_Look p = _
 unfold G_look_Look lookT
 cases p.written with
 | false => rfl
 | true =>
   rw [Bool.not_true, cond_false, s_tag_Decode h.1 h.2 hk, some_bind', if_neg (by simp)]
   by_cases c : (decT p.tag p.data).2 = 0
   · rw [decide_eq_true c, cond_true, if_neg (by simp [c])]
   · rw [decide_eq_false c, cond_false, if_pos c]; rfl
end Clk
namespace Clk
open Go
set_option linter.unusedVariables false
def TagsOk (c : Chip) : Prop := ∀ b ∈ c.blocks, ∀ p ∈ b.pages, tagOk p.tag
theorem insF_eq : ∀ (l : List Found) (f : Found), insF l f = insT l f
 | [], f => rfl
 | x :: l, f => by
   unfold insF insT
   rw [insF_eq l f]
   rfl
theorem sortF_eq (l : List Found) : sortF l = l.foldl insT [] := by
 unfold sortF
 rw [show insF = insT from funext fun l => funext fun f => insF_eq l f]
theorem vv_place {b p : Nat} {pg : Page} {f : Found} (h : f ∈ vv b p pg) : f.place = 16 * (b : Int) + p ∧ p < 16 ∧ b < 32 := by
 unfold vv at h
 split at h
 · rename_i hc
   obtain ⟨h1, h2⟩ := place_nn hc.2
   simp at h
   subst h
   refine ⟨?_, h2, h1⟩
   show placeT b p = _
   unfold placeT
   rw [if_neg (by omega)]
   omega
 · cases h
theorem vp_place {b : Nat} : ∀ {l : List Page} {p : Nat} {f : Found}, f ∈ vp b p l → ∃ q : Nat, p ≤ q ∧ q < 16 ∧ b < 32 ∧ f.place = 16 * (b : Int) + q
 | [], p, f, h => by simp [vp] at h
 | pg :: l, p, f, h => by
   unfold vp at h
   rcases List.mem_append.1 h with h | h
   · obtain ⟨h1, h2, h3⟩ := vv_place h
     exact ⟨p, Nat.le_refl _, h2, h3, h1⟩
   · obtain ⟨q, h1, h2⟩ := vp_place h
     exact ⟨q, by omega, h2⟩
theorem vb_place : ∀ {l : List Block} {b : Nat} {f : Found}, f ∈ vb b l → ∃ c q : Nat, b ≤ c ∧ q < 16 ∧ f.place = 16 * (c : Int) + q
 | [], b, f, h => by simp [vb] at h
 | x :: l, b, f, h => by
   unfold vb at h
   rcases List.mem_append.1 h with h | h
   · obtain ⟨q, _, h2, _, h3⟩ := vp_place h
     exact ⟨b, q, Nat.le_refl _, h2, h3⟩
   · obtain ⟨c, q, h1, h2⟩ := vb_place h
     exact ⟨c, q, by omega, h2⟩
theorem vv_pair (b p : Nat) (pg : Page) : (vv b p pg).Pairwise (fun x y => x.place < y.place) := by
 unfold vv; split <;> simp
theorem vp_pair (b : Nat) : ∀ (l : List Page) (p : Nat), (vp b p l).Pairwise (fun x y => x.place < y.place)
 | [], p => by simp [vp]
 | pg :: l, p => by
   unfold vp
   refine List.pairwise_append.2 ⟨vv_pair b p pg, vp_pair b l (p + 1), fun x hx y hy => ?_⟩
   obtain ⟨h1, _, _⟩ := vv_place hx
   obtain ⟨q, h2, _, _, h3⟩ := vp_place hy
   omega
theorem vb_pair : ∀ (l : List Block) (b : Nat), (vb b l).Pairwise (fun x y => x.place < y.place)
 | [], b => by simp [vb]
 | x :: l, b => by
   unfold vb
   refine List.pairwise_append.2 ⟨vp_pair b _ 0, vb_pair l (b + 1), fun x hx y hy => ?_⟩
   obtain ⟨q, _, h1, _, h2⟩ := vp_place hx
   obtain ⟨c, r, h3, _, h4⟩ := vb_place hy
   omega
theorem dist_pair : ∀ {l : List Found}, l.Pairwise (fun x y => x.place < y.place) → distF l = true
 | [], _ => rfl
 | x :: l, h => by
   rw [List.pairwise_cons] at h
   unfold distF
   rw [Bool.and_eq_true]
   refine ⟨List.all_eq_true.2 fun y hy => ?_, dist_pair h.2⟩
   have := h.1 y hy
   simp only [Bool.not_eq_true', decide_eq_false_iff_not, Prod.mk.injEq]
   omega
theorem vv_len (b p : Nat) (pg : Page) : (vv b p pg).length ≤ 1 := by unfold vv; split <;> simp
theorem pAll_L2 {M : List Block × Int × Int × List Found → Option (List Found)} {bs : List Block} {n : Int} {b : Nat} {pgs : List Page} (hs : pgs.length < 4294967296) (hb : b < 4294967296) (hp : ∀ p ∈ pgs, PageOk p) (ht : ∀ p ∈ pgs, tagOk p.tag) : ∀ (l : List Page) (N p : Nat) (i : Int) (out : List Found), pgs.drop p = l → i = p → out.length ≤ min (16 * b + min p 16) 512 → l.length < N →
 iterF (F_scan_All_L2 M) N ((b : Int), bs, n, (b : Int), pgs, (pgs.length : Int), i, out) = M (bs, n, ((b + 1 : Nat) : Int), out ++ vp b p l)
 | l, 0, _, _, _, _, _, _, h => by omega
 | [], N + 1, p, i, out, h1, h2, h3, _ => by
   have h4 := drop_nil h1
   rw [iterF_succ, F_scan_All_L2_eq]
   unfold G_scan_All_L2
   simp only [vp, List.append_nil]
   rw [decide_eq_false (by omega), cond_false, w64_id (by omega) (by omega)]
   rfl
 | pg :: l, N + 1, p, i, out, h1, h2, h3, h5 => by
   obtain ⟨g1, g2, g3⟩ := drop_cons h1
   subst h2
   have hmem : pg ∈ pgs := by rw [← g2 default]; exact getD_mem' g1
   simp at h5
   have hv := vv_len b p pg
   have hv2 : vv b p pg ≠ [] → b < 32 ∧ p < 16 := fun h => by
    cases hvv : vv b p pg with
    | nil => exact absurd hvv h
    | cons f r => have := vv_place (f := f) (by rw [hvv]; simp); omega
   have hlen : (out ++ vv b p pg).length ≤ min (16 * b + min (p + 1) 16) 512 := by
    rw [List.length_append]
    by_cases hvv : vv b p pg = []
    · rw [hvv]; simp; omega
    · have := hv2 hvv; omega
   have ih := pAll_L2 (M := M) (bs := bs) (n := n) hs hb hp ht l N (p + 1) ((p : Int) + 1) (out ++ vv b p pg) g3 (by omega) hlen (by omega)
   rw [iterF_succ, F_scan_All_L2_eq]
   unfold G_scan_All_L2
   simp only [Int.toNat_natCast, g2, vp]
   rw [decide_eq_true (show (p : Int) < (pgs.length : Int) by omega), decide_eq_true (show (0 : Int) ≤ p by omega)]
   simp only [cond_true, s_scan_Place, some_bind']
   rw [w64_id (n := (p : Int) + 1) (by omega) (by omega), s_look_Look (hp pg hmem) (ht pg hmem), some_bind', ← List.append_assoc, ← ih]
   by_cases c1 : 0 ≤ placeT b p
   · rw [decide_eq_true c1, cond_true]
     by_cases c2 : (lookT pg).1 = 1
     · rw [decide_eq_true c2, cond_true]
       have e : vv b p pg = [⟨placeT b p, (lookT pg).2⟩] := by unfold vv; rw [if_pos ⟨c2, c1⟩]
       rw [e] at hlen ⊢
       rw [decide_eq_true (by simp at hlen ⊢; omega), cond_true, decide_eq_true (by simp at hlen ⊢; omega), cond_true]
     · rw [decide_eq_false c2, cond_false]
       have e : vv b p pg = [] := by unfold vv; rw [if_neg (fun h => c2 h.1)]
       rw [e, List.append_nil]
   · rw [decide_eq_false c1, cond_false]
     have e : vv b p pg = [] := by unfold vv; rw [if_neg (fun h => c1 h.2)]
     rw [e, List.append_nil]
theorem vp_len (b : Nat) : ∀ (l : List Page) (p : Nat), (vp b p l).length ≤ 16 - min p 16 ∧ (32 ≤ b → vp b p l = [])
 | [], p => by simp [vp]
 | pg :: l, p => by
   unfold vp
   obtain ⟨h1, h2⟩ := vp_len b l (p + 1)
   have hv := vv_len b p pg
   have hv2 : vv b p pg ≠ [] → b < 32 ∧ p < 16 := fun h => by
    cases hvv : vv b p pg with
    | nil => exact absurd hvv h
    | cons f r => have := vv_place (f := f) (by rw [hvv]; simp); omega
   by_cases hvv : vv b p pg = []
   · rw [hvv]; simp only [List.nil_append]; exact ⟨by omega, h2⟩
   · obtain ⟨h3, h4⟩ := hv2 hvv
     rw [List.length_append]
     exact ⟨by omega, fun h => by omega⟩
theorem pAll_L1 {c : Chip} (hc : ChipOk c) (hp : PagesOk c) (ht : TagsOk c) {M : Nat} (hM : ∀ b ∈ c.blocks, b.pages.length < M) : ∀ (l : List Block) (N b : Nat) (i : Int) (out : List Found), c.blocks.drop b = l → i = b → out.length ≤ min (16 * b) 512 → (out ++ vb b l).Pairwise (fun x y => x.place < y.place) → l.length < N →
 iterF (F_scan_All_L1 M) N (c.blocks, (c.blocks.length : Int), i, out) = some (sortF (out ++ vb b l))
 | l, 0, _, _, _, _, _, _, _, h => by omega
 | [], N + 1, b, i, out, h1, h2, h3, h6, _ => by
   have h4 := drop_nil h1
   rw [iterF_succ, F_scan_All_L1_eq]
   unfold G_scan_All_L1
   simp only [vb, List.append_nil] at h6 ⊢
   rw [decide_eq_false (by omega), cond_false, dist_pair h6, cond_true, decide_eq_true (by omega), cond_true]
 | x :: l, N + 1, b, i, out, h1, h2, h3, h6, h5 => by
   obtain ⟨g1, g2, g3⟩ := drop_cons h1
   subst h2
   have hmem : x ∈ c.blocks := by rw [← g2 default]; exact getD_mem' g1
   have hb := hc.1
   simp at h5
   rw [iterF_succ, F_scan_All_L1_eq]
   unfold G_scan_All_L1
   simp only [Int.toNat_natCast, g2, vb]
   rw [decide_eq_true (show (b : Int) < (c.blocks.length : Int) by omega), decide_eq_true (show (0 : Int) ≤ b by omega)]
   simp only [cond_true]
   rw [pAll_L2 (hc.2 x hmem) (by omega) (fun p h => hp x hmem p h) (fun p h => ht x hmem p h) x.pages M 0 0 out rfl rfl (by omega) (hM x hmem), ← List.append_assoc]
   obtain ⟨k1, k2⟩ := vp_len b x.pages 0
   have hlen : (out ++ vp b 0 x.pages).length ≤ min (16 * (b + 1)) 512 := by
    rw [List.length_append]
    by_cases h32 : 32 ≤ b
    · rw [k2 h32]; simp; omega
    · omega
   exact pAll_L1 hc hp ht hM l N (b + 1) _ _ g3 rfl hlen (by rw [List.append_assoc]; exact h6) (by omega)
theorem exists_bound {α : Type} (f : α → Nat) : ∀ (l : List α), ∃ M, ∀ x ∈ l, f x < M
 | [] => ⟨0, fun _ h => by cases h⟩
 | x :: l => by
   obtain ⟨M, h⟩ := exists_bound f l
   exact ⟨max M (f x + 1), fun y hy => by
    rcases List.mem_cons.1 hy with rfl | hy
    · omega
    · have := h y hy; omega⟩
theorem s_scan_All {c : Chip} (hc : ChipOk c) (hp : PagesOk c) (ht : TagsOk c) : S_scan_All c = some (allT c) := by
 obtain ⟨M, hM⟩ := exists_bound (fun b : Block => b.pages.length) c.blocks
 refine lim_eq (max M (c.blocks.length + 1)) fun N hN => ?_
 show G_scan_All N c = _
 unfold G_scan_All
 have := pAll_L1 hc hp ht (M := N) (fun b hb => by have := hM b hb; omega) c.blocks N 0 0 [] rfl rfl (by simp) (by rw [List.nil_append]; exact vb_pair _ 0) (by omega)
 rw [this, List.nil_append, sortF_eq]
 unfold allT
 rw [blocksT_fold]
end Clk
namespace Clk
open Go
set_option linter.unusedVariables false
def AllP (Q : Page → Prop) (c : Chip) : Prop := ∀ b ∈ c.blocks, ∀ p ∈ b.pages, Q p
theorem clrT_allP {Q : Page → Prop} (hz : Q zPage) (all : Bool) (n : Int) : ∀ (i : Nat) (l : List Page), (∀ p ∈ l, Q p) → ∀ p ∈ clrT all n i l, Q p
 | _, [], _, p, hp => by cases hp
 | i, q :: l, h, p, hp => by
   unfold clrT at hp
   rcases List.mem_cons.1 hp with rfl | hp
   · split
     · exact hz
     · exact h _ List.mem_cons_self
   · exact clrT_allP hz all n (i + 1) l (fun x hx => h x (List.mem_cons_of_mem _ hx)) p hp
theorem eraT_all {Q : Page → Prop} (hz : Q zPage) {c : Chip} (h : AllP Q c) (b : Int) (f : Fate) : AllP Q (eraT c b f).1 := by
 unfold eraT
 split
 · exact h
 · split
   · rename_i hc
     unfold canEra at hc
     simp only [Bool.and_eq_true, decide_eq_true_eq] at hc
     intro x hx
     rcases List.mem_or_eq_of_mem_set hx with h3 | rfl
     · exact h x h3
     · have := h _ (getD_mem' (d := default) (show b.toNat < c.blocks.length by omega))
       unfold eraBlock
       split
       · exact this
       · exact clrT_allP hz _ _ 0 _ this
   · exact h
theorem progT_all {Q : Page → Prop} {c : Chip} (h : AllP Q c) (b p : Int) {page : Page} {f : Fate} (hp : Q ⟨true, page.data, page.tag⟩) (hf : f.kind ≠ 0 → Q ⟨true, f.data, f.tag⟩) : AllP Q (progT c b p page f).1 := by
 unfold progT
 split
 · exact h
 · split
   · rename_i hc
     obtain ⟨h1, h2, _⟩ := canProg_iff.1 hc
     intro x hx
     rcases List.mem_or_eq_of_mem_set hx with h3 | rfl
     · exact h x h3
     · have h4 := h _ (getD_mem' (d := default) (show b.toNat < c.blocks.length by omega))
       unfold newBlock
       intro q hq
       rcases List.mem_or_eq_of_mem_set hq with h5 | rfl
       · exact h4 q h5
       · split
         · exact hp
         · rename_i hk; exact hf hk
   · exact h
theorem newT_all {Q : Page → Prop} (hz : Q zPage) (n p : Int) (bad : List Int) : AllP Q (newT n p bad).1 := by
 unfold newT
 split
 · intro b hb; simp [zChip] at hb
 · rename_i h
   obtain ⟨h1, h2⟩ := newL_ok (n := n) (m := n.toNat) bad (List.replicate n.toNat ⟨List.replicate p.toNat zPage, 0, 0, false⟩) (fun b hb => by
    obtain ⟨_, rfl⟩ := List.mem_replicate.1 hb
    exact ⟨by simp; omega, fun q hq => (List.mem_replicate.1 hq).2⟩) (by simp)
   intro b hb q hq
   rw [(h1 b hb).2 q hq]
   exact hz
theorem tag_nil : tagOk [] := by
 intro h; exact absurd h (by decide)
theorem dec_tag {tag data : Str} {r : Record} (h : decT tag data = (r, 0)) : tagOk tag := by
 intro h1 h2
 unfold decT at h
 split at h
 · cases h
 · rename_i hn
   exact Decidable.byContradiction fun hc => hn (.inr (.inl hc))
theorem enc_tag (r : Record) (data : Str) : tagOk (encT r data).1 := by
 by_cases h : rightT r = false ∨ 16 < data.length
 · have : (encT r data).1 = [] := by unfold encT; rw [if_pos h]
   rw [this]; exact tag_nil
 · simp only [not_or] at h
   exact dec_tag (dec_enc (by simpa using h.1) (by omega))
theorem make_tag (w : Write) : tagOk (makeT w).1.tag := by
 unfold makeT
 split
 · exact tag_nil
 · exact enc_tag _ _
theorem step_tags {l : List Int} {m : Int} {a : Nat} {c : Chip} (h : AllP (fun p => tagOk p.tag) c) : AllP (fun p => tagOk p.tag) (stepC l m a c) := by
 unfold stepC
 simp only
 have h1 : AllP (fun p => tagOk p.tag) (if l.getD a 0 % 29 = 0 then (eraT c (l.getD a 0 % m) zFate).1 else c) := by
  split
  · exact eraT_all tag_nil h _ _
  · exact h
 have hp : tagOk (pgT (l.getD a 0 / 7 % 30) ((l.drop a).take (nextAt l a - a))).tag := make_tag _
 have hf : (if l.getD a 0 % 11 = 0 then (⟨1, [120], (pgT (l.getD a 0 / 7 % 30) ((l.drop a).take (nextAt l a - a))).tag, 0⟩ : Fate) else zFate).kind ≠ 0 → tagOk (if l.getD a 0 % 11 = 0 then (⟨1, [120], (pgT (l.getD a 0 / 7 % 30) ((l.drop a).take (nextAt l a - a))).tag, 0⟩ : Fate) else zFate).tag := by
  split
  · intro _; exact hp
  · intro hk; exact absurd rfl hk
 generalize (if l.getD a 0 % 29 = 0 then (eraT c (l.getD a 0 % m) zFate).1 else c) = c1 at h1
 generalize (if l.getD a 0 % 11 = 0 then (⟨1, [120], (pgT (l.getD a 0 / 7 % 30) ((l.drop a).take (nextAt l a - a))).tag, 0⟩ : Fate) else zFate) = f at hf
 split
 · exact h1
 · exact progT_all h1 _ _ hp hf
theorem chipL_tags {l : List Int} {m : Int} : ∀ (k a : Nat) (c : Chip), AllP (fun p => tagOk p.tag) c → AllP (fun p => tagOk p.tag) (chipL l m k a c)
 | 0, a, c, h => h
 | k + 1, a, c, h => by
   unfold chipL
   split
   · exact chipL_tags k _ _ (step_tags h)
   · exact h
theorem chipT_tags (l : List Int) (b p : Int) : TagsOk (chipT l b p) := chipL_tags 40 0 _ (newT_all tag_nil b p [])
theorem newT_CI2 {b p : Int} (h : 1 ≤ b ∧ b ≤ 32 ∧ 1 ≤ p ∧ p ≤ 16) : CI (newT b p []).1 b := by
 obtain ⟨h1, h2⟩ := newT_ok b p []
 refine ⟨h1, h2, ?_⟩
 unfold newT
 rw [if_neg (by omega), newL_nil]
 simp only [List.length_replicate]
 omega
theorem s_law06_Made2 {l : List Int} (hl : U16 l) (hn : l.length < 9223372036854775808) {b p : Int} (h : 1 ≤ b ∧ b ≤ 32 ∧ 1 ≤ p ∧ p ≤ 16) : S_law06_Made (l, b, p) = some (chipT l b p) := by
 refine lim_eq 41 fun N hN => ?_
 show G_law06_Made N l b p = _
 unfold G_law06_Made chipT
 rw [s_ref05_New (by simp), some_bind']
 exact law06_Made_L1 hl hn (by omega) (by omega) 40 N 0 0 0 _ rfl (by omega) (by omega) (by omega) (newT_CI2 h) (by omega)
theorem chipT_CI {l : List Int} (hl : U16 l) {b p : Int} (h : 1 ≤ b ∧ b ≤ 32 ∧ 1 ≤ p ∧ p ≤ 16) : CI (chipT l b p) b := chipL_ok hl 40 0 _ (newT_CI2 h)
end Clk
namespace Clk
open Go
set_option linter.unusedVariables false
end Clk
namespace Clk
open Go
set_option linter.unusedVariables false
theorem aheadT_swo : Sort.SWO aheadT where
 irrefl x := by unfold aheadT; simp
 trans x y z h1 h2 := by unfold aheadT at *; simp only [Bool.or_eq_true, Bool.and_eq_true, decide_eq_true_eq] at *; omega
 ntrans x y z h1 h2 := by unfold aheadT at *; simp only [Bool.or_eq_false_iff, Bool.and_eq_false_iff, decide_eq_false_iff_not] at *; omega
theorem insT_insL : ∀ (l : List Found) (f : Found), insT l f = insL aheadT l f
 | [], f => rfl
 | x :: l, f => by unfold insT insL; rw [insT_insL l f]
def SortedT (l : List Found) : Prop := l.Pairwise fun x y => aheadT y x = false
theorem insT_sorted {l : List Found} (f : Found) (h : SortedT l) : SortedT (insT l f) := by
 rw [insT_insL]; exact insL_sorted aheadT_swo l f h
theorem foldT_sorted : ∀ (B l : List Found), SortedT l → SortedT (B.foldl insT l)
 | [], l, h => h
 | f :: B, l, h => foldT_sorted B _ (insT_sorted f h)
theorem allT_sorted (c : Chip) : SortedT (allT c) := by
 unfold allT; rw [blocksT_fold]; exact foldT_sorted _ _ .nil
theorem clrT_blank (n : Int) : ∀ (i : Nat) (l : List Page), ∀ p ∈ clrT true n i l, p = zPage
 | _, [], p, h => by cases h
 | i, q :: l, p, h => by
   unfold clrT at h
   rcases List.mem_cons.1 h with rfl | h
   · rw [if_pos (.inl rfl)]
   · exact clrT_blank n (i + 1) l p h
end Clk
namespace Clk
open Go
set_option linter.unusedVariables false
def FrB (b : Block) : Prop := 0 ≤ b.next ∧ ∀ i : Nat, b.next ≤ i → i < b.pages.length → (b.pages.getD i default).written = false
def FrC (c : Chip) : Prop := ∀ b ∈ c.blocks, FrB b
theorem FrB_prog {bl : Block} (h : FrB bl) (hl : bl.pages.length < 4294967296) {p : Int} (h0 : 0 ≤ p) (h1 : p < bl.pages.length) (hn : bl.next = p) (page : Page) (f : Fate) : FrB (newBlock bl p page f) := by
 obtain ⟨h3, h4⟩ := h
 have e : w64 (bl.next + 1) = bl.next + 1 := w64_id (by omega) (by omega)
 refine ⟨by simp only [newBlock, e]; omega, fun i hi hl => ?_⟩
 simp only [newBlock, e] at hi
 simp only [newBlock, List.length_set] at hl ⊢
 rw [getD_set_ne' (by omega)]
 exact h4 i (by omega) hl
theorem FrB_era {bl : Block} (h : FrB bl) : FrB (eraBlock bl zFate) := by
 unfold eraBlock
 rw [if_neg (by decide)]
 refine ⟨by simp only; rw [if_neg (by decide)]; omega, fun i _ hl => ?_⟩
 have : (clrT (decide (zFate.kind = 0)) zFate.n 0 bl.pages).getD i default ∈ clrT true zFate.n 0 bl.pages := getD_mem' hl
 show ((clrT (decide (zFate.kind = 0)) zFate.n 0 bl.pages).getD i default).written = false
 rw [clrT_blank _ _ _ _ this]; rfl
theorem progT_Fr {c : Chip} (hk : ChipOk c) (h : FrC c) (b p : Int) (page : Page) (f : Fate) : FrC (progT c b p page f).1 := by
 unfold progT
 split
 · exact h
 · split
   · rename_i hc
     obtain ⟨h1, h2, h3, h4, h5, h6, _⟩ := canProg_iff.1 hc
     intro x hx
     rcases List.mem_or_eq_of_mem_set hx with h7 | rfl
     · exact h x h7
     · have hm : c.blocks.getD b.toNat default ∈ c.blocks := getD_mem' (by omega)
       exact FrB_prog (h _ hm) (hk.2 _ hm) h3 h4 h6 _ _
   · exact h
theorem eraT_Fr {c : Chip} (h : FrC c) (b : Int) : FrC (eraT c b zFate).1 := by
 unfold eraT
 split
 · exact h
 · split
   · rename_i hc
     unfold canEra at hc
     simp only [Bool.and_eq_true, decide_eq_true_eq] at hc
     intro x hx
     rcases List.mem_or_eq_of_mem_set hx with h7 | rfl
     · exact h x h7
     · exact FrB_era (h _ (getD_mem' (by omega)))
   · exact h
theorem stepC_Fr {l : List Int} {m : Int} {a : Nat} {c : Chip} (hk : ChipOk c) (h : FrC c) : FrC (stepC l m a c) := by
 have h1 : FrC (if l.getD a 0 % 29 = 0 then (eraT c (l.getD a 0 % m) zFate).1 else c) ∧ ChipOk (if l.getD a 0 % 29 = 0 then (eraT c (l.getD a 0 % m) zFate).1 else c) := by
  split
  · exact ⟨eraT_Fr h _, (eraT_ok hk _ _).1⟩
  · exact ⟨h, hk⟩
 unfold stepC
 simp only
 generalize (if l.getD a 0 % 29 = 0 then (eraT c (l.getD a 0 % m) zFate).1 else c) = c1 at h1
 generalize (if l.getD a 0 % 11 = 0 then (⟨1, [120], (pgT (l.getD a 0 / 7 % 30) ((l.drop a).take (nextAt l a - a))).tag, 0⟩ : Fate) else zFate) = f
 split
 · exact h1.1
 · exact progT_Fr h1.2 h1.1 _ _ _ _
theorem chipL_Fr {l : List Int} (hl : U16 l) {m : Int} : ∀ (k a : Nat) (c : Chip), CI c m → FrC c → FrC (chipL l m k a c)
 | 0, a, c, _, h => h
 | k + 1, a, c, hc, h => by
   unfold chipL
   split
   · exact chipL_Fr hl k _ _ (stepC_ok hl hc) (stepC_Fr hc.ok h)
   · exact h
theorem newT_Fr (b p : Int) : FrC (newT b p []).1 := by
 unfold newT
 split
 · intro x hx; simp [zChip] at hx
 · rw [newL_nil]
   intro x hx
   obtain ⟨_, rfl⟩ := List.mem_replicate.1 hx
   refine ⟨by simp only; omega, fun i _ hl => ?_⟩
   have : (List.replicate p.toNat zPage).getD i default ∈ List.replicate p.toNat zPage := getD_mem' hl
   show ((List.replicate p.toNat zPage).getD i default).written = false
   rw [(List.mem_replicate.1 this).2]; rfl
theorem chipT_Fr {l : List Int} (hl : U16 l) {b p : Int} (h : 1 ≤ b ∧ b ≤ 32 ∧ 1 ≤ p ∧ p ≤ 16) : FrC (chipT l b p) := chipL_Fr hl 40 0 _ (newT_CI2 h) (newT_Fr b p)
theorem fold_perm : ∀ (B l : List Found), (B.foldl insT l).Perm (B ++ l)
 | [], l => List.Perm.refl _
 | f :: B, l => by
   refine (fold_perm B (insT l f)).trans ?_
   rw [insT_insL]
   exact ((insL_perm aheadT l f).append_left B).trans List.perm_middle
theorem allT_perm (c : Chip) : (allT c).Perm (vb 0 c.blocks) := by
 rw [allT_vb]
 have := fold_perm (vb 0 c.blocks) []
 rwa [List.append_nil] at this
theorem dec_torn {r : Record} {data Y : Str} (h : rightT r = true) (hd : data.length ≤ 16) (hY : Y ≠ []) : decT ((encT r data).1 ++ Y) data = (zRec, 30) ∧ tagOk ((encT r data).1 ++ Y) := by
 obtain ⟨k0, k1, k2, k3, k4, k5, k6, k7⟩ := rightT_len h
 have hk : ∀ n ∈ r.keys, Small40 n := fun n hn => by have := keysT_range k7 n hn; exact ⟨by omega, by omega⟩
 have hv : ∀ n ∈ movT 1 r.values, Small40 n := fun n hn => by
  unfold movT at hn
  obtain ⟨m, hm, rfl⟩ := List.mem_map.1 hn
  have := vr_range k6 m hm
  rw [w64_id (by omega) (by omega)]; exact ⟨by omega, by omega⟩
 have hh : ∀ n ∈ [r.kind, r.seq], Small40 n := fun n hn => by
  simp only [List.mem_cons, List.not_mem_nil, or_false] at hn
  rcases hn with rfl | rfl
  · exact ⟨by omega, by omega⟩
  · exact ⟨k3, k4⟩
 have hml : (movT 1 r.values).length = r.values.length := by simp [movT]
 have hE : encT r data = (bodyT r ++ bytes4 (crcT (bodyT r ++ data)), 0) := by
  unfold encT
  rw [if_neg]
  rintro (h1 | h1)
  · rw [h] at h1; cases h1
  · omega
 generalize hX : bytes4 (crcT (bodyT r ++ data)) = X at hE
 have u1 : unpackT ((encT r data).1 ++ Y) = ([r.kind, r.seq], (packT r.keys).1 ++ ((packT (movT 1 r.values)).1 ++ (X ++ Y)), 0) := by
  rw [hE]
  unfold bodyT
  simp only [List.append_assoc]
  exact unpack_pack hh (by simp) _
 have u2 : unpackT ((packT r.keys).1 ++ ((packT (movT 1 r.values)).1 ++ (X ++ Y))) = (r.keys, (packT (movT 1 r.values)).1 ++ (X ++ Y), 0) := unpack_pack hk (by omega) _
 have u3 : unpackT ((packT (movT 1 r.values)).1 ++ (X ++ Y)) = (movT 1 r.values, X ++ Y, 0) := unpack_pack hv (by omega) _
 have hr : (⟨r.kind, r.seq, r.keys, mvT (movT 1 r.values)⟩ : Record) = r := by rw [mv_mov k6]
 refine ⟨?_, fun _ _ => by rw [u1]; simp only; rw [u2]⟩
 unfold decT
 rw [u1]
 simp only
 rw [u2]
 simp only
 rw [u3]
 simp only [List.length_cons, List.length_nil]
 rw [if_neg (by simp)]
 have e0 : [r.kind, r.seq].getD 0 0 = r.kind := rfl
 have e1 : [r.kind, r.seq].getD 1 0 = r.seq := rfl
 rw [e0, e1, hr, if_pos]
 right
 intro e
 have := congrArg List.length e
 simp only [List.length_append] at this
 exact hY (List.eq_nil_of_length_eq_zero (by omega))
end Clk
namespace Clk
open Go
set_option linter.unusedVariables false
def pageT (c : Chip) (place : Int) : Page × Bool :=
 if place < 0 ∨ (c.blocks.length : Int) ≤ place / 16 ∨ 32 ≤ place / 16 ∨ ((c.blocks.getD (place / 16).toNat default).pages.length : Int) ≤ place % 16 then (zPage, false)
 else ((c.blocks.getD (place / 16).toNat default).pages.getD (place % 16).toNat default, true)
def I64 (n : Int) : Prop := -9223372036854775808 ≤ n ∧ n < 9223372036854775808
theorem s_scan_Page (c : Chip) {place : Int} (hp : I64 place) : S_scan_Page (c, place) = some (pageT c place) := by
 obtain ⟨p1, p2⟩ := hp
 show G_scan_Page c place = _
 unfold G_scan_Page pageT
 by_cases c1 : place < 0
 · rw [decide_eq_true c1, cond_true, if_pos (.inl c1)]; rfl
 · rw [decide_eq_false c1, cond_false, Int.tdiv_eq_ediv_of_nonneg (by omega), Int.tmod_eq_emod_of_nonneg (by omega), w64_id (n := place / 16) (by omega) (by omega)]
   by_cases c2 : min (c.blocks.length : Int) 32 ≤ place / 16
   · rw [decide_eq_true c2, cond_true, if_pos (by omega)]; rfl
   · rw [decide_eq_false c2, cond_false, decide_eq_true (show 0 ≤ place / 16 by omega), decide_eq_true (show place / 16 < (c.blocks.length : Int) by omega)]
     simp only [cond_true]
     by_cases c3 : ((c.blocks.getD (place / 16).toNat default).pages.length : Int) ≤ place % 16
     · rw [decide_eq_true c3, cond_true, if_pos (by omega)]; rfl
     · rw [decide_eq_false c3, cond_false, decide_eq_true (show 0 ≤ place % 16 by omega), decide_eq_true (show place % 16 < ((c.blocks.getD (place / 16).toNat default).pages.length : Int) by omega), if_neg (by omega)]
       rfl
def c6a : Chip := (progT (newT 2 2 []).1 0 0 (pgT 7 []) zFate).1
def c6 : Chip := (progT c6a 1 0 (pgT 3 []) zFate).1
theorem u16_nil : U16 [] := fun _ h => by cases h
theorem c6_ok : ChipOk c6a ∧ ChipOk c6 ∧ PagesOk c6 ∧ TagsOk c6 := by
 have h := newT_CI2 (b := 2) (p := 2) (by decide)
 have k1 : PageOk (pgT 7 []) := makeT_ok (pgT_w u16_nil _)
 have k2 : PageOk (pgT 3 []) := makeT_ok (pgT_w u16_nil _)
 have z : zFate.tag.length < 4294967296 ∧ zFate.data.length < 4294967296 := ⟨by simp [zFate], by simp [zFate]⟩
 have h1 : ChipOk c6a := progT_ok h.ok _ _ _ _
 have h2 : PagesOk c6a := progT_pages h.pages _ _ k1 z
 have h3 : TagsOk c6a := progT_all (newT_all tag_nil 2 2 []) _ _ (show tagOk (pgT 7 []).tag from make_tag _) (fun h => absurd rfl h)
 exact ⟨h1, progT_ok h1 _ _ _ _, progT_pages h2 _ _ k2 z, progT_all h3 _ _ (show tagOk (pgT 3 []).tag from make_tag _) (fun h => absurd rfl h)⟩
def awake6T : Bool :=
 decide ((allT c6).length = 2) && decide (((allT c6).getD 0 default).place = 16) && decide (((allT c6).getD 0 default).record.seq = 3) && decide (((allT c6).getD 1 default).place = 0) && (pageT c6 16).2 && (pageT c6 16).1.written && !(pageT c6 2).2
set_option maxRecDepth 1000000 in
theorem awake6_ok : awake6T = true := by kernel_rfl
theorem s_law06_awake : S_law06_awake () = some true := by
 obtain ⟨h1, h2, h3, h4⟩ := c6_ok
 have h := awake6_ok
 unfold awake6T at h
 simp only [Bool.and_eq_true, decide_eq_true_eq, Bool.not_eq_true'] at h
 obtain ⟨⟨⟨⟨⟨⟨a1, a2⟩, a3⟩, a4⟩, a5⟩, a6⟩, a7⟩ := h
 show G_law06_awake = _
 unfold G_law06_awake
 rw [s_ref05_New (by simp), some_bind', s_law06_Page u16_nil (by simp), some_bind', show (Fate.mk 0 [] [] 0) = zFate from rfl, s_ref05_Program (newT_CI2 (b := 2) (p := 2) (by decide)).ok, some_bind', s_law06_Page u16_nil (by simp), some_bind']
 rw [show (progT (newT 2 2 []).1 0 0 (pgT 7 []) zFate).1 = c6a from rfl, s_ref05_Program h1, some_bind', show (progT c6a 1 0 (pgT 3 []) zFate).1 = c6 from rfl, s_scan_All h2 h3 h4, some_bind', s_scan_Page c6 (by constructor <;> decide), some_bind', s_scan_Page c6 (by constructor <;> decide), some_bind']
 rw [a1, a2, a3, a4, a5, a6, a7, s_scan_Place, some_bind', s_scan_Place, some_bind']
 rfl
end Clk
namespace Clk
open Go
set_option linter.unusedVariables false
theorem s_ref03_Same {r s : Record} (hr : RecOk r) : S_ref03_Same (r, s) = some (decide (r = s)) := by
 show G_ref03_Same r s = _
 unfold G_ref03_Same
 obtain ⟨k, q, ks, vs⟩ := r
 obtain ⟨k', q', ks', vs'⟩ := s
 simp only [Record.mk.injEq]
 by_cases h1 : k = k'
 · rw [decide_eq_true h1, cond_true]
   by_cases h2 : q = q'
   · rw [decide_eq_true h2, cond_true, s_ref02_Same hr.1, some_bind']
     by_cases h3 : ks = ks'
     · rw [decide_eq_true h3, cond_true, s_ref02_Same hr.2, some_bind']
       simp [h1, h2, h3]
     · rw [decide_eq_false h3, cond_false, decide_eq_false (fun h => h3 h.2.2.1)]
   · rw [decide_eq_false h2, cond_false, decide_eq_false (fun h => h2 h.2.1)]
 · rw [decide_eq_false h1, cond_false, decide_eq_false (fun h => h1 h.1)]
theorem mkL_two {l : List Int} (hl : U16 l) : ∀ (n a : Nat) (key : Int), (mkL l 2 n a key).1.length = (mkL l 2 n a key).2.length ∧ (mkL l 2 n a key).2.all vr = true
 | 0, a, key => ⟨rfl, rfl⟩
 | n + 1, a, key => by
   unfold mkL
   split
   · rw [if_pos rfl]
     obtain ⟨h1, h2⟩ := mkL_two hl n (a + 2) (key + 1 + pk l a 10)
     have := pk_range hl (a + 1) (n := 513) (by omega)
     refine ⟨by simp only [List.length_cons, h1], ?_⟩
     rw [List.all_cons, h2, Bool.and_true]
     unfold vr
     rw [decide_eq_true (by omega), decide_eq_true (by omega)]; rfl
   · exact ⟨rfl, rfl⟩
theorem mkL_one {l : List Int} : ∀ (n a : Nat) (key : Int), (mkL l 1 n a key).2 = []
 | 0, a, key => rfl
 | n + 1, a, key => by
   unfold mkL
   split
   · rw [if_neg (by decide)]; exact mkL_one n _ _
   · rfl
def recT (s : Int) (m : List Int) : Record := ⟨(madeT m).kind, s, (madeT m).keys, (madeT m).values⟩
theorem recT_right {m : List Int} (hm : U16 m) {s : Int} (hs : 0 ≤ s ∧ s < 65536) : rightT (recT s m) = true := by
 have hk := madeT_keys hm
 have hp := pk_range hm 0 (n := 2) (by omega)
 unfold rightT recT
 simp only
 rw [decide_eq_true (show 0 ≤ s by omega), decide_eq_true (show s ≤ 1099511627776 by omega), hk]
 simp only [Bool.true_and]
 have hc : pk m 0 2 = 0 ∨ pk m 0 2 = 1 := by omega
 rcases hc with hc | hc
 · have e : (madeT m).values = [] := by unfold madeT; simp only [hc]; exact mkL_one _ _ _
   rw [if_pos (by unfold madeT; simp only [hc]; rfl), e]; rfl
 · have e := mkL_two hm (pk m 4 8 + 1).toNat 5 (pk m 3 20)
   rw [if_neg (by unfold madeT; simp only [hc]; decide)]
   unfold madeT
   simp only [hc, show (1 : Int) + 1 = 2 from rfl]
   rw [e.2, decide_eq_true e.1.symm]; simp
theorem pgT_eq {m : List Int} (hm : U16 m) {s : Int} (hs : 0 ≤ s ∧ s < 65536) : pgT s m = ⟨true, [100], (encT (recT s m) [100]).1⟩ := by
 have h := encT_ok (data := [100]) (recT_right hm hs) (by simp)
 unfold pgT makeT
 rw [if_neg (by simpa [recT] using h)]
 rfl
def PL (n : Nat) (c : Chip) : Prop := ∀ b ∈ c.blocks, b.pages.length = n
theorem eraT_PL {n : Nat} {c : Chip} (h : PL n c) (b : Int) (f : Fate) : PL n (eraT c b f).1 := by
 unfold eraT
 split
 · exact h
 · split
   · rename_i hc
     unfold canEra at hc
     simp only [Bool.and_eq_true, decide_eq_true_eq] at hc
     intro x hx
     rcases List.mem_or_eq_of_mem_set hx with h3 | rfl
     · exact h x h3
     · have := h _ (getD_mem' (d := default) (show b.toNat < c.blocks.length by omega))
       unfold eraBlock
       split
       · exact this
       · simp only [clrT_len]; exact this
   · exact h
theorem progT_PL {n : Nat} {c : Chip} (h : PL n c) (b p : Int) (page : Page) (f : Fate) : PL n (progT c b p page f).1 := by
 unfold progT
 split
 · exact h
 · split
   · rename_i hc
     obtain ⟨h1, h2, _⟩ := canProg_iff.1 hc
     intro x hx
     rcases List.mem_or_eq_of_mem_set hx with h3 | rfl
     · exact h x h3
     · have := h _ (getD_mem' (d := default) (show b.toNat < c.blocks.length by omega))
       unfold newBlock
       simp only [List.length_set]; exact this
   · exact h
theorem chipL_PL {n : Nat} {l : List Int} {m : Int} : ∀ (k a : Nat) (c : Chip), PL n c → PL n (chipL l m k a c)
 | 0, a, c, h => h
 | k + 1, a, c, h => by
   unfold chipL
   split
   · refine chipL_PL k _ _ ?_
     unfold stepC
     simp only
     have h1 : PL n (if l.getD a 0 % 29 = 0 then (eraT c (l.getD a 0 % m) zFate).1 else c) := by
      split
      · exact eraT_PL h _ _
      · exact h
     generalize (if l.getD a 0 % 29 = 0 then (eraT c (l.getD a 0 % m) zFate).1 else c) = c1 at h1
     generalize (if l.getD a 0 % 11 = 0 then (⟨1, [120], (pgT (l.getD a 0 / 7 % 30) ((l.drop a).take (nextAt l a - a))).tag, 0⟩ : Fate) else zFate) = f
     split
     · exact h1
     · exact progT_PL h1 _ _ _ _
   · exact h
theorem chipT_PL (l : List Int) {b p : Int} (h : 1 ≤ b ∧ b ≤ 32 ∧ 1 ≤ p ∧ p ≤ 16) : PL p.toNat (chipT l b p) := chipL_PL 40 0 _ (by
 unfold newT
 rw [if_neg (by omega), newL_nil]
 intro x hx
 obtain ⟨_, rfl⟩ := List.mem_replicate.1 hx
 simp)
theorem prog_tells2 {c : Chip} (hf : FrC c) {b p : Int} {page : Page} (h : (progT c b p page zFate).2 = 0) :
 ∃ A B, vb 0 c.blocks = A ++ B ∧ vb 0 (progT c b p page zFate).1.blocks = A ++ vv b.toNat p.toNat ⟨true, page.data, page.tag⟩ ++ B ∧ (∀ q, (A ++ vv b.toNat p.toNat q ++ B).Pairwise (fun x y => x.place < y.place)) := by
 obtain ⟨hc, he⟩ := progT_cases (.inl h)
 obtain ⟨h1, h2, h3, h4, h5, h6, _⟩ := canProg_iff.1 hc
 obtain ⟨A, B, g1, g2⟩ := prog_vb (c := c) (b := b.toNat) (p := p.toNat) (by omega) (by omega)
 have hw : ((c.blocks.getD b.toNat default).pages.getD p.toNat default).written = false := (hf _ (getD_mem' (by omega))).2 _ (by omega) (by omega)
 refine ⟨A, B, ?_, ?_, fun q => ?_⟩
 · rw [g1, vv_none (by rw [look_blank hw]; decide)]; simp
 · rw [he]
   show vb 0 (c.blocks.set b.toNat (newBlock (c.blocks.getD b.toNat default) p page zFate)) = _
   unfold newBlock
   rw [g2, if_pos (show zFate.kind = 0 from rfl)]
 · rw [← g2 q 0 0 false]; exact vb_pair _ 0
def isP (P : Int) (f : Found) : Bool := decide (f.place = P)
theorem One_L2 {ih0 : Bool × Bool × List Found × Int × Chip × Page → Option Bool} {torn ok : Bool} {a k : List Found} (ha : a.length < 4294967296) (hk : k.length < 4294967296) {b at_ : Int} {c : Chip} {p : Page} (hp : PageOk p) {r : Record} (hr : RecOk r) (hdec : (∃ f ∈ k, f.place = placeT b at_) → decT p.tag p.data = (r, 0))
 (hF : ∀ f ∈ k, f.place = placeT b at_ → f.record = r) (hS : SortedT k) {want : Int} (hw : want = a.length ∨ want = a.length + 1) (hb : 0 ≤ b ∧ b < 100) : ∀ (l : List Found) (N i : Nat) (ii : Int) (had : Nat), k.drop i = l → ii = i → (had : Int) + ((l.filter (isP (placeT b at_))).length : Int) = want - a.length → l.length < N →
 iterF (F_law06_ScanOne_L2 ih0) N (torn, ok, a, b, at_, k, want, (had : Int), ii, c, p) = ih0 (torn, ok, a, b + 1, c, p)
 | l, 0, _, _, _, _, _, _, h => by omega
 | [], N + 1, i, ii, had, h1, h2, h3, _ => by
   have := drop_nil h1
   rw [iterF_succ, F_law06_ScanOne_L2_eq]
   unfold G_law06_ScanOne_L2
   dsimp only
   simp only [List.filter_nil, List.length_nil] at h3
   rw [decide_eq_false (by omega), cond_false, w64_id (n := want - (a.length : Int)) (by omega) (by omega), decide_eq_true (by omega), Bool.not_true, cond_false, w64_id (n := b + 1) (by omega) (by omega)]
 | f :: l, N + 1, i, ii, had, h1, h2, h3, h4 => by
   obtain ⟨g1, g2, g3⟩ := drop_cons h1
   subst h2
   have hm : f ∈ k := by rw [← g2 default]; exact getD_mem' g1
   simp at h4
   have hord : 0 < i → ¬ (f.record.seq < (k.getD (i - 1) default).record.seq) := fun h0 hlt => by
    have hx := List.pairwise_iff_getElem.1 hS (i - 1) i (by omega) g1 (by omega)
    have e1 : k[i] = f := by have := g2 default; rw [List.getD_eq_getElem?_getD, List.getElem?_eq_getElem g1] at this; exact this
    have e2 : k.getD (i - 1) default = k[i - 1] := by rw [List.getD_eq_getElem?_getD, List.getElem?_eq_getElem (show i - 1 < k.length by omega)]; rfl
    rw [e1] at hx
    rw [e2] at hlt
    unfold aheadT at hx
    rw [decide_eq_true hlt] at hx
    simp at hx
   have tail : ∀ h' : Nat, (h' : Int) + ((l.filter (isP (placeT b at_))).length : Int) = want - a.length → iterF (F_law06_ScanOne_L2 ih0) N (torn, ok, a, b, at_, k, want, (h' : Int), (((i + 1 : Nat) : Int)), c, p) = ih0 (torn, ok, a, b + 1, c, p) := fun h' hh =>
    One_L2 ha hk hp hr hdec hF hS hw hb l N (i + 1) _ h' g3 rfl hh (by omega)
   have ew : w64 ((i : Int) + 1) = ((i + 1 : Nat) : Int) := by rw [w64_id (by omega) (by omega)]; omega
   rw [iterF_succ, F_law06_ScanOne_L2_eq]
   unfold G_law06_ScanOne_L2
   simp only [Int.toNat_natCast, g2]
   rw [decide_eq_true (show (i : Int) < k.length by omega), decide_eq_true (show (0 : Int) ≤ i by omega), s_scan_Place, some_bind', ew]
   simp only [cond_true]
   by_cases hpl : f.place = placeT b at_
   · rw [decide_eq_true hpl, cond_true, s_ref03_Decode hp.1 hp.2, some_bind', hdec ⟨f, hm, hpl⟩, decide_eq_true (show (0 : Int) = 0 from rfl), Bool.not_true, cond_false, s_ref03_Same hr, some_bind', decide_eq_true (hF f hm hpl).symm, Bool.not_true, cond_false]
     have hcnt : ((had + 1 : Nat) : Int) + ((l.filter (isP (placeT b at_))).length : Int) = want - a.length := by
      rw [List.filter_cons_of_pos (by unfold isP; exact decide_eq_true hpl), List.length_cons] at h3
      omega
     have eh : w64 ((had : Int) + 1) = ((had + 1 : Nat) : Int) := by rw [w64_id (by omega) (by omega)]; omega
     by_cases h0 : 0 < i
     · rw [decide_eq_true (show (0 : Int) < i by omega), cond_true]
       have e3 : w64 ((i : Int) - 1) = ((i - 1 : Nat) : Int) := by rw [w64_id (by omega) (by omega)]; omega
       rw [e3]
       simp only [Int.toNat_natCast]
       rw [decide_eq_true (show (0 : Int) ≤ ((i - 1 : Nat) : Int) by omega), decide_eq_true (show ((i - 1 : Nat) : Int) < k.length by omega), decide_eq_false (hord h0)]
       simp only [cond_true, cond_false]
       rw [eh]
       exact tail (had + 1) hcnt
     · rw [decide_eq_false (show ¬ (0 : Int) < i by omega), cond_false, eh]
       exact tail (had + 1) hcnt
   · rw [decide_eq_false hpl, cond_false]
     have hcnt : (had : Int) + ((l.filter (isP (placeT b at_))).length : Int) = want - a.length := by
      rw [List.filter_cons_of_neg (by unfold isP; rw [decide_eq_false hpl]; simp)] at h3
      exact h3
     by_cases h0 : 0 < i
     · rw [decide_eq_true (show (0 : Int) < i by omega), cond_true]
       have e3 : w64 ((i : Int) - 1) = ((i - 1 : Nat) : Int) := by rw [w64_id (by omega) (by omega)]; omega
       rw [e3]
       simp only [Int.toNat_natCast]
       rw [decide_eq_true (show (0 : Int) ≤ ((i - 1 : Nat) : Int) by omega), decide_eq_true (show ((i - 1 : Nat) : Int) < k.length by omega), decide_eq_false (hord h0)]
       simp only [cond_true, cond_false]
       exact tail had hcnt
     · rw [decide_eq_false (show ¬ (0 : Int) < i by omega), cond_false]
       exact tail had hcnt
theorem isP_sorted {l : List Found} {P : Int} {A B : List Found} {f0 : Found} (hp : (A ++ [f0] ++ B).Pairwise (fun x y => x.place < y.place)) : (∀ f ∈ A, f.place < f0.place) ∧ (∀ f ∈ B, f0.place < f.place) := by
 rw [List.append_assoc] at hp
 obtain ⟨_, h2, h3⟩ := List.pairwise_append.1 hp
 exact ⟨fun f hf => h3 f hf f0 (by simp), fun f hf => by have := List.rel_of_pairwise_cons h2 hf; exact this⟩
theorem look7 : (lookT (pgT 7 [])).1 = 1 := by
 rw [pgT_eq u16_nil (by omega)]
 unfold lookT
 rw [if_neg (by simp), dec_enc (recT_right u16_nil (by omega)) (by simp), if_neg (by simp)]
theorem One_L1 {torn : Bool} {c : Chip} {p : Page} (hk : ChipOk c) (hp : PagesOk c) (ht : TagsOk c) (hfr : FrC c) (hpl : PL 5 c) (hlen : (c.blocks.length : Int) = 3) (pg : PageOk p) (htag : tagOk p.tag) {r : Record} (hr : RecOk r)
 (hcase : (torn = true ∧ (decT p.tag p.data).2 ≠ 0) ∨ (torn = false ∧ decT p.tag p.data = (r, 0))) {N0 : Nat} (hN0 : 512 < N0) : ∀ (n N : Nat) (b : Int), 0 ≤ b → b + n = 3 → n < N → iterF (F_law06_ScanOne_L1 N0) N (torn, true, allT c, b, c, p) = some true
 | n, 0, _, _, _, h => by omega
 | 0, N + 1, b, h0, h1, _ => by
   rw [iterF_succ, F_law06_ScanOne_L1_eq]
   unfold G_law06_ScanOne_L1
   dsimp only
   rw [decide_eq_false (by omega), cond_false]
 | n + 1, N + 1, b, h0, h1, h2 => by
   have hal := allT_len c
   have z : zFate.tag.length < 4294967296 ∧ zFate.data.length < 4294967296 := ⟨by simp [zFate], by simp [zFate]⟩
   have next := One_L1 hk hp ht hfr hpl hlen pg htag hr hcase hN0 n N (b + 1) (by omega) (by omega) (by omega)
   rw [iterF_succ, F_law06_ScanOne_L1_eq]
   unfold G_law06_ScanOne_L1
   dsimp only
   rw [decide_eq_true (show b < 3 by omega), decide_eq_true h0, decide_eq_true (show b < (c.blocks.length : Int) by omega), show (Fate.mk 0 [] [] 0) = zFate from rfl, s_ref05_Program hk, some_bind']
   simp only [cond_true]
   generalize hat : (c.blocks.getD b.toNat default).next = a
   by_cases he : (progT c b a p zFate).2 = 0
   · rw [decide_eq_true he, Bool.not_true, cond_false, s_scan_All (progT_ok hk _ _ _ _) (progT_pages hp _ _ pg z) (progT_all ht _ _ (show tagOk p.tag from htag) (fun h => absurd rfl h)), some_bind']
     obtain ⟨A, B, g1, g2, g3⟩ := prog_tells2 hfr he
     obtain ⟨hc, _⟩ := progT_cases (.inl he)
     obtain ⟨c1, c2, c3, c4, _⟩ := canProg_iff.1 hc
     rw [hpl _ (getD_mem' (d := default) (show b.toNat < c.blocks.length by omega))] at c4
     have ea : ((a.toNat : Nat) : Int) = a := by omega
     have eb : ((b.toNat : Nat) : Int) = b := by omega
     have hpt : placeT b a = b * 16 + a := by unfold placeT; rw [if_neg (by omega)]
     have evv : ∀ q, vv b.toNat a.toNat q = if (lookT q).1 = 1 then [⟨placeT b a, (lookT q).2⟩] else [] := by
      intro q
      unfold vv
      rw [ea, eb]
      by_cases hq : (lookT q).1 = 1
      · rw [if_pos ⟨hq, by omega⟩, if_pos hq]
      · rw [if_neg (fun h => hq h.1), if_neg hq]
     have hAB := g3 (pgT 7 [])
     rw [evv, if_pos look7] at hAB
     obtain ⟨hA, hB⟩ := isP_sorted (l := []) (P := 0) hAB
     simp only at hA hB
     have fA : A.filter (isP (placeT b a)) = [] := List.filter_eq_nil_iff.2 fun f hf => by unfold isP; have := hA f hf; simp; omega
     have fB : B.filter (isP (placeT b a)) = [] := List.filter_eq_nil_iff.2 fun f hf => by unfold isP; have := hB f hf; simp; omega
     have pk := allT_perm (progT c b a p zFate).1
     have pc := allT_perm c
     have hkl := allT_len (progT c b a p zFate).1
     have hS := allT_sorted (progT c b a p zFate).1
     generalize allT (progT c b a p zFate).1 = k at *
     rw [g2, evv] at pk
     rw [g1] at pc
     have lc := pc.length_eq
     have lk := pk.length_eq
     rcases hcase with ⟨rfl, hd⟩ | ⟨rfl, hd⟩
     · have hlk : ¬ (lookT ⟨true, p.data, p.tag⟩).1 = 1 := by
        unfold lookT
        rw [if_neg (by simp), if_pos hd]; simp
       rw [if_neg hlk] at pk lk
       have fk : k.filter (isP (placeT b a)) = [] := by
        have := (pk.filter (isP (placeT b a)))
        rw [List.filter_append, List.filter_append, fA, fB] at this
        simpa using this
       have hno : ∀ f ∈ k, f.place ≠ placeT b a := fun f hf hh => by
        have := List.filter_eq_nil_iff.1 fk f hf
        unfold isP at this
        simp [hh] at this
       simp at lk lc
       rw [cond_true, decide_eq_true (show ((k.length : Nat) : Int) = ((allT c).length : Nat) by omega), Bool.not_true, cond_false]
       exact (One_L2 (ih0 := iterF (F_law06_ScanOne_L1 N0) N) (torn := true) (ok := true) (a := allT c) (c := c) (r := r) (by omega) (by omega) pg hr (fun ⟨f, hf, hh⟩ => absurd hh (hno f hf)) (fun f hf hh => absurd hh (hno f hf)) hS (.inl rfl) (by omega) k N0 0 0 0 rfl rfl (by rw [fk]; simp) (by omega)).trans next
     · have hlk : lookT ⟨true, p.data, p.tag⟩ = (1, r) := by
        unfold lookT
        rw [if_neg (by simp), if_neg (by rw [hd]; simp), hd]
       rw [hlk, if_pos rfl] at pk lk
       have fk : (k.filter (isP (placeT b a))).length = 1 := by
        have := (pk.filter (isP (placeT b a))).length_eq
        rw [List.filter_append, List.filter_append, fA, fB] at this
        rw [this, List.filter_cons_of_pos (by unfold isP; simp)]
        simp
       have hF : ∀ f ∈ k, f.place = placeT b a → f.record = r := fun f hf hh => by
        have := (pk.mem_iff).1 hf
        rw [List.mem_append, List.mem_append] at this
        rcases this with (h | h) | h
        · have := hA f h; omega
        · rw [List.mem_singleton] at h; rw [h]
        · have := hB f h; omega
       simp at lk lc
       rw [cond_false, w64_id (n := ((allT c).length : Int) + 1) (by omega) (by omega), decide_eq_true (show ((k.length : Nat) : Int) = ((allT c).length : Nat) + 1 by omega), Bool.not_true, cond_false]
       exact (One_L2 (ih0 := iterF (F_law06_ScanOne_L1 N0) N) (torn := false) (ok := true) (a := allT c) (c := c) (r := r) (by omega) (by omega) pg hr (fun _ => hd) hF hS (.inr rfl) (by omega) k N0 0 0 0 rfl rfl (by rw [fk]; simp; omega) (by omega)).trans next
   · rw [decide_eq_false he, Bool.not_false, cond_true, w64_id (n := b + 1) (by omega) (by omega)]
     exact next
theorem law_ScanOne {l m : List Int} {s : Int} (hl : U16 l) (hn : l.length < 9223372036854775808) (hs0 : 0 ≤ s ∧ s < 256) (hm : U16 m) (hmn : m.length < 9223372036854775808) (torn : Bool) : S_law06_ScanOne (l, s, m, torn) = some true := by
 have hb : (1 : Int) ≤ 3 ∧ (3 : Int) ≤ 32 ∧ (1 : Int) ≤ 5 ∧ (5 : Int) ≤ 16 := by decide
 have hci := chipT_CI hl hb
 have ht := chipT_tags l 3 5
 have hfr := chipT_Fr hl hb
 have hpl := chipT_PL l hb
 have hs : 0 ≤ s ∧ s < 65536 := by omega
 have hrr := recT_right hm hs
 have hro : RecOk (recT s m) := (madeT_ok hm).1
 have hel := encT_len (recT s m) [100]
 refine lim_eq 514 fun N hN => ?_
 show G_law06_ScanOne N l s m torn = _
 unfold G_law06_ScanOne
 rw [s_law06_awake, some_bind', Bool.not_true, cond_false, s_law06_Made2 hl hn hb, some_bind', w64_id (n := s) (by omega) (by omega), s_law06_Page hm hmn, some_bind', s_scan_All hci.ok hci.pages ht, some_bind', pgT_eq hm hs]
 generalize chipT l 3 5 = c at *
 cases torn with
 | true =>
   obtain ⟨d1, d2⟩ := dec_torn (data := [100]) (Y := [120]) hrr (by simp) (by simp)
   rw [cond_true, decide_eq_true (by simp only [List.length_cons, List.length_nil]; omega), cond_true]
   exact One_L1 (r := recT s m) hci.ok hci.pages ht hfr hpl hci.len ⟨by simp; omega, by simp⟩ d2 hro (.inl ⟨rfl, by simp only; rw [d1]; simp⟩) (by omega) 3 N 0 (by omega) (by omega) (by omega)
 | false =>
   rw [cond_false]
   exact One_L1 (r := recT s m) hci.ok hci.pages ht hfr hpl hci.len ⟨by simp; omega, by simp⟩ (enc_tag _ _) hro (.inr ⟨rfl, dec_enc hrr (by simp)⟩) (by omega) 3 N 0 (by omega) (by omega) (by omega)
theorem arg_u16s {w : World} {v : Value} {x : List Int} (h : IsArg (.list (.int .u16)) w v x) : U16 x ∧ x.length < 9223372036854775808 := by
 have := h.2.2 0 _ _ rfl rfl
 have e : encV (.list (.int .u16)) x = AV.rows (x.map fun n => [AV.int .u16 n]) := rfl
 cases this with
 | sl h1 h2 h3 =>
   refine ⟨fun n hn => ?_, ?_⟩
   · have := h3 [AV.int .u16 n] (List.mem_map.2 ⟨n, hn, rfl⟩) 0 _ _ rfl rfl
     cases this with
     | int h => exact wf_u16 h
   · simp at h1
     have : maxLen = 9223372036854775807 := rfl
     omega
theorem arg_u8 {w : World} {v : Value} {x : Int} (h : IsArg (.int .u8) w v x) : 0 ≤ x ∧ x < 256 := by
 have := h.2.2 0 _ _ rfl rfl
 cases this with
 | int h => exact wf_u8 h
end Clk
