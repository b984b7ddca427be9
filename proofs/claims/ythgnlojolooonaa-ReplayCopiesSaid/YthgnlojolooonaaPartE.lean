/- A part of the proof of ReplayCopies: an evaluator of the program's code that the kernel runs, its soundness, what the functions compute. -/
import Derived.Test.YthgnlojolooonaaPartD
import Derived.Test.YthgnlojolooonaaProg
import Derived.Shelf.SlSortCmp.InsertionK
import Derived.CallsIn
import Derived.Shelf.SlSortCmp.NoneTotal
import Derived.Ground.SlsfProg
import Derived.WalkKit
import Derived.StillTailTactics
import Derived.WalkSmall
import Derived.Tactics
import Derived.Tactics2
import Derived.Defers
import Derived.Recover
import Derived.BigRegion
import Derived.Deep.RegionHeld3
import Derived.KernelRfl
import Derived.IntWalk
set_option linter.unusedVariables false
set_option linter.unusedSimpArgs false
set_option maxRecDepth 1000000
namespace Go.Proofs.Ythgnlojolooonaa
open Clk Go.Proofs
noncomputable def tiL : List (Option TI) := [
 none,
 some ⟨1, 8, .func, .nilFunc⟩,
 some ⟨1, 8, (.int .i64), (.int .i64 0)⟩,
 some ⟨1, 8, (.int .i64), (.int .i64 0)⟩,
 some ⟨1, 1, .bool, (.bool false)⟩,
 some ⟨1, 1, (.int .u8), (.int .u8 0)⟩,
 some ⟨1, 1, (.int .u8), (.int .u8 0)⟩,
 some ⟨4, 24, (.struct [(0, 2), (1, 3), (2, 4), (3, 6)]), (.agg [(.int .i64 0), (.int .i64 0), (.bool false), (.int .u8 0)])⟩,
 some ⟨4, 24, (.struct [(0, 2), (1, 3), (2, 4), (3, 6)]), (.agg [(.int .i64 0), (.int .i64 0), (.bool false), (.int .u8 0)])⟩,
 some ⟨1, 16, .string, (.str ⟨#[]⟩)⟩,
 some ⟨1, 16, .string, (.str ⟨#[]⟩)⟩,
 some ⟨1, 16, .string, (.str ⟨#[]⟩)⟩,
 some ⟨1, 8, (.int .u64), (.int .u64 0)⟩,
 some ⟨2, 24, (.struct [(0, 9), (1, 12)]), (.agg [(.str ⟨#[]⟩), (.int .u64 0)])⟩,
 some ⟨2, 24, (.struct [(0, 9), (1, 12)]), (.agg [(.str ⟨#[]⟩), (.int .u64 0)])⟩,
 some ⟨1, 8, (.pointer 147), .nilPtr⟩,
 some ⟨1, 8, (.pointer 150), .nilPtr⟩,
 some ⟨1, 8, (.pointer 159), .nilPtr⟩,
 some ⟨1, 8, (.struct [(0, 17)]), (.agg [.nilPtr])⟩,
 some ⟨1, 8, (.struct [(0, 17)]), (.agg [.nilPtr])⟩,
 some ⟨1, 16, .iface, .nilIface⟩,
 some ⟨1, 4, (.int .i32), (.int .i32 0)⟩,
 some ⟨1, 24, (.slice 53), (.crows [])⟩,
 some ⟨1, 8, .func, .nilFunc⟩,
 some ⟨1, 24, (.slice 40), (.crows [])⟩,
 some ⟨4, 40, (.struct [(0, 24), (1, 4), (2, 4), (3, 3)]), (.agg [(.crows []), (.bool false), (.bool false), (.int .i64 0)])⟩,
 some ⟨4, 40, (.struct [(0, 24), (1, 4), (2, 4), (3, 3)]), (.agg [(.crows []), (.bool false), (.bool false), (.int .i64 0)])⟩,
 some ⟨1, 8, .func, .nilFunc⟩,
 some ⟨1, 24, (.slice 3), (.crows [])⟩,
 some ⟨2, 48, (.struct [(0, 28), (1, 28)]), (.agg [(.crows []), (.crows [])])⟩,
 some ⟨2, 48, (.struct [(0, 28), (1, 28)]), (.agg [(.crows []), (.crows [])])⟩,
 none,
 some ⟨1, 8, .func, .nilFunc⟩,
 some ⟨4, 64, (.struct [(0, 3), (1, 3), (2, 28), (3, 28)]), (.agg [(.int .i64 0), (.int .i64 0), (.crows []), (.crows [])])⟩,
 some ⟨4, 64, (.struct [(0, 3), (1, 3), (2, 28), (3, 28)]), (.agg [(.int .i64 0), (.int .i64 0), (.crows []), (.crows [])])⟩,
 some ⟨1, 8, (.int .i64), (.int .i64 0)⟩,
 none,
 some ⟨1, 8, .func, .nilFunc⟩,
 some ⟨1, 24, (.slice 42), (.crows [])⟩,
 some ⟨4, 48, (.struct [(0, 38), (1, 3), (2, 3), (3, 4)]), (.agg [(.crows []), (.int .i64 0), (.int .i64 0), (.bool false)])⟩,
 some ⟨4, 48, (.struct [(0, 38), (1, 3), (2, 3), (3, 4)]), (.agg [(.crows []), (.int .i64 0), (.int .i64 0), (.bool false)])⟩,
 some ⟨3, 40, (.struct [(0, 4), (1, 9), (2, 9)]), (.agg [(.bool false), (.str ⟨#[]⟩), (.str ⟨#[]⟩)])⟩,
 some ⟨3, 40, (.struct [(0, 4), (1, 9), (2, 9)]), (.agg [(.bool false), (.str ⟨#[]⟩), (.str ⟨#[]⟩)])⟩,
 some ⟨1, 8, .func, .nilFunc⟩,
 some ⟨4, 48, (.struct [(0, 3), (1, 9), (2, 9), (3, 3)]), (.agg [(.int .i64 0), (.str ⟨#[]⟩), (.str ⟨#[]⟩), (.int .i64 0)])⟩,
 some ⟨4, 48, (.struct [(0, 3), (1, 9), (2, 9), (3, 3)]), (.agg [(.int .i64 0), (.str ⟨#[]⟩), (.str ⟨#[]⟩), (.int .i64 0)])⟩,
 some ⟨1, 8, .func, .nilFunc⟩,
 some ⟨1, 8, .func, .nilFunc⟩,
 some ⟨1, 8, .func, .nilFunc⟩,
 some ⟨5, 72, (.struct [(0, 3), (1, 34)]), (.agg [(.int .i64 0), (.int .i64 0), (.int .i64 0), (.crows []), (.crows [])])⟩,
 some ⟨5, 72, (.struct [(0, 3), (1, 34)]), (.agg [(.int .i64 0), (.int .i64 0), (.int .i64 0), (.crows []), (.crows [])])⟩,
 some ⟨1, 8, .func, .nilFunc⟩,
 some ⟨1, 8, .func, .nilFunc⟩,
 some ⟨1, 2, (.int .u16), (.int .u16 0)⟩,
 some ⟨1, 8, .func, .nilFunc⟩,
 some ⟨1, 8, .func, .nilFunc⟩,
 some ⟨1, 24, (.slice 50), (.crows [])⟩,
 some ⟨1, 8, .func, .nilFunc⟩,
 some ⟨1, 8, .func, .nilFunc⟩,
 some ⟨1, 8, .func, .nilFunc⟩,
 some ⟨1, 8, .func, .nilFunc⟩,
 some ⟨1, 8, .func, .nilFunc⟩,
 some ⟨1, 8, .func, .nilFunc⟩,
 some ⟨1, 8, .func, .nilFunc⟩,
 none,
 some ⟨1, 8, .func, .nilFunc⟩,
 some ⟨5, 80, (.struct [(0, 9), (1, 34)]), (.agg [(.str ⟨#[]⟩), (.int .i64 0), (.int .i64 0), (.crows []), (.crows [])])⟩,
 some ⟨5, 80, (.struct [(0, 9), (1, 34)]), (.agg [(.str ⟨#[]⟩), (.int .i64 0), (.int .i64 0), (.crows []), (.crows [])])⟩,
 some ⟨1, 8, .func, .nilFunc⟩,
 none,
 some ⟨1, 8, .func, .nilFunc⟩,
 some ⟨1, 8, .func, .nilFunc⟩,
 some ⟨1, 8, .func, .nilFunc⟩,
 some ⟨1, 8, .func, .nilFunc⟩,
 some ⟨1, 8, (.pointer 40), .nilPtr⟩,
 some ⟨1, 8, .func, .nilFunc⟩,
 some ⟨1, 8, .func, .nilFunc⟩,
 some ⟨1, 8, .func, .nilFunc⟩,
 none,
 some ⟨1, 8, .func, .nilFunc⟩,
 some ⟨1, 8, .func, .nilFunc⟩,
 some ⟨1, 8, .func, .nilFunc⟩,
 some ⟨1, 8, .func, .nilFunc⟩,
 some ⟨1, 8, .func, .nilFunc⟩,
 none,
 some ⟨1, 8, .func, .nilFunc⟩,
 some ⟨1, 8, (.int .u64), (.int .u64 0)⟩,
 none,
 some ⟨1, 8, .func, .nilFunc⟩,
 some ⟨1, 8, .func, .nilFunc⟩,
 some ⟨1, 8, .func, .nilFunc⟩,
 none,
 some ⟨1, 8, .func, .nilFunc⟩,
 some ⟨1, 8, .func, .nilFunc⟩,
 some ⟨1, 8, .func, .nilFunc⟩,
 some ⟨1, 8, .func, .nilFunc⟩,
 some ⟨1, 8, .func, .nilFunc⟩,
 some ⟨1, 8, .func, .nilFunc⟩,
 some ⟨1, 8, .func, .nilFunc⟩,
 some ⟨1, 8, .func, .nilFunc⟩,
 some ⟨1, 4, (.int .u32), (.int .u32 0)⟩,
 none,
 some ⟨1, 8, .func, .nilFunc⟩,
 some ⟨1, 8, (.int .u64), (.int .u64 0)⟩,
 none,
 some ⟨1, 8, .func, .nilFunc⟩,
 some ⟨1, 8, .func, .nilFunc⟩,
 some ⟨1, 8, .func, .nilFunc⟩,
 some ⟨1, 8, (.int .i64), (.int .i64 0)⟩,
 none,
 some ⟨1, 8, .func, .nilFunc⟩,
 some ⟨1, 8, .func, .nilFunc⟩,
 some ⟨1, 8, .func, .nilFunc⟩,
 some ⟨1, 8, .func, .nilFunc⟩,
 some ⟨1, 8, .func, .nilFunc⟩,
 some ⟨1, 8, .func, .nilFunc⟩,
 some ⟨1, 8, .func, .nilFunc⟩,
 some ⟨1, 8, .func, .nilFunc⟩,
 some ⟨1, 24, (.slice 5), (.crows [])⟩,
 some ⟨1, 8, .func, .nilFunc⟩,
 some ⟨1, 8, (.pointer 34), .nilPtr⟩,
 some ⟨1, 8, (.pointer 35), .nilPtr⟩,
 some ⟨1, 8, (.pointer 124), .nilPtr⟩,
 some ⟨1, 16, (.struct [(0, 9)]), (.agg [(.str ⟨#[]⟩)])⟩,
 some ⟨1, 16, (.struct [(0, 9)]), (.agg [(.str ⟨#[]⟩)])⟩,
 some ⟨1, 8, .func, .nilFunc⟩,
 some ⟨3, 72, (.array 3 28), (.agg [(.crows []), (.crows []), (.crows [])])⟩,
 some ⟨1, 8, (.int .u64), (.int .u64 0)⟩,
 some ⟨1, 8, .func, .nilFunc⟩,
 some ⟨1, 8, .func, .nilFunc⟩,
 some ⟨1, 8, .func, .nilFunc⟩,
 some ⟨1, 8, (.pointer 3), .nilPtr⟩,
 some ⟨1, 8, .func, .nilFunc⟩,
 none,
 some ⟨1, 8, .func, .nilFunc⟩,
 some ⟨1, 8, .func, .nilFunc⟩,
 some ⟨4, 4, (.array 4 5), (.agg [(.int .u8 0), (.int .u8 0), (.int .u8 0), (.int .u8 0)])⟩,
 some ⟨1, 8, (.pointer 127), .nilPtr⟩,
 none,
 some ⟨1, 8, .func, .nilFunc⟩,
 none,
 some ⟨1, 8, .func, .nilFunc⟩,
 some ⟨1, 8, .func, .nilFunc⟩,
 some ⟨1, 8, .func, .nilFunc⟩,
 some ⟨1, 8, .func, .nilFunc⟩,
 some ⟨1, 8, .func, .nilFunc⟩,
 some ⟨4, 40, (.struct [(0, 17), (1, 17), (2, 17), (3, 9)]), (.agg [.nilPtr, .nilPtr, .nilPtr, (.str ⟨#[]⟩)])⟩,
 some ⟨4, 40, (.struct [(0, 17), (1, 17), (2, 17), (3, 9)]), (.agg [.nilPtr, .nilPtr, .nilPtr, (.str ⟨#[]⟩)])⟩,
 none,
 none,
 none,
 some ⟨1, 8, .func, .nilFunc⟩,
 some ⟨1, 1, (.int .u8), (.int .u8 0)⟩,
 some ⟨1, 1, (.int .u8), (.int .u8 0)⟩,
 some ⟨1, 8, .func, .nilFunc⟩,
 some ⟨1, 8, (.pointer 5), .nilPtr⟩,
 some ⟨1, 4, (.int .i32), (.int .i32 0)⟩,
 some ⟨1, 4, (.int .i32), (.int .i32 0)⟩,
 some ⟨11, 48, (.struct [(0, 12), (1, 12), (2, 100), (3, 152), (4, 5), (5, 5), (6, 153), (7, 154), (8, 155), (9, 156), (10, 157)]), (.agg [(.int .u64 0), (.int .u64 0), (.int .u32 0), (.int .u8 0), (.int .u8 0), (.int .u8 0), (.int .u8 0), .nilFunc, .nilPtr, (.int .i32 0), (.int .i32 0)])⟩,
 some ⟨11, 48, (.struct [(0, 12), (1, 12), (2, 100), (3, 152), (4, 5), (5, 5), (6, 153), (7, 154), (8, 155), (9, 156), (10, 157)]), (.agg [(.int .u64 0), (.int .u64 0), (.int .u32 0), (.int .u8 0), (.int .u8 0), (.int .u8 0), (.int .u8 0), .nilFunc, .nilPtr, (.int .i32 0), (.int .i32 0)])⟩,
 none]
noncomputable def zL : List (Option (List SV)) := [
 none,
 some [.nilFunc],
 some [.int .i64 0],
 some [.int .i64 0],
 some [.bool false],
 some [.int .u8 0],
 some [.int .u8 0],
 some [.int .i64 0, .int .i64 0, .bool false, .int .u8 0],
 some [.int .i64 0, .int .i64 0, .bool false, .int .u8 0],
 some [.str []],
 some [.str []],
 some [.str []],
 some [.int .u64 0],
 some [.str [], .int .u64 0],
 some [.str [], .int .u64 0],
 some [.nilPtr],
 some [.nilPtr],
 some [.nilPtr],
 some [.nilPtr],
 some [.nilPtr],
 some [.nilIface],
 some [.int .i32 0],
 some [.lst true (.int .u16) []],
 some [.nilFunc],
 some [.lst true .block []],
 some [.lst true .block [], .bool false, .bool false, .int .i64 0],
 some [.lst true .block [], .bool false, .bool false, .int .i64 0],
 some [.nilFunc],
 some [.lst true .i []],
 some [.lst true .i [], .lst true .i []],
 some [.lst true .i [], .lst true .i []],
 none,
 some [.nilFunc],
 some [.int .i64 0, .int .i64 0, .lst true .i [], .lst true .i []],
 some [.int .i64 0, .int .i64 0, .lst true .i [], .lst true .i []],
 some [.int .i64 0],
 none,
 some [.nilFunc],
 some [.lst true .page []],
 some [.lst true .page [], .int .i64 0, .int .i64 0, .bool false],
 some [.lst true .page [], .int .i64 0, .int .i64 0, .bool false],
 some [.bool false, .str [], .str []],
 some [.bool false, .str [], .str []],
 some [.nilFunc],
 some [.int .i64 0, .str [], .str [], .int .i64 0],
 some [.int .i64 0, .str [], .str [], .int .i64 0],
 some [.nilFunc],
 some [.nilFunc],
 some [.nilFunc],
 some [.int .i64 0, .int .i64 0, .int .i64 0, .lst true .i [], .lst true .i []],
 some [.int .i64 0, .int .i64 0, .int .i64 0, .lst true .i [], .lst true .i []],
 some [.nilFunc],
 some [.nilFunc],
 some [.int .u16 0],
 some [.nilFunc],
 some [.nilFunc],
 some [.lst true .found []],
 some [.nilFunc],
 some [.nilFunc],
 some [.nilFunc],
 some [.nilFunc],
 some [.nilFunc],
 some [.nilFunc],
 some [.nilFunc],
 none,
 some [.nilFunc],
 some [.str [], .int .i64 0, .int .i64 0, .lst true .i [], .lst true .i []],
 some [.str [], .int .i64 0, .int .i64 0, .lst true .i [], .lst true .i []],
 some [.nilFunc],
 none,
 some [.nilFunc],
 some [.nilFunc],
 some [.nilFunc],
 some [.nilFunc],
 some [.nilPtr],
 some [.nilFunc],
 some [.nilFunc],
 some [.nilFunc],
 none,
 some [.nilFunc],
 some [.nilFunc],
 some [.nilFunc],
 some [.nilFunc],
 some [.nilFunc],
 none,
 some [.nilFunc],
 some [.int .u64 0],
 none,
 some [.nilFunc],
 some [.nilFunc],
 some [.nilFunc],
 none,
 some [.nilFunc],
 some [.nilFunc],
 some [.nilFunc],
 some [.nilFunc],
 some [.nilFunc],
 some [.nilFunc],
 some [.nilFunc],
 some [.nilFunc],
 some [.int .u32 0],
 none,
 some [.nilFunc],
 some [.int .u64 0],
 none,
 some [.nilFunc],
 some [.nilFunc],
 some [.nilFunc],
 some [.int .i64 0],
 none,
 some [.nilFunc],
 some [.nilFunc],
 some [.nilFunc],
 some [.nilFunc],
 some [.nilFunc],
 some [.nilFunc],
 some [.nilFunc],
 some [.nilFunc],
 some [.lst true (.int .u8) []],
 some [.nilFunc],
 some [.nilPtr],
 some [.nilPtr],
 some [.nilPtr],
 some [.str []],
 some [.str []],
 some [.nilFunc],
 some [.lst true .i [], .lst true .i [], .lst true .i []],
 some [.int .u64 0],
 some [.nilFunc],
 some [.nilFunc],
 some [.nilFunc],
 some [.nilPtr],
 some [.nilFunc],
 none,
 some [.nilFunc],
 some [.nilFunc],
 some [.int .u8 0, .int .u8 0, .int .u8 0, .int .u8 0],
 some [.nilPtr],
 none,
 some [.nilFunc],
 none,
 some [.nilFunc],
 some [.nilFunc],
 some [.nilFunc],
 some [.nilFunc],
 some [.nilFunc],
 some [.nilPtr, .nilPtr, .nilPtr, .str []],
 some [.nilPtr, .nilPtr, .nilPtr, .str []],
 none,
 none,
 none,
 some [.nilFunc],
 some [.int .u8 0],
 some [.int .u8 0],
 some [.nilFunc],
 some [.nilPtr],
 some [.int .i32 0],
 some [.int .i32 0],
 some [.int .u64 0, .int .u64 0, .int .u32 0, .int .u8 0, .int .u8 0, .int .u8 0, .int .u8 0, .nilFunc, .nilPtr, .int .i32 0, .int .i32 0],
 some [.int .u64 0, .int .u64 0, .int .u32 0, .int .u8 0, .int .u8 0, .int .u8 0, .int .u8 0, .nilFunc, .nilPtr, .int .i32 0, .int .i32 0],
 none]
noncomputable def ecL : List (Option TC) := [
 none,
 none,
 some .i,
 some .i,
 some .bool,
 some (.int .u8),
 some (.int .u8),
 none,
 none,
 some .str,
 some .str,
 some .str,
 some (.int .u64),
 none,
 none,
 none,
 none,
 none,
 none,
 none,
 none,
 some (.int .i32),
 some (.list (.int .u16)),
 none,
 some (.list .block),
 none,
 some .chip,
 none,
 some (.list .i),
 none,
 some .table,
 none,
 none,
 none,
 some .record,
 some .i,
 none,
 none,
 some (.list .page),
 none,
 some .block,
 none,
 some .page,
 none,
 none,
 some .fate,
 none,
 none,
 none,
 none,
 some .found,
 none,
 none,
 some (.int .u16),
 none,
 none,
 some (.list .found),
 none,
 none,
 none,
 none,
 none,
 none,
 none,
 none,
 none,
 none,
 some .write,
 none,
 none,
 none,
 none,
 none,
 none,
 none,
 none,
 none,
 none,
 none,
 none,
 none,
 none,
 none,
 none,
 none,
 none,
 some (.int .u64),
 none,
 none,
 none,
 none,
 none,
 none,
 none,
 none,
 none,
 none,
 none,
 none,
 none,
 some (.int .u32),
 none,
 none,
 some (.int .u64),
 none,
 none,
 none,
 none,
 some .i,
 none,
 none,
 none,
 none,
 none,
 none,
 none,
 none,
 none,
 some (.list (.int .u8)),
 none,
 none,
 none,
 none,
 none,
 none,
 none,
 none,
 some (.int .u64),
 none,
 none,
 none,
 none,
 none,
 none,
 none,
 none,
 none,
 none,
 none,
 none,
 none,
 none,
 none,
 none,
 none,
 none,
 none,
 none,
 none,
 none,
 none,
 none,
 some (.int .u8),
 some (.int .u8),
 none,
 none,
 some (.int .i32),
 some (.int .i32),
 none,
 none,
 none]
noncomputable def eqL : List Bool := [false, false, false, false, false, false, false, true, true, false, false, false, false, false, false, false, false, false, false, false, false, false, false, false, false, true, true, false, false, true, true, false, false, true, true, false, false, false, false, true, true, true, true, false, true, true, false, false, false, true, true, false, false, false, false, false, false, false, false, false, false, false, false, false, false, false, true, true, false, false, false, false, false, false, false, false, false, false, false, false, false, false, false, false, false, false, false, false, false, false, false, false, false, false, false, false, false, false, false, false, false, false, false, false, false, false, false, false, false, false, false, false, false, false, false, false, false, false, false, false, false, false, false, true, true, false, false, false, false, false, false, false, false, false, false, false, false, false, false, false, false, false, false, false, false, false, false, false, false, false, false, false, false, false, false, false, false, false, false, false, false]
noncomputable def fnL : List (Option Go.Func) := [none, none, none, some Try.f3, some Try.f4, some Try.f5, some Try.f6, some Try.f7, some Try.f8, some Try.f9, some Try.f10, some Try.f11, some Try.f12, some Try.f13, some Try.f14, some Try.f15, some Try.f16, some Try.f17, some Try.f18, some Try.f19, some Try.f20, some Try.f21, some Try.f22, some Try.f23, some Try.f24, some Try.f25, some Try.f26, some Try.f27, some Try.f28, some Try.f29, some Try.f30, some Try.f31, some Try.f32, some Try.f33, some Try.f34, some Try.f35, some Try.f36, some Try.f37, some Try.f38, some Try.f39, some Try.f40, some Try.f41, some Try.f42, some Try.f43, some Try.f44, some Try.f45, some Try.f46, some Try.f47, some Try.f48, some Try.f49, some Try.f50, some Try.f51, some Try.f52, some Try.f53, some Try.f54, some Try.f55, some Try.f56, some Try.f57, some Try.f58, some Try.f59, some Try.f60, some Try.f61, some Try.f62, some Try.f63, some Try.f64, some Try.f65, some Try.f66, some Try.f67, some Try.f68, some Try.f69, some Try.f70, some Try.f71, some Try.f72, some Try.f73, some Try.f74, some Try.f75, some Try.f76, some Try.f77, some Try.f78, some Try.f79, some Try.f80, some Try.f81, some Try.f82, some Try.f83, some Try.f84, some Try.f85, some Try.f86, some Try.f87, some Try.f88, some Try.f89, none, none, none, none, none, none, none, none, none, none, none, none, none, none, none, none]
noncomputable def inlL : List Bool := [false, false, false, false, false, false, false, false, false, false, false, false, false, false, false, false, true, true, true, true, false, false, false, false, false, false, false, false, true, false, true, true, false, false, false, false, true, true, false, false, true, false, false, false, false, false, false, false, false, false, false, true, true, true, true, true, true, true, true, false, false, false, false, false, false, false, false, false, false, false, false, true, false, false, true, true, false, false, true, false, true, false, true, false, true, false, true, true, false, false, false, false, false, false, false, false, false, false, false, false, false, false, false, false, false, false]
noncomputable def clL : List (Option (TC × Nat)) := [none, none, none, none, none, none, none, none, none, none, none, none, none, none, none, none, none, none, none, none, none, none, none, some (.i, 8), none, none, none, none, none, none, some (.found, 1000031), none, none, none, none, none, none, none, none, none, none, none, none, none, none, none, none, none, none, none, none, none, none, none, none, none, none, none, none, none, none, none, none, none, none, none, none, none, none, none, none, none, none, none, none, none, none, none, none, none, none, none, none, none, none, none, none, none, none, none, none, none, none, none, none, none, none, none, none, none, none, none, none, none, none, none]
noncomputable def z41 : Seat := ⟨tiL, zL, ecL, eqL, fnL, inlL, clL⟩
theorem z03h : z41.Ok Try.prog where
 ti := by kernel_rfl
 zero := by kernel_rfl
 zs := by kernel_rfl
 ec := by kernel_rfl
 eci := by kernel_rfl
 flds := by kernel_rfl
 eq := by kernel_rfl
 fn := by kernel_rfl
theorem z0s : SeatOk Try.prog z41.inlF z41.prim z41.mk' := z03h.seatOk
end Go.Proofs.Ythgnlojolooonaa
namespace Go.Proofs.Ythgnlojolooonaa
open Go Go.Proofs Clk
theorem ti0 : ti Try.prog 0 = some ⟨1, 0, .other, (.tup [])⟩ := by kernel_rfl
theorem ti1 : ti Try.prog 1 = some ⟨1, 8, .func, .nilFunc⟩ := by kernel_rfl
theorem ti2 : ti Try.prog 2 = some ⟨1, 8, (.int .i64), (.int .i64 0)⟩ := by kernel_rfl
theorem ti3 : ti Try.prog 3 = some ⟨1, 8, (.int .i64), (.int .i64 0)⟩ := by kernel_rfl
theorem ti4 : ti Try.prog 4 = some ⟨1, 1, .bool, (.bool false)⟩ := by kernel_rfl
theorem ti5 : ti Try.prog 5 = some ⟨1, 1, (.int .u8), (.int .u8 0)⟩ := by kernel_rfl
theorem ti6 : ti Try.prog 6 = some ⟨1, 1, (.int .u8), (.int .u8 0)⟩ := by kernel_rfl
theorem ti7 : ti Try.prog 7 = some ⟨4, 24, (.struct [(0, 2), (1, 3), (2, 4), (3, 6)]), (.agg [(.int .i64 0), (.int .i64 0), (.bool false), (.int .u8 0)])⟩ := by kernel_rfl
theorem ti8 : ti Try.prog 8 = some ⟨4, 24, (.struct [(0, 2), (1, 3), (2, 4), (3, 6)]), (.agg [(.int .i64 0), (.int .i64 0), (.bool false), (.int .u8 0)])⟩ := by kernel_rfl
theorem ti9 : ti Try.prog 9 = some ⟨1, 16, .string, (.str ⟨#[]⟩)⟩ := by kernel_rfl
theorem ti10 : ti Try.prog 10 = some ⟨1, 16, .string, (.str ⟨#[]⟩)⟩ := by kernel_rfl
theorem ti11 : ti Try.prog 11 = some ⟨1, 16, .string, (.str ⟨#[]⟩)⟩ := by kernel_rfl
theorem ti12 : ti Try.prog 12 = some ⟨1, 8, (.int .u64), (.int .u64 0)⟩ := by kernel_rfl
theorem ti13 : ti Try.prog 13 = some ⟨2, 24, (.struct [(0, 9), (1, 12)]), (.agg [(.str ⟨#[]⟩), (.int .u64 0)])⟩ := by kernel_rfl
theorem ti14 : ti Try.prog 14 = some ⟨2, 24, (.struct [(0, 9), (1, 12)]), (.agg [(.str ⟨#[]⟩), (.int .u64 0)])⟩ := by kernel_rfl
theorem ti15 : ti Try.prog 15 = some ⟨1, 8, (.pointer 147), .nilPtr⟩ := by kernel_rfl
theorem ti16 : ti Try.prog 16 = some ⟨1, 8, (.pointer 150), .nilPtr⟩ := by kernel_rfl
theorem ti17 : ti Try.prog 17 = some ⟨1, 8, (.pointer 159), .nilPtr⟩ := by kernel_rfl
theorem ti18 : ti Try.prog 18 = some ⟨1, 8, (.struct [(0, 17)]), (.agg [.nilPtr])⟩ := by kernel_rfl
theorem ti19 : ti Try.prog 19 = some ⟨1, 8, (.struct [(0, 17)]), (.agg [.nilPtr])⟩ := by kernel_rfl
theorem ti20 : ti Try.prog 20 = some ⟨1, 16, .iface, .nilIface⟩ := by kernel_rfl
theorem ti21 : ti Try.prog 21 = some ⟨1, 4, (.int .i32), (.int .i32 0)⟩ := by kernel_rfl
theorem ti22 : ti Try.prog 22 = some ⟨1, 24, (.slice 53), (.crows [])⟩ := by kernel_rfl
theorem ti23 : ti Try.prog 23 = some ⟨1, 8, .func, .nilFunc⟩ := by kernel_rfl
theorem ti24 : ti Try.prog 24 = some ⟨1, 24, (.slice 40), (.crows [])⟩ := by kernel_rfl
theorem ti25 : ti Try.prog 25 = some ⟨4, 40, (.struct [(0, 24), (1, 4), (2, 4), (3, 3)]), (.agg [(.crows []), (.bool false), (.bool false), (.int .i64 0)])⟩ := by kernel_rfl
theorem ti26 : ti Try.prog 26 = some ⟨4, 40, (.struct [(0, 24), (1, 4), (2, 4), (3, 3)]), (.agg [(.crows []), (.bool false), (.bool false), (.int .i64 0)])⟩ := by kernel_rfl
theorem ti27 : ti Try.prog 27 = some ⟨1, 8, .func, .nilFunc⟩ := by kernel_rfl
theorem ti28 : ti Try.prog 28 = some ⟨1, 24, (.slice 3), (.crows [])⟩ := by kernel_rfl
theorem ti29 : ti Try.prog 29 = some ⟨2, 48, (.struct [(0, 28), (1, 28)]), (.agg [(.crows []), (.crows [])])⟩ := by kernel_rfl
theorem ti30 : ti Try.prog 30 = some ⟨2, 48, (.struct [(0, 28), (1, 28)]), (.agg [(.crows []), (.crows [])])⟩ := by kernel_rfl
theorem ti31 : ti Try.prog 31 = some ⟨1, 0, .other, .undef⟩ := by kernel_rfl
theorem ti32 : ti Try.prog 32 = some ⟨1, 8, .func, .nilFunc⟩ := by kernel_rfl
theorem ti33 : ti Try.prog 33 = some ⟨4, 64, (.struct [(0, 3), (1, 3), (2, 28), (3, 28)]), (.agg [(.int .i64 0), (.int .i64 0), (.crows []), (.crows [])])⟩ := by kernel_rfl
theorem ti34 : ti Try.prog 34 = some ⟨4, 64, (.struct [(0, 3), (1, 3), (2, 28), (3, 28)]), (.agg [(.int .i64 0), (.int .i64 0), (.crows []), (.crows [])])⟩ := by kernel_rfl
theorem ti35 : ti Try.prog 35 = some ⟨1, 8, (.int .i64), (.int .i64 0)⟩ := by kernel_rfl
theorem ti36 : ti Try.prog 36 = some ⟨1, 0, .other, .undef⟩ := by kernel_rfl
theorem ti37 : ti Try.prog 37 = some ⟨1, 8, .func, .nilFunc⟩ := by kernel_rfl
theorem ti38 : ti Try.prog 38 = some ⟨1, 24, (.slice 42), (.crows [])⟩ := by kernel_rfl
theorem ti39 : ti Try.prog 39 = some ⟨4, 48, (.struct [(0, 38), (1, 3), (2, 3), (3, 4)]), (.agg [(.crows []), (.int .i64 0), (.int .i64 0), (.bool false)])⟩ := by kernel_rfl
theorem ti40 : ti Try.prog 40 = some ⟨4, 48, (.struct [(0, 38), (1, 3), (2, 3), (3, 4)]), (.agg [(.crows []), (.int .i64 0), (.int .i64 0), (.bool false)])⟩ := by kernel_rfl
theorem ti41 : ti Try.prog 41 = some ⟨3, 40, (.struct [(0, 4), (1, 9), (2, 9)]), (.agg [(.bool false), (.str ⟨#[]⟩), (.str ⟨#[]⟩)])⟩ := by kernel_rfl
theorem ti42 : ti Try.prog 42 = some ⟨3, 40, (.struct [(0, 4), (1, 9), (2, 9)]), (.agg [(.bool false), (.str ⟨#[]⟩), (.str ⟨#[]⟩)])⟩ := by kernel_rfl
theorem ti43 : ti Try.prog 43 = some ⟨1, 8, .func, .nilFunc⟩ := by kernel_rfl
theorem ti44 : ti Try.prog 44 = some ⟨4, 48, (.struct [(0, 3), (1, 9), (2, 9), (3, 3)]), (.agg [(.int .i64 0), (.str ⟨#[]⟩), (.str ⟨#[]⟩), (.int .i64 0)])⟩ := by kernel_rfl
theorem ti45 : ti Try.prog 45 = some ⟨4, 48, (.struct [(0, 3), (1, 9), (2, 9), (3, 3)]), (.agg [(.int .i64 0), (.str ⟨#[]⟩), (.str ⟨#[]⟩), (.int .i64 0)])⟩ := by kernel_rfl
theorem ti46 : ti Try.prog 46 = some ⟨1, 8, .func, .nilFunc⟩ := by kernel_rfl
theorem ti47 : ti Try.prog 47 = some ⟨1, 8, .func, .nilFunc⟩ := by kernel_rfl
theorem ti48 : ti Try.prog 48 = some ⟨1, 8, .func, .nilFunc⟩ := by kernel_rfl
theorem ti49 : ti Try.prog 49 = some ⟨5, 72, (.struct [(0, 3), (1, 34)]), (.agg [(.int .i64 0), (.int .i64 0), (.int .i64 0), (.crows []), (.crows [])])⟩ := by kernel_rfl
theorem ti50 : ti Try.prog 50 = some ⟨5, 72, (.struct [(0, 3), (1, 34)]), (.agg [(.int .i64 0), (.int .i64 0), (.int .i64 0), (.crows []), (.crows [])])⟩ := by kernel_rfl
theorem ti51 : ti Try.prog 51 = some ⟨1, 8, .func, .nilFunc⟩ := by kernel_rfl
theorem ti52 : ti Try.prog 52 = some ⟨1, 8, .func, .nilFunc⟩ := by kernel_rfl
theorem ti53 : ti Try.prog 53 = some ⟨1, 2, (.int .u16), (.int .u16 0)⟩ := by kernel_rfl
theorem ti54 : ti Try.prog 54 = some ⟨1, 8, .func, .nilFunc⟩ := by kernel_rfl
theorem ti55 : ti Try.prog 55 = some ⟨1, 8, .func, .nilFunc⟩ := by kernel_rfl
theorem ti56 : ti Try.prog 56 = some ⟨1, 24, (.slice 50), (.crows [])⟩ := by kernel_rfl
theorem ti57 : ti Try.prog 57 = some ⟨1, 8, .func, .nilFunc⟩ := by kernel_rfl
theorem ti58 : ti Try.prog 58 = some ⟨1, 8, .func, .nilFunc⟩ := by kernel_rfl
theorem ti59 : ti Try.prog 59 = some ⟨1, 8, .func, .nilFunc⟩ := by kernel_rfl
theorem ti60 : ti Try.prog 60 = some ⟨1, 8, .func, .nilFunc⟩ := by kernel_rfl
theorem ti61 : ti Try.prog 61 = some ⟨1, 8, .func, .nilFunc⟩ := by kernel_rfl
theorem ti62 : ti Try.prog 62 = some ⟨1, 8, .func, .nilFunc⟩ := by kernel_rfl
theorem ti63 : ti Try.prog 63 = some ⟨1, 8, .func, .nilFunc⟩ := by kernel_rfl
theorem ti64 : ti Try.prog 64 = some ⟨1, 0, .other, .undef⟩ := by kernel_rfl
theorem ti65 : ti Try.prog 65 = some ⟨1, 8, .func, .nilFunc⟩ := by kernel_rfl
theorem ti66 : ti Try.prog 66 = some ⟨5, 80, (.struct [(0, 9), (1, 34)]), (.agg [(.str ⟨#[]⟩), (.int .i64 0), (.int .i64 0), (.crows []), (.crows [])])⟩ := by kernel_rfl
theorem ti67 : ti Try.prog 67 = some ⟨5, 80, (.struct [(0, 9), (1, 34)]), (.agg [(.str ⟨#[]⟩), (.int .i64 0), (.int .i64 0), (.crows []), (.crows [])])⟩ := by kernel_rfl
theorem ti68 : ti Try.prog 68 = some ⟨1, 8, .func, .nilFunc⟩ := by kernel_rfl
theorem ti69 : ti Try.prog 69 = some ⟨1, 0, .other, .undef⟩ := by kernel_rfl
theorem ti70 : ti Try.prog 70 = some ⟨1, 8, .func, .nilFunc⟩ := by kernel_rfl
theorem ti71 : ti Try.prog 71 = some ⟨1, 8, .func, .nilFunc⟩ := by kernel_rfl
theorem ti72 : ti Try.prog 72 = some ⟨1, 8, .func, .nilFunc⟩ := by kernel_rfl
theorem ti73 : ti Try.prog 73 = some ⟨1, 8, .func, .nilFunc⟩ := by kernel_rfl
theorem ti74 : ti Try.prog 74 = some ⟨1, 8, (.pointer 40), .nilPtr⟩ := by kernel_rfl
theorem ti75 : ti Try.prog 75 = some ⟨1, 8, .func, .nilFunc⟩ := by kernel_rfl
theorem ti76 : ti Try.prog 76 = some ⟨1, 8, .func, .nilFunc⟩ := by kernel_rfl
theorem ti77 : ti Try.prog 77 = some ⟨1, 8, .func, .nilFunc⟩ := by kernel_rfl
theorem ti78 : ti Try.prog 78 = some ⟨1, 0, .other, .undef⟩ := by kernel_rfl
theorem ti79 : ti Try.prog 79 = some ⟨1, 8, .func, .nilFunc⟩ := by kernel_rfl
theorem ti80 : ti Try.prog 80 = some ⟨1, 8, .func, .nilFunc⟩ := by kernel_rfl
theorem ti81 : ti Try.prog 81 = some ⟨1, 8, .func, .nilFunc⟩ := by kernel_rfl
theorem ti82 : ti Try.prog 82 = some ⟨1, 8, .func, .nilFunc⟩ := by kernel_rfl
theorem ti83 : ti Try.prog 83 = some ⟨1, 8, .func, .nilFunc⟩ := by kernel_rfl
theorem ti84 : ti Try.prog 84 = some ⟨1, 0, .other, .undef⟩ := by kernel_rfl
theorem ti85 : ti Try.prog 85 = some ⟨1, 8, .func, .nilFunc⟩ := by kernel_rfl
theorem ti86 : ti Try.prog 86 = some ⟨1, 8, (.int .u64), (.int .u64 0)⟩ := by kernel_rfl
theorem ti87 : ti Try.prog 87 = some ⟨1, 0, .other, .undef⟩ := by kernel_rfl
theorem ti88 : ti Try.prog 88 = some ⟨1, 8, .func, .nilFunc⟩ := by kernel_rfl
theorem ti89 : ti Try.prog 89 = some ⟨1, 8, .func, .nilFunc⟩ := by kernel_rfl
theorem ti90 : ti Try.prog 90 = some ⟨1, 8, .func, .nilFunc⟩ := by kernel_rfl
theorem ti91 : ti Try.prog 91 = some ⟨1, 0, .other, .undef⟩ := by kernel_rfl
theorem ti92 : ti Try.prog 92 = some ⟨1, 8, .func, .nilFunc⟩ := by kernel_rfl
theorem ti93 : ti Try.prog 93 = some ⟨1, 8, .func, .nilFunc⟩ := by kernel_rfl
theorem ti94 : ti Try.prog 94 = some ⟨1, 8, .func, .nilFunc⟩ := by kernel_rfl
theorem ti95 : ti Try.prog 95 = some ⟨1, 8, .func, .nilFunc⟩ := by kernel_rfl
theorem ti96 : ti Try.prog 96 = some ⟨1, 8, .func, .nilFunc⟩ := by kernel_rfl
theorem ti97 : ti Try.prog 97 = some ⟨1, 8, .func, .nilFunc⟩ := by kernel_rfl
theorem ti98 : ti Try.prog 98 = some ⟨1, 8, .func, .nilFunc⟩ := by kernel_rfl
theorem ti99 : ti Try.prog 99 = some ⟨1, 8, .func, .nilFunc⟩ := by kernel_rfl
theorem ti100 : ti Try.prog 100 = some ⟨1, 4, (.int .u32), (.int .u32 0)⟩ := by kernel_rfl
theorem ti101 : ti Try.prog 101 = some ⟨1, 0, .other, .undef⟩ := by kernel_rfl
theorem ti102 : ti Try.prog 102 = some ⟨1, 8, .func, .nilFunc⟩ := by kernel_rfl
theorem ti103 : ti Try.prog 103 = some ⟨1, 8, (.int .u64), (.int .u64 0)⟩ := by kernel_rfl
theorem ti104 : ti Try.prog 104 = some ⟨1, 0, .other, .undef⟩ := by kernel_rfl
theorem ti105 : ti Try.prog 105 = some ⟨1, 8, .func, .nilFunc⟩ := by kernel_rfl
theorem ti106 : ti Try.prog 106 = some ⟨1, 8, .func, .nilFunc⟩ := by kernel_rfl
theorem ti107 : ti Try.prog 107 = some ⟨1, 8, .func, .nilFunc⟩ := by kernel_rfl
theorem ti108 : ti Try.prog 108 = some ⟨1, 8, (.int .i64), (.int .i64 0)⟩ := by kernel_rfl
theorem ti109 : ti Try.prog 109 = some ⟨1, 0, .other, .undef⟩ := by kernel_rfl
theorem ti110 : ti Try.prog 110 = some ⟨1, 8, .func, .nilFunc⟩ := by kernel_rfl
theorem ti111 : ti Try.prog 111 = some ⟨1, 8, .func, .nilFunc⟩ := by kernel_rfl
theorem ti112 : ti Try.prog 112 = some ⟨1, 8, .func, .nilFunc⟩ := by kernel_rfl
theorem ti113 : ti Try.prog 113 = some ⟨1, 8, .func, .nilFunc⟩ := by kernel_rfl
theorem ti114 : ti Try.prog 114 = some ⟨1, 8, .func, .nilFunc⟩ := by kernel_rfl
theorem ti115 : ti Try.prog 115 = some ⟨1, 8, .func, .nilFunc⟩ := by kernel_rfl
theorem ti116 : ti Try.prog 116 = some ⟨1, 8, .func, .nilFunc⟩ := by kernel_rfl
theorem ti117 : ti Try.prog 117 = some ⟨1, 8, .func, .nilFunc⟩ := by kernel_rfl
theorem ti118 : ti Try.prog 118 = some ⟨1, 24, (.slice 5), (.crows [])⟩ := by kernel_rfl
theorem ti119 : ti Try.prog 119 = some ⟨1, 8, .func, .nilFunc⟩ := by kernel_rfl
theorem ti120 : ti Try.prog 120 = some ⟨1, 8, (.pointer 34), .nilPtr⟩ := by kernel_rfl
theorem ti121 : ti Try.prog 121 = some ⟨1, 8, (.pointer 35), .nilPtr⟩ := by kernel_rfl
theorem ti122 : ti Try.prog 122 = some ⟨1, 8, (.pointer 124), .nilPtr⟩ := by kernel_rfl
theorem ti123 : ti Try.prog 123 = some ⟨1, 16, (.struct [(0, 9)]), (.agg [(.str ⟨#[]⟩)])⟩ := by kernel_rfl
theorem ti124 : ti Try.prog 124 = some ⟨1, 16, (.struct [(0, 9)]), (.agg [(.str ⟨#[]⟩)])⟩ := by kernel_rfl
theorem ti125 : ti Try.prog 125 = some ⟨1, 8, .func, .nilFunc⟩ := by kernel_rfl
theorem ti126 : ti Try.prog 126 = some ⟨3, 72, (.array 3 28), (.agg [(.crows []), (.crows []), (.crows [])])⟩ := by kernel_rfl
theorem ti127 : ti Try.prog 127 = some ⟨1, 8, (.int .u64), (.int .u64 0)⟩ := by kernel_rfl
theorem ti128 : ti Try.prog 128 = some ⟨1, 8, .func, .nilFunc⟩ := by kernel_rfl
theorem ti129 : ti Try.prog 129 = some ⟨1, 8, .func, .nilFunc⟩ := by kernel_rfl
theorem ti130 : ti Try.prog 130 = some ⟨1, 8, .func, .nilFunc⟩ := by kernel_rfl
theorem ti131 : ti Try.prog 131 = some ⟨1, 8, (.pointer 3), .nilPtr⟩ := by kernel_rfl
theorem ti132 : ti Try.prog 132 = some ⟨1, 8, .func, .nilFunc⟩ := by kernel_rfl
theorem ti133 : ti Try.prog 133 = some ⟨1, 0, .other, .undef⟩ := by kernel_rfl
theorem ti134 : ti Try.prog 134 = some ⟨1, 8, .func, .nilFunc⟩ := by kernel_rfl
theorem ti135 : ti Try.prog 135 = some ⟨1, 8, .func, .nilFunc⟩ := by kernel_rfl
theorem ti136 : ti Try.prog 136 = some ⟨4, 4, (.array 4 5), (.agg [(.int .u8 0), (.int .u8 0), (.int .u8 0), (.int .u8 0)])⟩ := by kernel_rfl
theorem ti137 : ti Try.prog 137 = some ⟨1, 8, (.pointer 127), .nilPtr⟩ := by kernel_rfl
theorem ti138 : ti Try.prog 138 = some ⟨1, 0, .other, .undef⟩ := by kernel_rfl
theorem ti139 : ti Try.prog 139 = some ⟨1, 8, .func, .nilFunc⟩ := by kernel_rfl
theorem ti140 : ti Try.prog 140 = some ⟨1, 0, .other, .undef⟩ := by kernel_rfl
theorem ti141 : ti Try.prog 141 = some ⟨1, 8, .func, .nilFunc⟩ := by kernel_rfl
theorem ti142 : ti Try.prog 142 = some ⟨1, 8, .func, .nilFunc⟩ := by kernel_rfl
theorem ti143 : ti Try.prog 143 = some ⟨1, 8, .func, .nilFunc⟩ := by kernel_rfl
theorem ti144 : ti Try.prog 144 = some ⟨1, 8, .func, .nilFunc⟩ := by kernel_rfl
theorem ti145 : ti Try.prog 145 = some ⟨1, 8, .func, .nilFunc⟩ := by kernel_rfl
theorem ti146 : ti Try.prog 146 = some ⟨4, 40, (.struct [(0, 17), (1, 17), (2, 17), (3, 9)]), (.agg [.nilPtr, .nilPtr, .nilPtr, (.str ⟨#[]⟩)])⟩ := by kernel_rfl
theorem ti147 : ti Try.prog 147 = some ⟨4, 40, (.struct [(0, 17), (1, 17), (2, 17), (3, 9)]), (.agg [.nilPtr, .nilPtr, .nilPtr, (.str ⟨#[]⟩)])⟩ := by kernel_rfl
theorem ti148 : ti Try.prog 148 = some ⟨0, 0, (.array 0 16), (.agg [])⟩ := by kernel_rfl
theorem ti149 : ti Try.prog 149 = some ⟨0, 0, (.struct [(0, 148)]), (.agg [])⟩ := by kernel_rfl
theorem ti150 : ti Try.prog 150 = some ⟨0, 0, (.struct [(0, 148)]), (.agg [])⟩ := by kernel_rfl
theorem ti151 : ti Try.prog 151 = some ⟨1, 8, .func, .nilFunc⟩ := by kernel_rfl
theorem ti152 : ti Try.prog 152 = some ⟨1, 1, (.int .u8), (.int .u8 0)⟩ := by kernel_rfl
theorem ti153 : ti Try.prog 153 = some ⟨1, 1, (.int .u8), (.int .u8 0)⟩ := by kernel_rfl
theorem ti154 : ti Try.prog 154 = some ⟨1, 8, .func, .nilFunc⟩ := by kernel_rfl
theorem ti155 : ti Try.prog 155 = some ⟨1, 8, (.pointer 5), .nilPtr⟩ := by kernel_rfl
theorem ti156 : ti Try.prog 156 = some ⟨1, 4, (.int .i32), (.int .i32 0)⟩ := by kernel_rfl
theorem ti157 : ti Try.prog 157 = some ⟨1, 4, (.int .i32), (.int .i32 0)⟩ := by kernel_rfl
theorem ti158 : ti Try.prog 158 = some ⟨11, 48, (.struct [(0, 12), (1, 12), (2, 100), (3, 152), (4, 5), (5, 5), (6, 153), (7, 154), (8, 155), (9, 156), (10, 157)]), (.agg [(.int .u64 0), (.int .u64 0), (.int .u32 0), (.int .u8 0), (.int .u8 0), (.int .u8 0), (.int .u8 0), .nilFunc, .nilPtr, (.int .i32 0), (.int .i32 0)])⟩ := by kernel_rfl
theorem ti159 : ti Try.prog 159 = some ⟨11, 48, (.struct [(0, 12), (1, 12), (2, 100), (3, 152), (4, 5), (5, 5), (6, 153), (7, 154), (8, 155), (9, 156), (10, 157)]), (.agg [(.int .u64 0), (.int .u64 0), (.int .u32 0), (.int .u8 0), (.int .u8 0), (.int .u8 0), (.int .u8 0), .nilFunc, .nilPtr, (.int .i32 0), (.int .i32 0)])⟩ := by kernel_rfl
theorem ti160 : ti Try.prog 160 = some ⟨1, 8, .other, .nilPtr⟩ := by kernel_rfl
attribute [go_sem] ti0 ti1 ti2 ti3 ti4 ti5 ti6 ti7 ti8 ti9 ti10 ti11 ti12 ti13 ti14 ti15 ti16 ti17 ti18 ti19 ti20 ti21 ti22 ti23 ti24 ti25 ti26 ti27 ti28 ti29 ti30 ti31 ti32 ti33 ti34 ti35 ti36 ti37 ti38 ti39 ti40 ti41 ti42 ti43 ti44 ti45 ti46 ti47 ti48 ti49 ti50 ti51 ti52 ti53 ti54 ti55 ti56 ti57 ti58 ti59 ti60 ti61 ti62 ti63 ti64 ti65 ti66 ti67 ti68 ti69 ti70 ti71 ti72 ti73 ti74 ti75 ti76 ti77 ti78 ti79 ti80 ti81 ti82 ti83 ti84 ti85 ti86 ti87 ti88 ti89 ti90 ti91 ti92 ti93 ti94 ti95 ti96 ti97 ti98 ti99 ti100 ti101 ti102 ti103 ti104 ti105 ti106 ti107 ti108 ti109 ti110 ti111 ti112 ti113 ti114 ti115 ti116 ti117 ti118 ti119 ti120 ti121 ti122 ti123 ti124 ti125 ti126 ti127 ti128 ti129 ti130 ti131 ti132 ti133 ti134 ti135 ti136 ti137 ti138 ti139 ti140 ti141 ti142 ti143 ti144 ti145 ti146 ti147 ti148 ti149 ti150 ti151 ti152 ti153 ti154 ti155 ti156 ti157 ti158 ti159 ti160
end Go.Proofs.Ythgnlojolooonaa
namespace Clk
open Go Go.Proofs Go.Shelf Go.Sort Go.RowKit Go.Lib
def cmpI (x y : Int) : Int := if x < y then -1 else if y < x then 1 else 0
def orI (x y : Int) : Int := if x = 0 then y else x
def cfK {α : Type} (key : α -> Int × Int) (x y : α) : Int := orI (cmpI (key x).1 (key y).1) (cmpI (key x).2 (key y).2)
theorem zye {α : Type} (key : α -> Int × Int) (x y : α) : ltOf (cfK key) x y = true ↔ ((key x).1 < (key y).1 \/ ((key x).1 = (key y).1 /\ (key x).2 < (key y).2)) := by
 unfold ltOf cfK orI cmpI; rw [decide_eq_true_iff]; repeat' split
 all_goals (constructor <;> intro h <;> omega)
theorem zmu {α : Type} (key : α -> Int × Int) (x y : α) : ltOf (cfK key) x y = false ↔ ¬ ((key x).1 < (key y).1 \/ ((key x).1 = (key y).1 /\ (key x).2 < (key y).2)) := by
 rw [<- zye]; simp
theorem zyf {α : Type} (key : α -> Int × Int) : SWO (ltOf (cfK key)) where
 irrefl x := by rw [zmu]; omega
 trans x y z h1 h2 := by rw [zye] at *; omega
 ntrans x y z h1 h2 := by rw [zmu] at *; omega
theorem z01x {α : Type} (key : α -> Int × Int) (hd : ∀ x y, key x = key y -> x = y) (x y : α) (h1 : ltOf (cfK key) x y = false) (h2 : ltOf (cfK key) y x = false) : x = y := by
 rw [zmu] at *; exact hd x y (Prod.ext (by omega) (by omega))
theorem z00q {α : Type} (key : α -> Int × Int) (x y : α) : ltOf (cfK key) x y = aheadK (some (key x)) (some (key y)) := by
 rw [Bool.eq_iff_iff, zye]; simp [aheadK]
def insL {α : Type} (lt : α -> α -> Bool) : List α -> α -> List α
 | [], r => [r]
 | x :: l, r => if lt r x then r :: x :: l else x :: insL lt l r
theorem zj3 {α : Type} (lt : α -> α -> Bool) : ∀ (l : List α) (r : α), (insL lt l r).Perm (r :: l)
 | [], r => List.Perm.refl _
 | x :: l, r => by
   rw [insL]; split
   · exact List.Perm.refl _
   · exact ((zj3 lt l r).cons x).trans (List.Perm.swap r x l)
theorem zj4 {α : Type} {lt : α -> α -> Bool} (hS : SWO lt) : ∀ (l : List α) (r : α), l.Pairwise (fun x y => lt y x = false) -> (insL lt l r).Pairwise (fun x y => lt y x = false)
 | [], r, _ => by simp [insL]
 | x :: l, r, h => by
   rw [List.pairwise_cons] at h; rw [insL]; split
   · rename_i hlt; refine List.pairwise_cons.2 ⟨fun y hy => ?_, List.pairwise_cons.2 h⟩; rcases List.mem_cons.1 hy with rfl | hy
     · cases hc : lt y r with
       | false => rfl
       | true => have := hS.trans _ _ _ hc hlt; rw [hS.irrefl] at this; cases this
     · cases hc : lt y r with
       | false => rfl
       | true => have := hS.trans _ _ _ hc hlt; rw [h.1 y hy] at this; cases this
   · rename_i hlt; refine List.pairwise_cons.2 ⟨fun y hy => ?_, zj4 hS l r h.2⟩; rcases List.mem_cons.1 ((zj3 lt l r).mem_iff.1 hy) with rfl | hy
     · simpa using hlt
     · exact h.1 y hy
theorem zfr {α : Type} {lt : α -> α -> Bool} (hS : SWO lt) : ∀ (l acc : List α), acc.Pairwise (fun x y => lt y x = false) -> (l.foldl (insL lt) acc).Pairwise (fun x y => lt y x = false) /\ (l.foldl (insL lt) acc).Perm (l ++ acc)
 | [], acc, h => ⟨h, List.Perm.refl _⟩
 | x :: l, acc, h => by
   obtain ⟨h1, h2⟩ := zfr hS l (insL lt acc x) (zj4 hS acc x h); refine ⟨h1, h2.trans ?_⟩; exact ((zj3 lt acc x).append_left l).trans List.perm_middle
theorem z03i {α : Type} [Inhabited α] {lt : α -> α -> Bool} (hS : SWO lt) (hT : ∀ x y, lt x y = false -> lt y x = false -> x = y) (d : Array α) : d.toList.mergeSort (fun x y => !lt y x) = d.toList.foldl (insL lt) [] := by
 obtain ⟨h1, h2⟩ := zfr hS d.toList [] .nil; rw [List.append_nil] at h2; refine List.Perm.eq_of_pairwise (le := fun x y => (!lt y x) = true) ?_ ?_ ?_ ((List.mergeSort_perm _ _).trans h2.symm)
 · intro a b _ _ h3 h4; exact hT a b (by simpa using h4) (by simpa using h3)
 · refine List.pairwise_mergeSort ?_ ?_ _
   · intro a b c h3 h4; simp only [Bool.not_eq_true'] at *; exact hS.ntrans _ _ _ h4 h3
   · intro a b; cases hc : lt b a with
     | false => simp
     | true =>
       cases hc2 : lt a b with
       | false => simp
       | true => have := hS.trans _ _ _ hc hc2; rw [hS.irrefl] at this; cases this
 · exact h1.imp fun h => by simp [h]
end Clk
namespace Clk
open Go Go.Proofs Go.Shelf Go.Sort Go.RowKit Go.Lib
theorem z03j {w : World} {N : Nat -> Prop} {β : z0q} {f : FuncId} {u : Value} (h : Rel w N β (.fn f [] []) u) : u = .func (.func f) #[] #[] := by
 cases h with
 | imm h => cases h with | fn h _ h' _ => simp at h h'; subst h; subst h'; rfl
 | fn h _ h' _ => simp at h h'; subst h; subst h'; rfl
theorem zvp {row : List AV} (h : (rowKey row).isSome = true) : ∃ p k s a b, row = [.int .i64 p, .int .i64 k, .int .i64 s, a, b] /\ rowKey row = some (s, p) := by
 unfold rowKey at h; split at h
 · exact ⟨_, _, _, _, _, rfl, rfl⟩
 · cases h
theorem zpc : ∀ {l : List (List AV)}, distA l = true -> (∀ (i : Nat) row, l[i]? = some row -> (rowKey row).isSome = true /\ row.all AV.leaf = true) /\ ∀ (i j : Nat) r s, l[i]? = some r -> l[j]? = some s -> rowKey r = rowKey s -> i = j
 | [], _ => ⟨fun i row h => by simp at h, fun i j r s h => by simp at h⟩
 | x :: l, h => by
   simp only [distA, Bool.and_eq_true] at h; obtain ⟨h1, h2⟩ := zpc h.2; have hne : ∀ y ∈ l, rowKey x ≠ rowKey y := fun y hy e => by
    have := List.all_eq_true.1 h.1.2 y hy; simp [e] at this
   refine ⟨fun i row hi => ?_, fun i j r s hi hj e => ?_⟩
   · cases i with
     | zero => simp at hi; subst hi; exact h.1.1
     | succ i => exact h1 i row (by simpa using hi)
   · cases i with
     | zero =>
       cases j with
       | zero => rfl
       | succ j =>
         simp at hi hj; subst hi; exact absurd e (hne s (List.mem_of_getElem? hj))
     | succ i =>
       cases j with
       | zero =>
         simp at hi hj; subst hj; exact absurd e.symm (hne r (List.mem_of_getElem? hi))
       | succ j =>
         rw [h2 i j r s (by simpa using hi) (by simpa using hj) e]
theorem zkb (w : World) (blk : Nat) (f : Array Value -> Array Value) : (mapBlock w blk f).heap.size = w.heap.size := by simp [mapBlock]
theorem zrw {w : World} {blk : Nat} {f : Array Value -> Array Value} {c : Array Value} {e : TypeId} {fr : Nat × Nat} (h : w.heap[blk]? = some (.cells c e fr)) : (mapBlock w blk f).heap[blk]? = some (.cells (f c) e fr) := by
 show (w.heap.modify blk (onCells f))[blk]? = _; rw [Array.getElem?_modify, if_pos rfl, h]; rfl
theorem zrx {w : World} {blk r : Nat} {f : Array Value -> Array Value} (h : r ≠ blk) : (mapBlock w blk f).heap[r]? = w.heap[r]? := by
 show (w.heap.modify blk (onCells f))[r]? = _; rw [Array.getElem?_modify, if_neg fun e => h e.symm]
structure SortAt (P : Program) (f g : Nat) : Prop where
 none : ∀ (p : Option Addr) (cap : Nat) (fv : Value) (w : World), Calls P f #[.slice p 0 cap, fv] w fun e w' => e = .returned (.tuple #[]) /\ w' = w
 sort : ∀ (m : Nat) (enc : Fin (m + 1) -> List Value), (∀ x, (enc x).length = 5) -> (∀ x, ∀ v ∈ enc x, v.oneCell' = true) -> ∀ (cf : Fin (m + 1) -> Fin (m + 1) -> Int), SWO (ltOf cf) -> ∀ (blk off cap : Nat) (d : Array (Fin (m + 1))) (w : World),
  CmpLays P g #[] enc 5 cf blk off d.size w -> HoldsK enc 5 w blk off d -> blk < w.heap.size -> d.size < 4611686018427387904 -> (∀ x y, (ltOf cf) x y = false -> (ltOf cf) y x = false -> x = y) ->
  Calls P f #[.slice (some ⟨blk, off, .none⟩) d.size cap, .func (.func g) #[] #[]] w fun e w' => e = .returned (.tuple #[]) /\ ∃ n os, w' = sortWorldK enc 5 w blk off n (d.toList.mergeSort fun x y => !(ltOf cf) y x).toArray os
 cmp : ∀ (p k s : Int) (u v : Value) (p' k' s' : Int) (u' v' : Value), u.oneCell' = true -> v.oneCell' = true -> u'.oneCell' = true -> v'.oneCell' = true -> ∀ W : World,
  Calls P g #[.agg #[.int .i64 p, .int .i64 k, .int .i64 s, u, v], .agg #[.int .i64 p', .int .i64 k', .int .i64 s', u', v']] W fun e w' => e = .returned (.int .i64 (orI (cmpI s s') (cmpI p p'))) /\ ∃ q os', w' = grow (W.drewN q) os'
theorem zyg {P : Program} {f g : Nat} (S : SortAt P f g) : ∀ args H v ch, sortA g H.length args H = some (v, ch) -> ∀ (w : World) (X : Nat -> Prop) (β : z0q) (vs : Array Value), HRel w X β H -> ARel w (NN X β H) β args vs -> CallsIn (WF none) 0 P f vs w (Ends w X β H v (ze H ch)) := by
 intro args H v ch h w X β vs hr ha; have stay : ∀ (p : Option Addr) (cap : Nat) (fv : Value), CallsIn (WF none) 0 P f #[.slice p 0 cap, fv] w (Ends w X β H (.tup []) H) := fun p cap fv =>
  callsIn_wide.2 ((S.none p cap fv w).mono fun e w' ⟨h1, h2⟩ => by
   subst h2; exact ⟨.tuple #[], β, h1, Post.refl hr, .imm (.tup rfl fun i a v h => by simp at h)⟩)
 unfold sortA at h; split at h
 · rename_i x f'; split at h
   · rename_i hf; subst hf; obtain ⟨hs, hc⟩ := ha; obtain ⟨u0, u1, rfl⟩ : ∃ u0 u1, vs = #[u0, u1] := by
      obtain ⟨l⟩ := vs; match l, hs with
      | [a, b], _ => exact ⟨a, b, rfl⟩
     have r0 := hc 0 x u0 rfl rfl; have r1 := z03j (hc 1 _ u1 rfl rfl); subst r1; split at h
     · cases h; cases r0 with | imm r0 => cases r0 with
        | crows hk ha' hu hr' => exact stay _ _ _
     · rename_i b vv n; split at h
       · rename_i k v' rows hH; split at h
         · rename_i hcond; obtain ⟨rfl, rfl, rfl, hdist, hlen⟩ := hcond; cases h; cases r0 with
           | imm r0 => cases r0
           | @ref _ _ _ _ c bi a hb hv hc' hcur =>
             have hbl : b < H.length := by
              rcases Nat.lt_or_ge b H.length with h | h
              · exact h
              · rw [zI, List.getElem?_eq_none h] at hH; cases hH
             have hob := hr.obj b bi hb; rw [hH] at hob; obtain ⟨hbk, hbv, _, _, cs, T, hcs, hfit, hrow, hcell⟩ := hob; cases hn : rows.length with
             | zero =>
               have hnil : rows = [] := List.eq_nil_of_length_eq_zero hn; subst hnil; have : ze H (some (b, .blk 5 vv true (List.foldl insA [] []))) = H := by
                show (if b < H.length then H.set b _ else _) = H; rw [if_pos hbl]; exact zsz hH
               rw [this]; exact stay _ _ _
             | succ m =>
               obtain ⟨ha0, _⟩ := hcur hbv.symm; have ha1 := ha0 (by omega); rw [Nat.zero_mul] at ha1; subst ha1; obtain ⟨d1, d2⟩ := zpc hdist; let row := fun i : Fin (m + 1) => rows.getD i.val []
               have hrowi : ∀ i : Fin (m + 1), rows[i.val]? = some (row i) := fun i => by
                have : i.val < rows.length := by rw [hn]; exact i.isLt
                simp only [row, zI, zH this]; rfl
               let enc := fun i : Fin (m + 1) => (List.range 5).map fun j => cs[i.val * 5 + j]!
               let key := fun i : Fin (m + 1) => (rowKey (row i)).getD (0, 0)
               have hin : ∀ (i : Fin (m + 1)) j, j < 5 -> cs[i.val * 5 + j]? = some cs[i.val * 5 + j]! := fun i j hj => by
                have hlt : i.val * 5 + j < cs.size := by have := i.isLt; rw [hn] at hfit; omega
                rw [Array.getElem?_eq_getElem hlt, getElem!_pos cs _ hlt]
               have hkey : ∀ i : Fin (m + 1), rowKey (row i) = some (key i) := fun i => by
                have := (d1 i.val (row i) (hrowi i)).1; obtain ⟨x, hx⟩ := Option.isSome_iff_exists.1 this; simp only [key, hx]; rfl
               have hinv : ∀ i : Fin (m + 1), ∃ k a b, row i = [.int .i64 (key i).2, .int .i64 k, .int .i64 (key i).1, a, b] := fun i => by
                obtain ⟨p, k, s, a, b, e1, e2⟩ := zvp (d1 i.val (row i) (hrowi i)).1; rw [hkey i] at e2; injection e2 with e2
                exact ⟨k, a, b, by rw [e1, e2]⟩
               have hrel : ∀ (i : Fin (m + 1)) j x, (row i)[j]? = some x -> Rel w (NN X β H) β x cs[i.val * 5 + j]! := fun i j x hx => by
                have hj : j < 5 := by have := (zG.1 hx).1; rw [hrow _ _ (hrowi i)] at this; exact this
                exact hcell i.val (row i) j x _ (hrowi i) hx (hin i j hj)
               have hone : ∀ (i : Fin (m + 1)) j, j < 5 -> (cs[i.val * 5 + j]!).oneCell' = true := fun i j hj => by
                have hl := hrow _ _ (hrowi i); have hx := zH (show j < (row i).length by rw [hl]; exact hj); exact (z60 (hrel i j _ hx) (List.all_eq_true.1 (d1 i.val (row i) (hrowi i)).2 _ (List.getElem_mem _))).1
               have henc : ∀ i : Fin (m + 1), ∃ k, enc i = [.int .i64 (key i).2, .int .i64 k, .int .i64 (key i).1, cs[i.val * 5 + 3]!, cs[i.val * 5 + 4]!] := fun i => by
                obtain ⟨k, a, b, e⟩ := hinv i; refine ⟨k, ?_⟩; have e0 := z0l (hrel i 0 _ (by rw [e]; rfl)); have e1 := z0l (hrel i 1 _ (by rw [e]; rfl)); have e2 := z0l (hrel i 2 _ (by rw [e]; rfl)); show [cs[i.val * 5 + 0]!, cs[i.val * 5 + 1]!, cs[i.val * 5 + 2]!, cs[i.val * 5 + 3]!, cs[i.val * 5 + 4]!] = _; rw [e0, e1, e2]
               have hdk : ∀ x y : Fin (m + 1), key x = key y -> x = y := fun x y e => Fin.ext (d2 x.val y.val _ _ (hrowi x) (hrowi y) (by rw [hkey, hkey, e]))
               let d : Array (Fin (m + 1)) := Array.ofFn fun i => i
               have hds : d.size = m + 1 := by simp [d]
               have hblk : bi.r < w.heap.size := (Array.getElem?_eq_some_iff.1 hcs).1; have hH5 : HoldsK enc 5 w bi.r 0 d := by
                intro j hj; have hj' : j < (m + 1) * 5 := by simpa [hds] using hj
                have hjd : j / 5 < m + 1 := by omega
                have hlt : j < cs.size := by rw [hn] at hfit; omega
                have hjm : j % 5 < 5 := Nat.mod_lt _ (by omega); have e5 : (flatK enc 5 d)[j]! = cs[j]! := by
                 rw [get_flatK enc 5 d j (by rw [hds]; exact hj')]; have : d[j / 5]! = (⟨j / 5, hjd⟩ : Fin (m + 1)) := by
                  rw [getElem!_pos d _ (by rw [hds]; exact hjd)]; simp [d]
                 rw [this]; show ((List.range 5).map fun q => cs[j / 5 * 5 + q]!)[j % 5]! = _; rw [getElem!_pos _ _ (by simpa using hjm)]; simp only [List.getElem_map, List.getElem_range]; rw [show j / 5 * 5 + j % 5 = j by omega]
                rw [e5, Nat.zero_add]; refine ⟨?_, ?_⟩
                · unfold World.cell?; rw [hcs]; show cs[j]? = _; rw [Array.getElem?_eq_getElem hlt, getElem!_pos cs _ hlt]; rfl
                · unfold World.frozen?; rw [hcs]; simp
               have hcmp : CmpLays P f' #[] enc 5 (cfK key) bi.r 0 d.size w := fun mm os dk hsz x y => by
                obtain ⟨k, ex⟩ := henc x; obtain ⟨k', ey⟩ := henc y; have := S.cmp (key x).2 k (key x).1 _ _ (key y).2 k' (key y).1 _ _ (hone x 3 (by omega)) (hone x 4 (by omega)) (hone y 3 (by omega)) (hone y 4 (by omega)) (sortWorldK enc 5 w bi.r 0 mm dk os); rw [ex, ey]; exact this
               have call := S.sort m enc (fun x => by simp [enc]) (fun x v hv => by
                obtain ⟨j, hj, rfl⟩ := List.mem_map.1 hv; exact hone x j (List.mem_range.1 hj)) (cfK key) (zyf key) bi.r 0 c d w hcmp hH5 hblk (by rw [hds]; omega) (z01x key hdk)
               rw [hds] at call; refine callsIn_wide.2 (call.mono fun e w' ⟨he, q, os, hw⟩ => ?_); rw [z03i (zyf key) (z01x key hdk)] at hw; generalize hl : d.toList.foldl (insL (ltOf (cfK key))) [] = l at hw; have hlp : l.Perm d.toList := by
                have := (zfr (zyf key) d.toList [] .nil).2; rw [List.append_nil, hl] at this; exact this
               have hll : l.length = m + 1 := by rw [hlp.length_eq]; simp [d]
               have hrows : rows.foldl insA [] = l.map row := by
                have h1 : rows = d.toList.map row := by
                 apply List.ext_getElem?
                 intro i; simp only [d, Array.toList_ofFn, List.getElem?_map, List.getElem?_ofFn]; by_cases hi : i < m + 1
                 · rw [dif_pos hi]; exact hrowi ⟨i, hi⟩
                 · rw [dif_neg hi, List.getElem?_eq_none (by omega)]; rfl
                have h2 : ∀ (a b : List (Fin (m + 1))), (a.map row).foldl insA (b.map row) = (a.foldl (insL (ltOf (cfK key))) b).map row := by
                 intro a; induction a with
                 | nil => intro b; rfl
                 | cons x a ih =>
                   intro b; rw [List.map_cons, List.foldl_cons, List.foldl_cons, <- ih]; congr 1
                   exact (ztf (f := row) (ins := insL (ltOf (cfK key))) (ah := ltOf (cfK key)) (fun _ => rfl) (fun _ _ _ => rfl) (fun a b => by rw [z00q, hkey, hkey]) b x).symm
                rw [<- hl]; have := h2 d.toList []; rw [<- h1] at this; exact this
               have hat : (Sort.ahead w q).heap[bi.r]? = some (.cells cs T (0, 0)) := hcs; let cs' := putCells id 0 (flatK enc 5 l.toArray) cs
               have hget : ∀ (i j : Nat) (x : Fin (m + 1)), l[i]? = some x -> j < 5 -> cs'[i * 5 + j]? = some cs[x.val * 5 + j]! := fun i j x hx hj => by
                have hi : i < m + 1 := by have := (zG.1 hx).1; omega
                have hlt : i * 5 + j < cs.size := by rw [hn] at hfit; omega
                have hlt2 : i * 5 + j < (m + 1) * 5 := by omega
                simp only [cs', putCells, Array.getElem?_mapIdx, Array.getElem?_eq_getElem hlt, Option.map_some, size_flatK, List.size_toArray, hll]; rw [if_pos ⟨Nat.zero_le _, by omega⟩, Nat.sub_zero, get_flatK enc 5 l.toArray _ (by simpa [hll] using hlt2), show (i * 5 + j) / 5 = i by omega, show (i * 5 + j) % 5 = j by omega]; have : l.toArray[i]! = x := by
                 have hil : i < l.toArray.size := by simpa [hll] using hi
                 rw [getElem!_pos l.toArray i hil]; have h9 := (zG.1 hx).2; simpa using h9
                rw [this]; show some (((List.range 5).map fun q => cs[x.val * 5 + q]!)[j]!) = _; rw [getElem!_pos ((List.range 5).map fun q => cs[x.val * 5 + q]!) j (by simpa using hj)]; simp
               have wr := hr.write (w' := putRowK enc 5 (Sort.ahead w q) bi.r 0 l.toArray) (rows' := rows.foldl insA []) (cs' := cs') hb hH rfl rfl rfl (zkb _ _ _) hcs (zrw hat) (fun r hne => zrx hne) (by simp [cs', putCells]) (by rw [hrows]; simp [hll]; rw [hn] at hfit; omega)
                (fun i rw' hi => by
                  rw [hrows, List.getElem?_map, Option.map_eq_some_iff] at hi; obtain ⟨x, hx, rfl⟩ := hi; exact hrow _ _ (hrowi x))
                (fun i rw' j y u hi hj hu => by
                  rw [hrows, List.getElem?_map, Option.map_eq_some_iff] at hi; obtain ⟨x, hx, rfl⟩ := hi; have hj5 : j < 5 := by have := (zG.1 hj).1; rw [hrow _ _ (hrowi x)] at this; exact this
                  rw [hget i j x hx hj5] at hu; cases hu; exact hrel x j y hj)
               obtain ⟨wr1, wr2⟩ := wr; obtain ⟨g1, g2⟩ := wr1.ext (w' := w') (by rw [hw]; show _ <= (_ ++ os).size; rw [Array.size_append]; exact Nat.le_add_right _ _) (fun r hlt => by
                rw [hw]; show ((putRowK enc 5 (Sort.ahead w q) bi.r 0 l.toArray).heap ++ os)[r]? = _; rw [Array.getElem?_append_left hlt]) (by rw [hw]; rfl) (by rw [hw]; rfl) (by rw [hw]; rfl)
               have hap : ze H (some (b, .blk 5 vv true (rows.foldl insA []))) = H.set b (.blk 5 vv true (rows.foldl insA [])) := by
                show (if b < H.length then H.set b _ else _) = _; rw [if_pos hbl]
               rw [hap]; exact ⟨.tuple #[], β, he, ⟨g1, wr2.trans g2, fun _ _ h => h, by simp⟩, .imm (.tup rfl fun i a v h => by simp at h)⟩
         · cases h
       · cases h
     · cases h
   · cases h
 · cases h
end Clk
namespace Go.Proofs
open Go.Shelf
def Try.sortL_ren : Go.Shelf.Ren := ⟨fun | 6 => 30 | 15 => 41 | 14 => 40 | 28 => 59 | 29 => 60 | 20 => 51 | 21 => 52 | 22 => 53 | 23 => 54 | 24 => 55 | 25 => 56 | 26 => 57 | 27 => 58 | 46 => 71 | 47 => 72 | 48 => 73 | 49 => 74 | 50 => 75 | 57 => 82 | n => n, fun | 22 => 56 | 24 => 50 | 25 => 83 | 3 => 3 | 39 => 86 | 0 => 0 | 53 => 100 | 55 => 103 | 4 => 4 | 46 => 109 | 45 => 108 | 50 => 69 | 5 => 5 | 9 => 9 | 66 => 127 | 70 => 131 | 76 => 137 | 77 => 138 | n => n, fun | n => n⟩
theorem Try.sortL : Go.Proofs.SlLaysF0.n6 Try.prog Try.sortL_ren := {
 mixed := by kernel_rfl
 f6 := ⟨Try.f30.name, by decide, Try.func30.trans (congrArg some (by kernel_rfl))⟩
 f14 := ⟨Try.f40.name, by decide, Try.func40.trans (congrArg some (by kernel_rfl))⟩
 f15 := Try.func41.trans (congrArg some (by kernel_rfl))
 f20 := ⟨Try.f51.name, by decide, Try.func51.trans (congrArg some (by kernel_rfl))⟩
 f21 := ⟨Try.f52.name, by decide, Try.func52.trans (congrArg some (by kernel_rfl))⟩
 f22 := ⟨Try.f53.name, by decide, Try.func53.trans (congrArg some (by kernel_rfl))⟩
 f23 := ⟨Try.f54.name, by decide, Try.func54.trans (congrArg some (by kernel_rfl))⟩
 f24 := ⟨Try.f55.name, by decide, Try.func55.trans (congrArg some (by kernel_rfl))⟩
 f25 := ⟨Try.f56.name, by decide, Try.func56.trans (congrArg some (by kernel_rfl))⟩
 f26 := ⟨Try.f57.name, by decide, Try.func57.trans (congrArg some (by kernel_rfl))⟩
 f27 := ⟨Try.f58.name, by decide, Try.func58.trans (congrArg some (by kernel_rfl))⟩
 f28 := Try.func59.trans (congrArg some (by kernel_rfl))
 f29 := Try.func60.trans (congrArg some (by kernel_rfl))
 f46 := ⟨Try.f71.name, by decide, Try.func71.trans (congrArg some (by kernel_rfl))⟩
 f47 := Try.func72.trans (congrArg some (by kernel_rfl))
 f48 := Try.func73.trans (congrArg some (by kernel_rfl))
 f49 := ⟨Try.f74.name, by decide, Try.func74.trans (congrArg some (by kernel_rfl))⟩
 f50 := ⟨Try.f75.name, by decide, Try.func75.trans (congrArg some (by kernel_rfl))⟩
 f57 := ⟨Try.f82.name, by decide, Try.func82.trans (congrArg some (by kernel_rfl))⟩
 t0 := Try.underlying0
 a0 := Try.isAgg0
 z0 := Try.sizeOf0
 v0 := Try.zeroValue0
 t3 := Try.underlying3
 a3 := Try.isAgg3
 z3 := Try.sizeOf3
 v3 := Try.zeroValue3
 t4 := Try.underlying4
 a4 := Try.isAgg4
 z4 := Try.sizeOf4
 v4 := Try.zeroValue4
 t5 := Try.underlying5
 a5 := Try.isAgg5
 z5 := Try.sizeOf5
 v5 := Try.zeroValue5
 t9 := Try.underlying9
 a9 := Try.isAgg9
 z9 := Try.sizeOf9
 v9 := Try.zeroValue9
 t22 := Try.underlying56
 a22 := Try.isAgg56
 z22 := Try.sizeOf56
 v22 := Try.zeroValue56
 t25 := Try.underlying83
 a25 := Try.isAgg83
 z25 := Try.sizeOf83
 v25 := Try.zeroValue83
 t39 := Try.underlying86
 a39 := Try.isAgg86
 z39 := Try.sizeOf86
 v39 := Try.zeroValue86
 t45 := Try.underlying108
 a45 := Try.isAgg108
 z45 := Try.sizeOf108
 v45 := Try.zeroValue108
 t46 := Try.underlying109
 a46 := Try.isAgg109
 z46 := Try.sizeOf109
 v46 := Try.zeroValue109
 t50 := Try.underlying69
 a50 := Try.isAgg69
 z50 := Try.sizeOf69
 v50 := Try.zeroValue69
 t53 := Try.underlying100
 a53 := Try.isAgg100
 z53 := Try.sizeOf100
 v53 := Try.zeroValue100
 t55 := Try.underlying103
 a55 := Try.isAgg103
 z55 := Try.sizeOf103
 v55 := Try.zeroValue103
 t66 := Try.underlying127
 a66 := Try.isAgg127
 z66 := Try.sizeOf127
 v66 := Try.zeroValue127
 t70 := Try.underlying131
 a70 := Try.isAgg131
 z70 := Try.sizeOf131
 v70 := Try.zeroValue131
 t76 := Try.underlying137
 a76 := Try.isAgg137
 z76 := Try.sizeOf137
 v76 := Try.zeroValue137
 t77 := Try.underlying138
 a77 := Try.isAgg138
 z77 := Try.sizeOf138
 v77 := Try.zeroValue138 }
end Go.Proofs
namespace Go.Proofs.Ythgnlojolooonaa
open Clk Go Go.Proofs Go.Shelf Go.RowKit Go.Lib Go.Sort
theorem nan42 (x : Int) (W : World) : Calls Try.prog 42 #[.int .i64 x] W fun e w' => e = .returned (.bool false) /\ w' = W := by
 go_enter Try.func42, Try.ntmps42
 go_wp2
 go_ret
 simp
set_option maxHeartbeats 1000000 in
theorem cmp33 (x y : Int) (W : World) : Calls Try.prog 33 #[.int .i64 x, .int .i64 y] W fun e w' => e = .returned (.int .i64 (cmpI x y)) /\ w' = W := by
 have hn := nan42; unfold cmpI; go_enter Try.func33, Try.ntmps33
 go_wp2_with (go_at_call 42; refine (hn _ _).mono ?_; rintro e w' ⟨rfl, rfl⟩)
 all_goals go_ret
 all_goals refine ⟨?_, rfl⟩
 all_goals first
  | rfl
  | rw [if_pos (by assumption)]
  | rw [if_neg (by omega), if_pos (by assumption)]
  | rw [if_neg (by omega), if_neg (by omega)]
set_option maxHeartbeats 2000000 in
theorem or32 (b o c : Nat) (x y : Int) (W : World) (h0 : W.cell? ⟨b, o, none⟩ = some (.int .i64 x)) (h1 : W.cell? ⟨b, o + 1, none⟩ = some (.int .i64 y)) :
 Calls Try.prog 32 #[.slice (some ⟨b, o, none⟩) 2 c] W fun e w' => e = .returned (.int .i64 (orI x y)) /\ w' = W := by
 by_cases hx : x = 0
 · subst hx; have e : orI 0 y = y := rfl; rw [e]; go_enter Try.func32, Try.ntmps32
   go_wp2
   refine wp_loop_rounds 3 ?_; rw [rounds_succ]; go_wp2
   all_goals rw [rounds_succ]
   go_wp2
   all_goals try (go_ret; exact ⟨rfl, rfl⟩)
   rename_i hy; have hy : y = 0 := by simpa using hy
   subst hy; rw [rounds_succ]; go_wp2
   go_ret
   exact ⟨rfl, rfl⟩
 · have e : orI x y = x := if_neg hx; rw [e]; have hx2 : (x != 0) = true := by simpa using hx
   go_enter Try.func32, Try.ntmps32
   go_wp2
   refine wp_loop_rounds 3 ?_; rw [rounds_succ]; go_wp2
   all_goals try (go_ret; exact ⟨rfl, rfl⟩)
theorem zlc {W W3 : World} {o1 o2 : Obj} {c1 : Array Value} {t1 : TypeId} {fz : Nat × Nat} (h : W3.heap = (W.heap.push o1).push o2) (e : o1 = .cells c1 t1 fz) (i : Nat) : W3.cell? ⟨W.heap.size, i, none⟩ = c1[i]? := by
 subst e; have : W3.heap[W.heap.size]? = some (.cells c1 t1 fz) := by rw [h, Array.getElem?_push, if_neg (by simp), Array.getElem?_push, if_pos rfl]
 unfold World.cell?; rw [this]; rfl
theorem zld {W W3 : World} {o1 o2 : Obj} {c1 : Array Value} {t1 : TypeId} {fz : Nat × Nat} (h : W3.heap = (W.heap.push o1).push o2) (e : o2 = .cells c1 t1 fz) (i : Nat) : W3.cell? ⟨W.heap.size + 1, i, none⟩ = c1[i]? := by
 subst e; have : W3.heap[W.heap.size + 1]? = some (.cells c1 t1 fz) := by rw [h, Array.getElem?_push, if_pos (by simp)]
 unfold World.cell?; rw [this]; rfl
theorem or32n (x y : Int) (W : World) : Calls Try.prog 32 #[.slice (some ⟨W.heap.size, 0, none⟩) 2 2] (W.alloc (.cells #[.int .i64 x, .int .i64 y] 3)) fun e w' => e = .returned (.int .i64 (orI x y)) /\ w' = W.alloc (.cells #[.int .i64 x, .int .i64 y] 3) := by
 have h : (W.alloc (.cells #[.int .i64 x, .int .i64 y] 3)).heap[W.heap.size]? = some (.cells #[.int .i64 x, .int .i64 y] 3) := by
  show (W.heap.push _)[W.heap.size]? = _; rw [Array.getElem?_push, if_pos rfl]
 exact or32 W.heap.size 0 2 x y _ (by unfold World.cell?; rw [h]; rfl) (by unfold World.cell?; rw [h]; rfl)
set_option maxHeartbeats 4000000 in
theorem cmp31 (p k s : Int) (u v : Value) (p' k' s' : Int) (u' v' : Value) (hu : u.oneCell' = true) (hv : v.oneCell' = true) (hu' : u'.oneCell' = true) (hv' : v'.oneCell' = true) (W : World) :
 Calls Try.prog 31 #[.agg #[.int .i64 p, .int .i64 k, .int .i64 s, u, v], .agg #[.int .i64 p', .int .i64 k', .int .i64 s', u', v']] W fun e w' => e = .returned (.int .i64 (orI (cmpI s s') (cmpI p p'))) /\ ∃ q os', w' = grow (W.drewN q) os' := by
 have hc := cmp33; have ho := or32n; go_enter Try.func31, Try.ntmps31
 go_wp2
 refine wp_region_still_tail 12 (by kernel_rfl) (by kernel_rfl) ?_; simp only [List.take_succ_cons, List.take_zero, List.drop_succ_cons, List.drop_zero]; generalize hW3 : ({ (W.alloc _).alloc _ with drawn := _ } : World) = W3; have hh : W3.heap = (W.heap.push (.cells #[.int .i64 p, .int .i64 k, .int .i64 s, u, v] 50)).push (.cells #[.int .i64 p', .int .i64 k', .int .i64 s', u', v'] 50) := by rw [<- hW3]; rfl
 have hq : W3 = grow (W.drewN 1) #[.cells #[.int .i64 p, .int .i64 k, .int .i64 s, u, v] 50, .cells #[.int .i64 p', .int .i64 k', .int .i64 s', u', v'] 50] := by rw [<- hW3]; rfl
 have f1 : W3.cell? ⟨W.heap.size, 2, none⟩ = some (.int .i64 s) := zlc hh rfl 2; have f2 : W3.cell? ⟨W.heap.size, 0, none⟩ = some (.int .i64 p) := zlc hh rfl 0; have f3 : W3.cell? ⟨W.heap.size + 1, 2, none⟩ = some (.int .i64 s') := zld hh rfl 2; have f4 : W3.cell? ⟨W.heap.size + 1, 0, none⟩ = some (.int .i64 p') := zld hh rfl 0; have hg : ∃ os, W3 = grow (W.drewN 1) os := ⟨_, hq⟩; clear hW3 hh hq; repeat still_step
 still_call (hc _ _ _)
 repeat still_step
 still_call (hc _ _ _)
 refine wpStill_nil ?_; go_wp2_with (go_at_call 32; refine (ho _ _ _).mono ?_; rintro e w' ⟨rfl, rfl⟩)
 obtain ⟨os, rfl⟩ := hg; go_ret
 exact ⟨rfl, 1, os ++ #[.cells #[.int .i64 (cmpI s s'), .int .i64 (cmpI p p')] 3], by rw [alloc_eq_grow, grow_grow]⟩
theorem sortAt : SortAt Try.prog 30 31 where
 none p cap fv w := AnyF.slices_SortFunc_none (P := Try.prog) (ρ := Try.sortL_ren) Try.sortL p cap fv w
 sort m enc hk h1 cf hO blk off cap d w hcmp hH hblk hsz hT := AnyQ.slices_SortFunc_total Try.sortL 5 Try.isAgg50 Try.sizeOf50 enc hk h1 cf hO 31 #[] blk off cap d w (enters_of Try.func31 (by kernel_rfl) rfl) hcmp hH hblk hsz hT
 cmp := cmp31
end Go.Proofs.Ythgnlojolooonaa
namespace Go.Proofs.Ythgnlojolooonaa
open Go Go.Proofs Clk
theorem zle {H : List AO} {te : TI} {x : AV} {rs : List (List AV)} (h : z0p H x = some rs) : newRows H te x = some rs := by
 cases x <;> first | exact h | (simp [z0p] at h)
theorem z5y : Clk.Good Try.prog := ⟨by kernel_rfl, fun f fn h hn => by
 have : Try.prog.funcs.all (fun fn => fn.name != "runtime.NumGoroutine") = true := by kernel_rfl
 rw [Array.all_eq_true] at this; obtain ⟨hi, h'⟩ := Array.getElem?_eq_some_iff.1 h; have := this f hi; rw [h', hn] at this; simp at this⟩
theorem clone23 : ∀ args H v ch, cloneA 1 8 H.length args H = some (v, ch) -> ∀ (w : World) (X : Nat -> Prop) (β : z0q) (vs : Array Value), HRel w X β H -> ARel w (NN X β H) β args vs -> CallsIn (WF none) 0 Try.prog 23 vs w (Clk.Ends w X β H v (ze H ch)) := by
 refine zxe z5y Try.func23 (by rfl) (by rfl) (by rfl) (by rfl) (by rfl) (by rfl) (by rfl) (by rfl) (by rfl) Try.underlying28 (fun x H => ⟨20, ?_⟩) (fun x H => ⟨20, ?_⟩) (fun x H v ch h => ?_)
 · simp (config := {dsimp := false}) only [go_sem]
 · simp (config := {dsimp := false}) only [go_sem]
 · unfold cloneA at h; simp only at h; split at h
   · rename_i hrs; cases h; have hnr : ∀ te, newRows H te x = some [] := fun te => zle hrs
     refine ⟨20, ?_⟩; simp (config := {dsimp := false}) only [go_sem, hnr, reduceIte, Nat.reduceEqDiff, reduceCtorEq, Nat.zero_mul, Nat.not_lt_zero, gt_iff_lt, or_self, Nat.zero_le]; refine ⟨_, rfl, ?_⟩; rfl
   · rename_i rs hne hrs; split at h
     · rename_i hc; cases h; simp only [Bool.and_eq_true, decide_eq_true_eq] at hc; have hnr : ∀ te, newRows H te x = some rs := fun te => zle hrs
       have h1 : ¬ (z05 < rs.length * 8) := Nat.not_lt.2 hc.1.2; have h2 : ¬ (z05 < rs.length) := Nat.not_lt.2 hc.2; have h3 : rs.all (fun r => r.length == 1) = true := hc.1.1; have h4 : rs.length ≠ 0 := fun e => hne (List.eq_nil_of_length_eq_zero e)
       refine ⟨20, ?_⟩; simp (config := {dsimp := false}) only [go_sem, hnr, reduceIte, Nat.reduceEqDiff, reduceCtorEq, gt_iff_lt, h1, h2, h3, h4, or_self, Bool.and_self]; refine ⟨_, rfl, ?_⟩; rfl
     · cases h
   · cases h
def primW : FuncId -> Option (Nat -> List AV -> List AO -> Res) := fun f => if f = 23 then some (cloneA 1 8) else if f = 30 then some (sortA 31) else none
theorem z00r : PrimOk Try.prog primW := by
 intro f h e; unfold primW at e; split at e
 · rename_i hf; subst hf; cases e; exact ⟨⟨_, Try.func23, by rfl⟩, clone23⟩
 · split at e
   · rename_i hf; subst hf; cases e; exact ⟨⟨_, Try.func30, by rfl⟩, zyg sortAt⟩
   · cases e
end Go.Proofs.Ythgnlojolooonaa
namespace Go.Proofs.Ythgnlojolooonaa
open Clk Go.Proofs
theorem z03k : z41.prim = primW := by
 funext f
 by_cases h : f < 106
 · have key : (List.range 106).map z41.prim = (List.range 106).map primW := by kernel_rfl
   have := congrArg (fun l => l[f]?) key; simp only [List.getElem?_map, List.getElem?_range h, Option.map_some] at this; exact Option.some.inj this
 · have h' : 106 <= f := Nat.le_of_not_lt h; have hl : z41.cl.length = 106 := by kernel_rfl
   have h1 : z41.cl.length <= f := Nat.le_trans (Nat.le_of_eq hl) h'; have n1 : f ≠ 23 := fun e => absurd (e ▸ h') (by decide)
   have n2 : f ≠ 30 := fun e => absurd (e ▸ h') (by decide)
   unfold Seat.prim primW; rw [zI, List.getElem?_eq_none h1, if_neg n1, if_neg n2]; rfl
theorem zx : PrimOk Try.prog z41.prim := by rw [z03k]; exact z00r
end Go.Proofs.Ythgnlojolooonaa
namespace Go.Proofs.Ythgnlojolooonaa
open Clk Go Go.Proofs
theorem zmv {W : World} {b : Nat} {s : ByteArray} {t : TypeId} (h : W.heap[b]? = some (.cells #[.string s] t (0, 0))) : W.cell? ⟨b, 0, none⟩ = some (.string s) /\ W.frozen? ⟨b, 0, none⟩ = false := by
 constructor
 · unfold World.cell?; rw [h]; rfl
 · unfold World.frozen?; rw [h]; simp
set_option maxHeartbeats 1000000 in
theorem zmw {U : Str -> Option (List Int × Str × Int)} (hU : z97 Try.prog 77 U) {s r : Str} {l : List Int} (h : U s = some (l, r, 0)) (b : Nat) (t : TypeId) (w : World) (N : Nat -> Prop) (hN : ∀ x, N x -> x < w.heap.size) (hb : w.heap[b]? = some (.cells #[.string ⟨s.toArray⟩] t (0, 0))) (hNb : N b) :
 Calls Try.prog 65 #[.pointer (some ⟨b, 0, none⟩)] w fun en w' => ∃ v, en = .returned v /\ Gr (fun x => x = b) w w' /\ RelI w' N (eInts l) v /\ w'.heap[b]? = some (.cells #[.string ⟨r.toArray⟩] t (0, 0)) := by
 obtain ⟨c1, c2⟩ := zmv hb; have hc := hU s l r 0 h w N hN; have hbl : b < w.heap.size := (Array.getElem?_eq_some_iff.1 hb).1; go_enter Try.func65, Try.ntmps65
 go_wp2_with (go_at_call 77; refine hc.mono ?_; rintro e w' ⟨v, rfl, hg, hv⟩; obtain ⟨c3, c4⟩ := zmv ((hg.same b hbl id).trans hb))
 go_ret
 have hs := (hg.wider (L' := fun x => x = b) fun _ h => h.elim).trans (Gr.setCell (L := fun x => x = b) w' b 0 (.string ⟨r.toArray⟩) rfl); refine ⟨v, rfl, hs, (Gr.setCell (L := fun x => x = b) w' b 0 (.string ⟨r.toArray⟩) rfl).rel' (fun x e => by subst e; exact hNb) hv, ?_⟩; rw [z3d, if_pos rfl, (hg.same b hbl id).trans hb]; rfl
set_option maxHeartbeats 1000000 in
theorem zts {U : Str -> Option (List Int × Str × Int)} (hU : z97 Try.prog 77 U) {s r : Str} {l : List Int} {e : Int} (h : U s = some (l, r, e)) (he : e ≠ 0) (b : Nat) (t : TypeId) (w : World) (hb : w.heap[b]? = some (.cells #[.string ⟨s.toArray⟩] t (0, 0))) :
 Calls Try.prog 65 #[.pointer (some ⟨b, 0, none⟩)] w fun en w' => en = .panicked [{ v := .iface 35 (.int .i64 30), recovered := false }] /\ Gr (fun _ => False) w w' := by
 obtain ⟨c1, c2⟩ := zmv hb; have hc := hU s l r e h w (fun _ => False) (fun _ h => h.elim); have hd : (e != 0) = true := by simpa using he
 go_enter Try.func65, Try.ntmps65
 go_wp2_with (go_at_call 77; refine hc.mono ?_; rintro e w' ⟨v, rfl, hg, hv⟩)
 exact ⟨rfl, rfl, hg⟩
set_option maxHeartbeats 2000000 in
theorem zgj (p q : Nat) (pc : Array Value) (qc : Value) (older : List PanicEntry) (w : World) (hp : w.heap[p]? = some (.cells pc 34 (0, 0))) (hps : pc.size = 4) (hq : w.heap[q]? = some (.cells #[qc] 35 (0, 0))) (hpq : p ≠ q) :
 CallsD Try.prog 64 #[.pointer (some ⟨p, 0, none⟩), .pointer (some ⟨q, 0, none⟩)] (.panicking ({ v := .iface 35 (.int .i64 30), recovered := false } :: older)) w fun e u' w' =>
  e = .returned (.tuple #[]) /\ u' = .panicking ({ v := .iface 35 (.int .i64 30), recovered := true } :: older) /\ Gr (fun x => x = p \/ x = q) w w' /\
  w'.heap[p]? = some (.cells #[.int .i64 0, .int .i64 0, .slice none 0 0, .slice none 0 0] 34 (0, 0)) /\ w'.heap[q]? = some (.cells #[.int .i64 30] 35 (0, 0)) := by
 refine callsD_of_wpS Try.func64 rfl fun c₀ cs hu => ?_
 apply wpS_seq
 apply wpS_region
 simp [wpOpsS, go_sem, recoverD, hu, Try.ntmps64, Exit.thenS]; apply wpS_seq
 apply wpS_region
 simp [wpOpsS, go_sem, Exit.thenS]; refine wpS_cond (t := true) (by simp [Act.eval, Array.replicate]) ?_; simp only [if_true]; refine wpS_of_wp ?_; change Code.wp Try.prog _ _ { tmps := #[.pointer (some ⟨p, 0, none⟩), .pointer (some ⟨q, 0, none⟩), undef, undef, .iface 35 (.int .i64 30), .iface 35 (.int .i64 30), .iface 35 (.int .i64 30), .bool true, undef, undef, undef, undef, undef, undef, undef], defers := [] } w
 have hf : ∀ i, w.frozen? ⟨p, i, none⟩ = false := fun i => by unfold World.frozen?; rw [hp]; simp
 have hcl : ∀ i, i < 4 -> ∃ v, w.cell? ⟨p, i, none⟩ = some v := fun i hi => by
  unfold World.cell?; rw [hp]; exact ⟨pc[i]'(by omega), by show pc[i]? = _; rw [Array.getElem?_eq_getElem]⟩
 obtain ⟨p0, c0⟩ := hcl 0 (by omega); obtain ⟨p1, c1⟩ := hcl 1 (by omega); obtain ⟨p2, c2⟩ := hcl 2 (by omega); obtain ⟨p3, c3⟩ := hcl 3 (by omega); have f0 := hf 0; have f1 := hf 1; have f2 := hf 2; have f3 := hf 3; have d0 : w.cell? ⟨q, 0, none⟩ = some qc := by unfold World.cell?; rw [hq]; rfl
 have g0 : w.frozen? ⟨q, 0, none⟩ = false := by unfold World.frozen?; rw [hq]; simp
 have hT : ∀ W : World, (Instr.typeAssert (.iface 35 (.int .i64 30)) 20 35 false).run Try.prog W = .ok (.int .i64 30) W := fun W => by kernel_rfl
 go_region
 cases c₀; simp only [bodyPostS, results, Try.results64]; obtain ⟨s1, s2⟩ := store4 w hp hps (.int .i64 0) (.int .i64 0) (.slice none 0 0) (.slice none 0 0); obtain ⟨s3, s4⟩ := store1 _ ((s1.same q (Array.getElem?_eq_some_iff.1 hq).1 fun e => hpq e.symm).trans hq) (.int .i64 30); refine ⟨trivial, _, rfl, .tuple #[], by simp [go_sem], rfl, rfl, (((s1.wider (L' := fun x => x = p \/ x = q) fun _ h => .inl h).trans (s3.wider fun _ h => .inr h))).drew, ?_, s4⟩; exact (s3.same p (Nat.lt_of_lt_of_le (Array.getElem?_eq_some_iff.1 hp).1 s1.size) hpq).trans s2
set_option maxHeartbeats 2000000 in
theorem zj5 (p q : Value) (w : World) :
 CallsD Try.prog 64 #[p, q] .returning w fun e u' w' => e = .returned (.tuple #[]) /\ u' = .returning /\ w' = w := by
 refine callsD_of_wpS Try.func64 rfl fun c₀ cs hu => ?_
 apply wpS_seq
 apply wpS_region
 simp [wpOpsS, go_sem, recoverD, hu, Try.ntmps64, Exit.thenS]; apply wpS_seq
 apply wpS_region
 simp [wpOpsS, go_sem, Exit.thenS]; refine wpS_cond (t := false) (by simp [Act.eval, Array.replicate]) ?_; simp only [Bool.false_eq_true, if_false]; refine wpS_of_wp (wp_skip ?_); cases c₀; simp_all [bodyPostS, results, Try.results64]
set_option maxHeartbeats 4000000 in
theorem zyh {U : Str -> Option (List Int × Str × Int)} (hU : z97 Try.prog 77 U) {s r : Str} {l : List Int} {e : Int} (h : U s = some (l, r, e)) (he : e ≠ 0) (w : World) :
 Calls Try.prog 49 #[.string ⟨s.toArray⟩] w fun en w' => en = .returned (.tuple #[.agg #[.int .i64 0, .int .i64 0, .slice none 0 0, .slice none 0 0], .int .i64 30]) /\ Gr (fun _ => False) w w' := by
 obtain ⟨z1, z2, z3, z4, z5⟩ := alloc3 w (.cells #[.int .i64 0, .int .i64 0, .slice none 0 0, .slice none 0 0] 34) (.cells #[.int .i64 0] 35) (.cells #[.string ⟨s.toArray⟩] 124); go_enter_defers Try.func49, Try.ntmps49
 go_wp2_with (go_at_call 65; refine (zts hU h he _ 124 _ z4).mono ?_; rintro e w' ⟨rfl, hg⟩)
 refine leaves_cons (f := 64) (args := #[.pointer (some ⟨w.heap.size, 0, none⟩), .pointer (some ⟨w.heap.size + 1, 0, none⟩)]) (by simp) (by simp [go_sem]) ?_; refine (zgj w.heap.size (w.heap.size + 1) _ _ [] _ ((hg.same _ (by omega) id).trans z2) rfl ((hg.same _ (by omega) id).trans z3) (by omega)).mono ?_; rintro e u' w'' ⟨rfl, rfl, k1, k2, k3⟩
 obtain ⟨q0, q1, q2, q3, _⟩ := cells4 k2; obtain ⟨q4, _⟩ := cells1 k3; simp [Leaves, settle, results, Try.results49, go_sem, q0, q1, q2, q3, q4]; exact (z1.trans hg).hide k1 (fun r h => by omega)
set_option maxHeartbeats 4000000 in
theorem z00s {U : Str -> Option (List Int × Str × Int)} (hU : z97 Try.prog 77 U) {s r : Str} {l : List Int} (h : U s = some (l, r, 0)) (hl : l.length ≠ 2) (w : World) :
 Calls Try.prog 49 #[.string ⟨s.toArray⟩] w fun en w' => en = .returned (.tuple #[.agg #[.int .i64 0, .int .i64 0, .slice none 0 0, .slice none 0 0], .int .i64 30]) /\ Gr (fun _ => False) w w' := by
 obtain ⟨z1, z2, z3, z4, z5⟩ := alloc3 w (.cells #[.int .i64 0, .int .i64 0, .slice none 0 0, .slice none 0 0] 34) (.cells #[.int .i64 0] 35) (.cells #[.string ⟨s.toArray⟩] 124); have hd : ((l.length : Int) != 2) = true := by simp; omega
 go_enter_defers Try.func49, Try.ntmps49
 go_wp2_with (go_at_call 65; refine (zmw hU h _ 124 _ (fun x => x = w.heap.size + 1 + 1) (fun x hx => by omega) z4 rfl).mono ?_; rintro e w' ⟨v, rfl, hg, hv, hb⟩; obtain ⟨a, c, rfl, hv⟩ := zhi hv; have y2 := (hg.same w.heap.size (by omega) (by omega)).trans z2; have y3 := (hg.same (w.heap.size + 1) (by omega) (by omega)).trans z3; obtain ⟨q0, q1, q2, q3, q4, q5, q6, q7⟩ := cells4 y2; obtain ⟨q8, q9⟩ := cells1 y3)
 obtain ⟨s1, s2⟩ := store4 w' y2 rfl (.int .i64 0) (.int .i64 0) (.slice none 0 0) (.slice none 0 0); have y3' := (s1.same (w.heap.size + 1) (Nat.lt_of_lt_of_le (by omega) hg.size) (by omega)).trans y3; obtain ⟨s3, s4⟩ := store1 _ y3' (.int .i64 30); have s5 := (s3.same w.heap.size (Nat.lt_of_lt_of_le (by omega) (Nat.le_trans hg.size s1.size)) (by omega)).trans s2; refine leaves_cons (f := 64) (args := #[.pointer (some ⟨w.heap.size, 0, none⟩), .pointer (some ⟨w.heap.size + 1, 0, none⟩)]) (by simp) (by simp [go_sem]) ?_; refine (zj5 _ _ _).mono ?_; rintro e u' w'' ⟨rfl, rfl, rfl⟩
 obtain ⟨q0, q1, q2, q3, _⟩ := cells4 s5; obtain ⟨q4, _⟩ := cells1 s4; simp [Leaves, settle, results, Try.results49, go_sem, q0, q1, q2, q3, q4]; exact ((z1.hide hg (fun r h => by omega)).hide s1 (fun r h => by omega)).hide s3 (fun r h => by omega)
set_option maxHeartbeats 4000000 in
theorem zpd {U : Str -> Option (List Int × Str × Int)} (hU : z97 Try.prog 77 U) {M : List Int -> Option (List Int)} (hM : MovedAt Try.prog 66 M) {s r1 r2 r3 : Str} {l1 l2 l3 l4 : List Int} {e3 : Int} (h1 : U s = some (l1, r1, 0)) (hl : l1.length = 2) (h2 : U r1 = some (l2, r2, 0)) (h3 : U r2 = some (l3, r3, e3)) (h4 : e3 = 0 -> M l3 = some l4) (w : World) :
 Calls Try.prog 49 #[.string ⟨s.toArray⟩] w fun en w' => ∃ v, en = .returned (.tuple #[v, .int .i64 (if e3 = 0 then 0 else 30)]) /\ Gr (fun _ => False) w w' /\ RelI w' (fun x => x < w.heap.size) (.agg (eRecord (if e3 = 0 then ⟨l1[0], l1[1], l2, l4⟩ else ⟨0, 0, [], []⟩))) v := by
 obtain ⟨z1, z2, z3, z4, z5⟩ := alloc3 w (.cells #[.int .i64 0, .int .i64 0, .slice none 0 0, .slice none 0 0] 34) (.cells #[.int .i64 0] 35) (.cells #[.string ⟨s.toArray⟩] 124); have hd : ((2 : Int) != 2) = false := rfl; go_enter_defers Try.func49, Try.ntmps49
 go_wp2_with (go_at_call 65; refine (zmw hU h1 _ 124 _ (fun x => x < w.heap.size + 3) (fun x hx => by omega) z4 (by omega)).mono ?_; rintro e w' ⟨v, rfl, hg, hv, hb⟩; obtain ⟨a, c, rfl, hvc⟩ := zhi hv; have y2 := (hg.same w.heap.size (by omega) (by omega)).trans z2; have y3 := (hg.same (w.heap.size + 1) (by omega) (by omega)).trans z3; obtain ⟨q0, q1, q2, q3, q4, q5, q6, q7⟩ := cells4 y2; obtain ⟨q8, q9⟩ := cells1 y3; obtain ⟨ad, rfl, g1, g2, g3, g4⟩ := hvc 0 (by omega); obtain ⟨ad', e', g1', g2', g3', g4'⟩ := hvc 1 (by omega); cases e'; rw [hl])
 obtain ⟨ab, ao, sp⟩ := ad; simp only at g1 g3 g4 g4' g2; subst g1; rw [Nat.add_zero] at g4; have n2 : ab ≠ w.heap.size + 1 + 1 := by omega
 have n3 : ab ≠ w.heap.size := by omega
 have hz := hg.size; go_region_held3 (fun W : World => W.cell? ⟨ab, ao, none⟩ = some (.int .i64 l1[0]) /\ W.cell? ⟨ab, ao + 1, none⟩ = some (.int .i64 l1[1])) (first | exact ⟨g4, g4'⟩ | exact ⟨kk1, kk2⟩ | (refine ⟨?_, ?_⟩ <;> simp only [ziz _ _ _ _ _ _ n3, kk1, kk2])) (first | (go_at_call 65; refine (zmw hU h2 _ 124 w'.drew (fun x => x < w.heap.size + 3) (fun x hx => Nat.lt_of_lt_of_le hx (by show w.heap.size + 3 <= w'.heap.size; omega)) hb (by omega)).mono ?_; rintro e w2 ⟨v2, rfl, hg2, hv2, hb2⟩; obtain ⟨a2, c2, hve, _⟩ := zhi hv2; subst hve; have yy2 := (hg2.same w.heap.size (by show w.heap.size < w'.heap.size; omega) (by omega)).trans y2; obtain ⟨Q0, Q1, Q2, Q3, Q4, Q5, Q6, Q7⟩ := cells4 yy2; have kk0 := hg2.same ab g3 n2; have kk1 := (z38 kk0).trans g4; have kk2 := (z38 kk0).trans g4'))
 obtain ⟨s1, s2⟩ := store4 w2 yy2 rfl (.int .i64 l1[0]) (.int .i64 l1[1]) (.slice a2 l2.length c2) (.slice none 0 0); have tz : Gr (fun _ => False) w ((((w2.setCell ⟨w.heap.size, 0, none⟩ (.int .i64 l1[0])).setCell ⟨w.heap.size, 1, none⟩ (.int .i64 l1[1])).setCell ⟨w.heap.size, 2, none⟩ (.slice a2 l2.length c2)).setCell ⟨w.heap.size, 3, none⟩ (.slice none 0 0)) :=
  (((z1.hide hg (fun r h => by omega)).drew).hide hg2 (fun r h => by omega)).hide s1 (fun r h => by omega)
 have hz2 : w.heap.size + 3 <= w2.heap.size := Nat.le_trans (by show _ <= w'.heap.size; omega) hg2.size; have t4 := (s1.same (w.heap.size + 1 + 1) (by omega) (by omega)).trans hb2; have t3 := (s1.same (w.heap.size + 1) (by omega) (by omega)).trans ((hg2.same (w.heap.size + 1) (by show _ < w'.heap.size; omega) (by omega)).trans y3); have tv := s1.rel' (N := fun x => x < w.heap.size + 3) (fun x e => by omega) hv2; have hz3 := Nat.le_trans hz2 s1.size; generalize ((((w2.setCell ⟨w.heap.size, 0, none⟩ (.int .i64 l1[0])).setCell ⟨w.heap.size, 1, none⟩ (.int .i64 l1[1])).setCell ⟨w.heap.size, 2, none⟩ (.slice a2 l2.length c2)).setCell ⟨w.heap.size, 3, none⟩ (.slice none 0 0)) = w3 at s1 s2 tz t4 t3 tv hz3 ⊢; clear q0 q1 q2 q3 q4 q5 q6 q7 q8 q9 Q0 Q1 Q2 Q3 Q4 Q5 Q6 Q7 kk0 kk1 kk2 g4 g4'; by_cases he : e3 = 0
 · subst he; have hm : M l3 = some l4 := h4 rfl; go_wp2_with (go_at_call 65; refine (zmw hU h3 _ 124 w3 (fun x => x < w.heap.size + 3) (fun x hx => Nat.lt_of_lt_of_le hx hz3) t4 (by omega)).mono ?_; rintro e w4 ⟨v3, rfl, hg3, hv3, hb3⟩; have u2 := (hg3.same w.heap.size (by omega) (by omega)).trans s2; have u1 := (hg3.same (w.heap.size + 1) (by omega) (by omega)).trans t3; have hz4 := Nat.le_trans hz3 hg3.size)
   refine (hM l3 l4 hm w4 (fun x => x < w.heap.size + 3) v3 (fun x hx => Nat.lt_of_lt_of_le hx hz4) hv3).mono ?_; rintro e w5 ⟨v4, rfl, hg4, hv4⟩
   obtain ⟨a4, c4, hve4, _⟩ := zhi hv4; subst hve4; have x2 := (hg4.same w.heap.size (by omega) id).trans u2; have x1 := (hg4.same (w.heap.size + 1) (by omega) id).trans u1; obtain ⟨Q0, Q1, Q2, Q3, Q4, Q5, Q6, Q7⟩ := cells4 x2; obtain ⟨Q8, Q9⟩ := cells1 x1; go_wp2
   obtain ⟨a1, a2'⟩ := store3 w5 x2 (.slice a4 l4.length c4); obtain ⟨b1, b2⟩ := store4 _ a2' rfl (.int .i64 l1[0]) (.int .i64 l1[1]) (.slice a2 l2.length c2) (.slice a4 l4.length c4); have hz5 := Nat.le_trans hz4 hg4.size; have b3 := (b1.same (w.heap.size + 1) (Nat.lt_of_lt_of_le (by omega) a1.size) (by omega)).trans ((a1.same (w.heap.size + 1) (by omega) (by omega)).trans x1); obtain ⟨d1, d2⟩ := store1 _ b3 (.int .i64 0); have d3 := (d1.same w.heap.size (Nat.lt_of_lt_of_le (by omega) (Nat.le_trans a1.size b1.size)) (by omega)).trans b2; have gAll : Gr (fun x => x < w.heap.size + 3) w3 _ := ((((hg3.wider fun _ h => by omega).trans (hg4.wider fun _ h => h.elim)).trans (a1.wider fun _ h => by omega)).trans (b1.wider fun _ h => by omega)).trans (d1.wider fun _ h => by omega); have gTail : Gr (fun x => x < w.heap.size + 3) w5 _ := ((a1.wider fun _ h => by omega).trans (b1.wider fun _ h => by omega)).trans (d1.wider fun _ h => by omega); refine leaves_cons (f := 64) (args := #[.pointer (some ⟨w.heap.size, 0, none⟩), .pointer (some ⟨w.heap.size + 1, 0, none⟩)]) (by simp) (by simp [go_sem]) ?_; refine (zj5 _ _ _).mono ?_; rintro e u' w'' ⟨rfl, rfl, rfl⟩
   obtain ⟨q0, q1, q2, q3, _⟩ := cells4 d3; obtain ⟨q4, _⟩ := cells1 d2; have fin1 := ((((tz.hide hg3 (fun r h => by omega)).hide hg4 (fun r h => h.elim)).hide a1 (fun r h => by omega)).hide b1 (fun r h => by omega)).hide d1 (fun r h => by omega); have fin2 := zms (a := l1[0]) (b := l1[1]) (gAll.rel (N' := fun x => x < w.heap.size) (fun _ h => h) (fun _ h => by omega) tv) (gTail.rel (N' := fun x => x < w.heap.size) (fun _ h => h) (fun _ h => by omega) hv4); simp [Leaves, settle, results, Try.results49, go_sem, q0, q1, q2, q3, q4]; exact ⟨fin1, fin2⟩
 · go_wp2_with (go_at_call 65; refine (zts hU h3 he _ 124 w3 t4).mono ?_; rintro e w4 ⟨rfl, hg3⟩)
   refine leaves_cons (f := 64) (args := #[.pointer (some ⟨w.heap.size, 0, none⟩), .pointer (some ⟨w.heap.size + 1, 0, none⟩)]) (by simp) (by simp [go_sem]) ?_; refine (zgj w.heap.size (w.heap.size + 1) _ _ [] _ ((hg3.same _ (by omega) id).trans s2) rfl ((hg3.same _ (by omega) id).trans t3) (by omega)).mono ?_; rintro e u' w'' ⟨rfl, rfl, k1, k2, k3⟩
   obtain ⟨q0, q1, q2, q3, _⟩ := cells4 k2; obtain ⟨q4, _⟩ := cells1 k3; have fin1 := (tz.hide hg3 (fun r h => h.elim)).hide k1 (fun r h => by omega); have fin2 := zms (w := w'') (N := fun x => x < w.heap.size) (a := 0) (b := 0) zfk zfk; simp [Leaves, settle, results, Try.results49, go_sem, q0, q1, q2, q3, q4, he]; exact ⟨fin1, fin2⟩
theorem z03l {U : Str -> Option (List Int × Str × Int)} (hU : z97 Try.prog 77 U) {M : List Int -> Option (List Int)} (hM : MovedAt Try.prog 66 M) : ReadAt Try.prog 49 U M := by
 intro s r e h w; unfold readF at h; split at h
 · cases h
 · rename_i l1 r1 e1 h1; by_cases he1 : e1 = 0
   · subst he1; rw [zT rfl, zC] at h; by_cases hl : l1.length = 2
     · rw [zT hl, zC] at h; split at h
       · cases h
       · rename_i l2 r2 e2 h2; by_cases he2 : e2 = 0
         · subst he2; rw [zT rfl, zC] at h; split at h
           · cases h
           · rename_i l3 r3 e3 h3; by_cases he3 : e3 = 0
             · rw [zT he3, zC] at h; split at h
               · cases h
               · rename_i l4 h4; cases h; have := zpd hU hM h1 hl h2 h3 (fun _ => h4) w; rw [if_pos he3, if_pos he3] at this; rw [show l1.getD 0 0 = l1[0] by simp [zI, zH (show 0 < l1.length by omega)], show l1.getD 1 0 = l1[1] by simp [zI, zH (show 1 < l1.length by omega)]]; exact this
             · rw [zF he3, zD] at h; cases h; have := zpd hU hM (l4 := []) h1 hl h2 h3 (fun e => absurd e he3) w; rw [if_neg he3, if_neg he3] at this; exact this
         · rw [zF he2, zD] at h; cases h
     · rw [zF hl, zD] at h; cases h; exact (z00s hU h1 hl w).mono fun en w' ⟨k1, k2⟩ => ⟨_, k1, k2, zms zfk zfk⟩
   · rw [zF he1, zD] at h; cases h; exact (zyh hU h1 he1 w).mono fun en w' ⟨k1, k2⟩ => ⟨_, k1, k2, zms zfk zfk⟩
end Go.Proofs.Ythgnlojolooonaa
namespace Clk.Ythgnlojolooonaa
open Go Go.Proofs Go.Proofs.Ythgnlojolooonaa
noncomputable def LN : List (FuncId × Spec) := []
theorem ok_N : zt Try.prog (z01 LN) := zy8
noncomputable def zb7 : Nat -> Option Tmpl := fun _ => none
noncomputable def zb8 : Nat -> Nat -> Option (Nat × Nat) := fun _ _ => none
theorem zkc (N : Nat) (a0 : Found) (a1 : Int) : z56 (z41.mk' (z3h LN) zb7 zb8) N 400 24 [.found, .i] [.i, .bool] (a0, a1) = z4p a0 a1 := by kernel_rfl
noncomputable def z89 : List (FuncId × Spec) := (24, ⟨[.found, .i], [.i, .bool], z87⟩) :: LN
theorem zj6 : zt Try.prog (z01 z89) := zb z0s z5y zx ok_N (by kernel_rfl) ⟨_, Try.func24, by rfl⟩ (tm := zb7) (gh := zb8) fun x y h => ⟨0, 400, (zkc 0 x.1 x.2).trans h⟩
noncomputable def zb9 : Nat -> Option Tmpl := fun cx => cond (Nat.beq cx 1) (some ⟨[], [], 62, [.raw 2 1, .st .found, .raw 2 1, .dead, .dead, .dead, .dead, .dead, .dead, .dead, .dead, .dead, .dead, .blk .i 0 false, .blk .i 0 false], ([J, J, .fix (.ptr 0 0 0 0), .fix (.ptr 1 0 0 0), .fix (.ptr 2 0 0 0), J, J, J, J, .fix (.ptr 0 0 0 0), J, .fix (.bref 13 0), .fix (.ptr 0 0 0 1), J, .fix (.bref 14 0), .fix (.ptr 0 0 0 0), .fix (.ptr 0 0 0 1), .fix (.ptr 1 0 0 1), .fix (.ptr 1 0 0 3), .var (.list .i), .var .i, .var .i] ++ jN 40 ++ [.fix (.bref 13 0), .fix (.bref 14 0), .agg .found, J, J, .var (.list .i), .var (.list .i)]), [], []⟩) <| none
theorem zkd (N : Nat) (a0 : Table) (a1 : Found) : z56 (z41.mk' (z3h z89) zb9 zb8) N 400 9 [.table, .found] [.table] (a0, a1) = z4q N a0 a1 := by kernel_rfl
noncomputable def z8a : List (FuncId × Spec) := (9, ⟨[.table, .found], [.table], z2u⟩) :: z89
theorem zj7 : zt Try.prog (z01 z8a) := zb z0s z5y zx zj6 (by kernel_rfl) ⟨_, Try.func9, by rfl⟩ (tm := zb9) (gh := zb8) fun x y h => by obtain ⟨N, h⟩ := zy h; exact ⟨N, 400, (zkd N x.1 x.2).trans h⟩
theorem zfs (N : Nat) (a0 : Int) (a1 : Int) : z56 (z41.mk' (z3h z8a) zb7 zb8) N 400 48 [(.int .u64), (.int .u64)] [(.int .u64), (.int .u64)] (a0, a1) = z8u a0 a1 := by kernel_rfl
noncomputable def z4c : List (FuncId × Spec) := (48, ⟨[(.int .u64), (.int .u64)], [(.int .u64), (.int .u64)], z8v⟩) :: z8a
theorem zei : zt Try.prog (z01 z4c) := zb z0s z5y zx zj7 (by kernel_rfl) ⟨_, Try.func48, by rfl⟩ (tm := zb7) (gh := zb8) fun x y h => ⟨0, 400, (zfs 0 x.1 x.2).trans h⟩
theorem zj8 (N : Nat) (a0 : Int) (a1 : Int) : z56 (z41.mk' (z3h z4c) zb7 zb8) N 400 35 [(.int .u64), (.int .u64)] [(.int .u64), (.int .u64)] (a0, a1) = zb4 a0 a1 := by kernel_rfl
noncomputable def z6p : List (FuncId × Spec) := (35, ⟨[(.int .u64), (.int .u64)], [(.int .u64), (.int .u64)], zb5⟩) :: z4c
theorem zh5 : zt Try.prog (z01 z6p) := zb z0s z5y zx zei (by kernel_rfl) ⟨_, Try.func35, by rfl⟩ (tm := zb7) (gh := zb8) fun x y h => ⟨0, 400, (zj8 0 x.1 x.2).trans h⟩
noncomputable def zac : Nat -> Option Tmpl := fun cx => cond (Nat.beq cx 26) (some ⟨[], [], 48, [.blk .i 0 false], (jN 7 ++ [.fix (.bref 0 0), .var .i] ++ jN 21 ++ [.fix (.bref 0 0), .fix (.bref 0 0)] ++ jN 16 ++ [.var (.list .i)]), [], []⟩) <| none
theorem zj9 (N : Nat) (a0 : (List Int)) (a1 : Int) : z56 (z41.mk' (z3h z6p) zac zb8) N 400 25 [(.list .i), .i] [(.list .i)] (a0, a1) = z6n N a0 a1 := by kernel_rfl
noncomputable def z6q : List (FuncId × Spec) := (25, ⟨[(.list .i), .i], [(.list .i)], z3t⟩) :: z6p
theorem zh6 : zt Try.prog (z01 z6q) := zb z0s z5y zx zh5 (by kernel_rfl) ⟨_, Try.func25, by rfl⟩ (tm := zac) (gh := zb8) fun x y h => by obtain ⟨N, h⟩ := zy h; exact ⟨N, 400, (zj9 N x.1 x.2).trans h⟩
theorem zpe (N : Nat) (a0 : Int) : z56 (z41.mk' (z3h z6q) zb7 zb8) N 400 10 [.i] [.table] a0 = z7q a0 := by kernel_rfl
noncomputable def zba : List (FuncId × Spec) := (10, ⟨[.i], [.table], z7r⟩) :: z6q
theorem zmx : zt Try.prog (z01 zba) := zb z0s z5y zx zh6 (by kernel_rfl) ⟨_, Try.func10, by rfl⟩ (tm := zb7) (gh := zb8) fun x y h => ⟨0, 400, (zpe 0 x).trans h⟩
theorem zmy (N : Nat) (a0 : Int) (a1 : Str) (a2 : Bool) : z56 (z41.mk' (z3h zba) zb7 zb8) N 400 88 [.i, .str, .bool] [.i, .str, .bool] (a0, a1, a2) = z5s a0 a1 a2 := by kernel_rfl
noncomputable def z9t : List (FuncId × Spec) := (88, ⟨[.i, .str, .bool], [.i, .str, .bool], z5t⟩) :: zba
theorem zke : zt Try.prog (z01 z9t) := zb z0s z5y zx zmx (by kernel_rfl) ⟨_, Try.func88, by rfl⟩ (tm := zb7) (gh := zb8) fun x y h => ⟨0, 400, (zmy 0 x.1 x.2.1 x.2.2).trans h⟩
noncomputable def zgk : Nat -> Option Tmpl := fun cx => cond (Nat.beq cx 1) (some ⟨[], [], 42, [], ([.var .str, J, .var .i] ++ jN 6 ++ [.var .i, .var .i] ++ jN 31), [], []⟩) <| none
theorem zry (N : Nat) (a0 : Str) : z56 (z41.mk' (z3h z9t) zgk zb8) N 400 83 [.str] [.i, .str, .bool] a0 = zj2 N a0 := by kernel_rfl
noncomputable def zdg : List (FuncId × Spec) := (83, ⟨[.str], [.i, .str, .bool], z9o⟩) :: z9t
theorem zpf : zt Try.prog (z01 zdg) := zb z0s z5y zx zke (by kernel_rfl) ⟨_, Try.func83, by rfl⟩ (tm := zgk) (gh := zb8) fun x y h => by obtain ⟨N, h⟩ := zy h; exact ⟨N, 400, (zry N x).trans h⟩
noncomputable def zco : Nat -> Option Tmpl := fun cx => cond (Nat.beq cx 6) (some ⟨[.tmp 2 .i], [(0, .i)], 40, [.dead, .blk .i 0 true], ([J, J, .fix (.bref 1 0), .var .str] ++ jN 18 ++ [.var .i, .var .i] ++ jN 16 ++ [.var (.list .i)]), [], []⟩) <| none
theorem zmz (N : Nat) (a0 : Str) : z56 (z41.mk' (z3h zdg) zco zb8) N 400 77 [.str] [(.list .i), .str, .i] a0 = z5u N a0 := by kernel_rfl
noncomputable def z9u : List (FuncId × Spec) := (77, ⟨[.str], [(.list .i), .str, .i], z3u⟩) :: zdg
theorem zkf : zt Try.prog (z01 z9u) := zb z0s z5y zx zpf (by kernel_rfl) ⟨_, Try.func77, by rfl⟩ (tm := zco) (gh := zb8) fun x y h => by obtain ⟨N, h⟩ := zy h; exact ⟨N, 400, (zmz N x).trans h⟩
noncomputable def zgl : Nat -> Option Tmpl := fun cx => cond (Nat.beq cx 1) (some ⟨[], [], 22, [.blk .i 0 false], ([.fix (.bref 0 0), .var .i, J, J, J, J, J, .fix (.bref 0 0), .fix (.bref 0 0), .var .i, .var .i] ++ jN 11 ++ [.var (.list .i)]), [], []⟩) <| none
theorem zrz (N : Nat) (a0 : (List Int)) (a1 : Int) : z56 (z41.mk' (z3h z9u) zgl zb8) N 400 66 [(.list .i), .i] [(.list .i)] (a0, a1) = z9m N a0 a1 := by kernel_rfl
noncomputable def zja : List (FuncId × Spec) := (66, ⟨[(.list .i), .i], [(.list .i)], z36⟩) :: z9u
theorem zbb : zt Try.prog (z01 zja) := zb z0s z5y zx zkf (by kernel_rfl) ⟨_, Try.func66, by rfl⟩ (tm := zgl) (gh := zb8) fun x y h => by obtain ⟨N, h⟩ := zy h; exact ⟨N, 400, (zrz N x.1 x.2).trans h⟩
noncomputable def zft : List (FuncId × Spec) := (49, ⟨[.str], [.record, .i], zfp⟩) :: zja
theorem zs0 : zt Try.prog (z01 zft) := zyd (U := z3u) (M := fun l => z36 (l, -1)) zbb ⟨_, Try.func49, by rfl⟩ (z03l (zyc zbb (by kernel_rfl)) (z00p (h := z36) zbb (by kernel_rfl)))
theorem zs1 (N : Nat) (a0 : Int) : z56 (z41.mk' (z3h zft) zb7 zb8) N 400 42 [.i] [.bool] a0 = zd9 a0 := by kernel_rfl
noncomputable def zdh : List (FuncId × Spec) := (42, ⟨[.i], [.bool], z9f⟩) :: zft
theorem zpg : zt Try.prog (z01 zdh) := zb z0s z5y zx zs0 (by kernel_rfl) ⟨_, Try.func42, by rfl⟩ (tm := zb7) (gh := zb8) fun x y h => ⟨0, 400, (zs1 0 x).trans h⟩
theorem zvq (N : Nat) (a0 : Int) (a1 : Int) : z56 (z41.mk' (z3h zdh) zb7 zb8) N 400 89 [.i, .i] [.bool] (a0, a1) = zc6 a0 a1 := by kernel_rfl
noncomputable def zfu : List (FuncId × Spec) := (89, ⟨[.i, .i], [.bool], zfl⟩) :: zdh
theorem zs2 : zt Try.prog (z01 zfu) := zb z0s z5y zx zpg (by kernel_rfl) ⟨_, Try.func89, by rfl⟩ (tm := zb7) (gh := zb8) fun x y h => ⟨0, 400, (zvq 0 x.1 x.2).trans h⟩
noncomputable def z7t : Nat -> Option Tmpl := fun cx => cond (Nat.beq cx 1) (some ⟨[], [], 21, [], ([.var (.list .i), J, J, .var .i] ++ jN 17), [], []⟩) <| none
theorem zfv (N : Nat) (a0 : (List Int)) : z56 (z41.mk' (z3h zfu) z7t zb8) N 400 85 [(.list .i)] [.bool] a0 = z49 N a0 := by kernel_rfl
noncomputable def z4d : List (FuncId × Spec) := (85, ⟨[(.list .i)], [.bool], z4a⟩) :: zfu
theorem zej : zt Try.prog (z01 z4d) := zb z0s z5y zx zs2 (by kernel_rfl) ⟨_, Try.func85, by rfl⟩ (tm := z7t) (gh := zb8) fun x y h => by obtain ⟨N, h⟩ := zy h; exact ⟨N, 400, (zfv N x).trans h⟩
noncomputable def zjb : Nat -> Option Tmpl := fun cx => cond (Nat.beq cx 1) (some ⟨[], [], 19, [], ([.var (.list .i), .fix (.fn 84 [] []), J, J, J, J, J, .var .i, .var .i] ++ jN 10), [], []⟩) <| cond (Nat.beq cx 5) (some ⟨[], [], 19, [.blk .i 0 false], ([.var (.list .i), .fix (.fn 84 [] []), J, J, J, J, J, .var .i, .var .i] ++ jN 10 ++ [.var (.list .i)]), [], []⟩) <| cond (Nat.beq cx 6) (some ⟨[], [], 61, [.blk .i 0 false], ([.fix (.bref 0 0), J, J, .var .i, J, J, .fix (.bref 0 0)] ++ jN 54 ++ [.var (.list .i)]), [], []⟩) <| cond (Nat.beq cx 110) (some ⟨[], [], 19, [.blk .i 0 false], ([.var (.list .i), .fix (.fn 84 [] []), J, J, J, J, J, .var .i, .var .i] ++ jN 10 ++ [.var (.list .i)]), [], []⟩) <| cond (Nat.beq cx 437) (some ⟨[], [], 61, [.blk .i 0 false, .dead, .dead, .dead, .dead, .dead, .dead, .dead, .dead, .dead, .dead], ([.fix (.bref 0 0), J, J, .var .i, .sub 0 0, .var .i, .fix (.bref 0 0), J, J, J, J, .fix (.bref 0 0), J, J, J, J, .fix (.bref 0 0), J, J, J, .fix (.bref 0 0), J, J, J, J, J, .fix (.bref 0 0)] ++ jN 34 ++ [.var (.list .i)]), [], []⟩) <| cond (Nat.beq cx 7006) (some ⟨[], [], 19, [.blk .i 0 false, .dead, .dead, .dead, .dead, .dead, .dead, .dead, .dead, .dead, .dead], ([.var (.list .i), .fix (.fn 84 [] []), J, J, J, J, J, .var .i, .var .i] ++ jN 10 ++ [.var (.list .i)]), [], []⟩) <| none
theorem zvr (N : Nat) (a0 : (List Int)) : z56 (z41.mk' (z3h z4d) zjb zb8) N 400 79 [(.list .i)] [.bool] a0 = zfm N a0 := by kernel_rfl
noncomputable def zfw : List (FuncId × Spec) := (79, ⟨[(.list .i)], [.bool], zfn⟩) :: z4d
theorem zs3 : zt Try.prog (z01 zfw) := zb z0s z5y zx zej (by kernel_rfl) ⟨_, Try.func79, by rfl⟩ (tm := zjb) (gh := zb8) fun x y h => by obtain ⟨N, h⟩ := zy h; exact ⟨N, 400, (zvr N x).trans h⟩
noncomputable def zgm : Nat -> Option Tmpl := fun cx => cond (Nat.beq cx 106) (some ⟨[], [], 19, [.st .record], ([.var (.list .i), .fix (.fn 78 [] []), J, J, J, J, J, .var .i, .var .i] ++ jN 10 ++ [.agg .record]), [], []⟩) <| none
theorem zs4 (N : Nat) (a0 : Record) : z56 (z41.mk' (z3h zfw) zgm zb8) N 400 67 [.record] [.bool] a0 = zda N a0 := by kernel_rfl
noncomputable def zdi : List (FuncId × Spec) := (67, ⟨[.record], [.bool], zdb⟩) :: zfw
theorem zph : zt Try.prog (z01 zdi) := zb z0s z5y zx zs3 (by kernel_rfl) ⟨_, Try.func67, by rfl⟩ (tm := zgm) (gh := zb8) fun x y h => by obtain ⟨N, h⟩ := zy h; exact ⟨N, 400, (zs4 N x).trans h⟩
noncomputable def zjc : Nat -> Option Tmpl := fun cx => cond (Nat.beq cx 6) (some ⟨[.tmp 3 (.int .u8)], [(0, (.int .u8))], 26, [.dead, .blk (.int .u8) 0 true], ([.var .i, J, J, .fix (.bref 1 0)] ++ jN 22 ++ [.var (.list (.int .u8))]), [], []⟩) <| none
theorem zvs (N : Nat) (a0 : Int) : z56 (z41.mk' (z3h zdi) zjc zb8) N 400 81 [.i] [.str] a0 = zfo N a0 := by kernel_rfl
noncomputable def zfx : List (FuncId × Spec) := (81, ⟨[.i], [.str], zc7⟩) :: zdi
theorem zs5 : zt Try.prog (z01 zfx) := zb z0s z5y zx zph (by kernel_rfl) ⟨_, Try.func81, by rfl⟩ (tm := zjc) (gh := zb8) fun x y h => by obtain ⟨N, h⟩ := zy h; exact ⟨N, 400, (zvs N x).trans h⟩
noncomputable def zgn : Nat -> Option Tmpl := fun cx => cond (Nat.beq cx 1) (some ⟨[], [], 26, [], ([J, J, J, J, .var .str] ++ jN 6 ++ [.var (.list .i), .var .i, .var .i] ++ jN 12), [], []⟩) <| none
theorem zs6 (N : Nat) (a0 : (List Int)) : z56 (z41.mk' (z3h zfx) zgn zb8) N 400 68 [(.list .i)] [.str, .i] a0 = zdc N a0 := by kernel_rfl
noncomputable def zdj : List (FuncId × Spec) := (68, ⟨[(.list .i)], [.str, .i], z6l⟩) :: zfx
theorem zpi : zt Try.prog (z01 zdj) := zb z0s z5y zx zs5 (by kernel_rfl) ⟨_, Try.func68, by rfl⟩ (tm := zgn) (gh := zb8) fun x y h => by obtain ⟨N, h⟩ := zy h; exact ⟨N, 400, (zs6 N x).trans h⟩
noncomputable def zgo : Nat -> Option Tmpl := fun cx => cond (Nat.beq cx 6) (some ⟨[], [], 23, [.blk (.int .u8) 0 false], ([.var .i, J, J, .fix (.ptr 0 0 0 0)] ++ jN 6 ++ [.var .i] ++ jN 12 ++ [.var (.list (.int .u8))]), [], []⟩) <| none
theorem zs7 (N : Nat) (a0 : Int) : z56 (z41.mk' (z3h zdj) zgo zb8) N 400 69 [.i] [.str] a0 = zdd N a0 := by kernel_rfl
noncomputable def zdk : List (FuncId × Spec) := (69, ⟨[.i], [.str], zde⟩) :: zdj
theorem zpj : zt Try.prog (z01 zdk) := zb z0s z5y zx zpi (by kernel_rfl) ⟨_, Try.func69, by rfl⟩ (tm := zgo) (gh := zb8) fun x y h => by obtain ⟨N, h⟩ := zy h; exact ⟨N, 400, (zs7 N x).trans h⟩
noncomputable def zlf : Nat -> Option Tmpl := fun cx => cond (Nat.beq cx 1) (some ⟨[], [], 32, [], ([.var .str, J, J, .var (.int .u32), J, J, J, .var .i, .var .i] ++ jN 23), [], []⟩) <| cond (Nat.beq cx 29) (some ⟨[], [], 32, [], ([.var .str, J, J, .var (.int .u32), J, J, J, .var .i, .var .i] ++ jN 8 ++ [.var .i] ++ jN 14), [], []⟩) <| none
theorem zyi (N : Nat) (a0 : Str) : z56 (z41.mk' (z3h zdk) zlf zb8) N 400 70 [.str] [.i] a0 = zpb N a0 := by kernel_rfl
noncomputable def zjd : List (FuncId × Spec) := (70, ⟨[.str], [.i], zj1⟩) :: zdk
theorem zvt : zt Try.prog (z01 zjd) := zb z0s z5y zx zpj (by kernel_rfl) ⟨_, Try.func70, by rfl⟩ (tm := zlf) (gh := zb8) fun x y h => by obtain ⟨N, h⟩ := zy h; exact ⟨N, 400, (zyi N x).trans h⟩
theorem zpk (N : Nat) (a0 : Record) (a1 : Str) : z56 (z41.mk' (z3h zjd) zb7 zb8) N 400 50 [.record, .str] [.str, .i] (a0, a1) = z7k a0 a1 := by kernel_rfl
noncomputable def zbc : List (FuncId × Spec) := (50, ⟨[.record, .str], [.str, .i], zb2⟩) :: zjd
theorem zn0 : zt Try.prog (z01 zbc) := zb z0s z5y zx zvt (by kernel_rfl) ⟨_, Try.func50, by rfl⟩ (tm := zb7) (gh := zb8) fun x y h => ⟨0, 400, (zpk 0 x.1 x.2).trans h⟩
theorem zpl (N : Nat) (a0 : Str) (a1 : Str) : z56 (z41.mk' (z3h zbc) zb7 zb8) N 400 39 [.str, .str] [.record, .i] (a0, a1) = z7s a0 a1 := by kernel_rfl
noncomputable def zbd : List (FuncId × Spec) := (39, ⟨[.str, .str], [.record, .i], zb6⟩) :: zbc
theorem zn1 : zt Try.prog (z01 zbd) := zb z0s z5y zx zn0 (by kernel_rfl) ⟨_, Try.func39, by rfl⟩ (tm := zb7) (gh := zb8) fun x y h => ⟨0, 400, (zpl 0 x.1 x.2).trans h⟩
theorem zs8 (N : Nat) (a0 : Page) : z56 (z41.mk' (z3h zbd) zb7 zb8) N 400 29 [.page] [.i, .record] a0 = z9p a0 := by kernel_rfl
noncomputable def zdl : List (FuncId × Spec) := (29, ⟨[.page], [.i, .record], zdf⟩) :: zbd
theorem zpm : zt Try.prog (z01 zdl) := zb z0s z5y zx zn1 (by kernel_rfl) ⟨_, Try.func29, by rfl⟩ (tm := zb7) (gh := zb8) fun x y h => ⟨0, 400, (zs8 0 x).trans h⟩
theorem zpn (N : Nat) (a0 : Int) (a1 : Int) : z56 (z41.mk' (z3h zdl) zb7 zb8) N 400 38 [.i, .i] [.i] (a0, a1) = zgi a0 a1 := by kernel_rfl
noncomputable def zbe : List (FuncId × Spec) := (38, ⟨[.i, .i], [.i], zb3⟩) :: zdl
theorem zn2 : zt Try.prog (z01 zbe) := zb z0s z5y zx zpm (by kernel_rfl) ⟨_, Try.func38, by rfl⟩ (tm := zb7) (gh := zb8) fun x y h => ⟨0, 400, (zpn 0 x.1 x.2).trans h⟩
noncomputable def zje : Nat -> Option Tmpl := fun cx => cond (Nat.beq cx 1) (some ⟨[.cell 1 0 0 .found], [(5, .found)], 38, [.raw 4 1, .raw 1 1, .raw 4 1, .dfr, .loop 27, .dead, .blk .found 0 true], ([.fix (.yield 4), .fix (.ptr 2 0 0 0)] ++ jN 6 ++ [.fix (.ptr 2 0 0 0), .var (.list .block), .var .i, .var .i] ++ jN 30 ++ [.fix (.bref 6 0), J, J, J, J, J, .fix (.ptr 0 0 0 0), .fix (.ptr 1 0 0 0), J, J, J, J, J, .fix (.fn 37 [] [(.ptr 2 0 0 0)])] ++ jN 18 ++ [.var (.list .found)]), [], [.bk 8 6]⟩) <| cond (Nat.beq cx 29) (some ⟨[], [(6, .found)], 38, [.raw 4 1, .raw 1 1, .raw 4 1, .dfr, .loop 27, .dead, .dead, .raw 4 1, .blk .found 0 true], ([.fix (.yield 4), .fix (.ptr 2 0 0 0), J, .var .i, .fix (.ptr 7 0 0 0), J, J, J, .fix (.ptr 2 0 0 0), .var (.list .block), .var .i, .var .i, J, J, J, J, .fix (.ptr 7 0 0 0), .var (.list .page), .var .i, .var .i] ++ jN 22 ++ [.fix (.bref 8 0), J, J, J, J, J, .fix (.ptr 0 0 0 0), .fix (.ptr 1 0 0 0), J, J, J, J, J, .fix (.fn 37 [] [(.ptr 2 0 0 0)])] ++ jN 22 ++ [.var (.list .found)]), [], []⟩) <| none
theorem zvu (N : Nat) (a0 : Chip) : z56 (z41.mk' (z3h zbe) zje zb8) N 400 15 [.chip] [(.list .found)] a0 = zc8 N a0 := by kernel_rfl
noncomputable def zfy : List (FuncId × Spec) := (15, ⟨[.chip], [(.list .found)], zfq⟩) :: zbe
theorem zs9 : zt Try.prog (z01 zfy) := zb z0s z5y zx zn2 (by kernel_rfl) ⟨_, Try.func15, by rfl⟩ (tm := zje) (gh := zb8) fun x y h => by obtain ⟨N, h⟩ := zy h; exact ⟨N, 400, (zvu N x).trans h⟩
end Clk.Ythgnlojolooonaa
namespace Clk.Ythgnlojolooonaa
open Go Go.Proofs Go.Proofs.Ythgnlojolooonaa
noncomputable def zad : Nat -> Option Tmpl := fun cx => cond (Nat.beq cx 1) (some ⟨[], [], 21, [.raw 4 1, .raw 2 1, .st .table, .raw 2 1], ([J, J, .fix (.fn 9 [] []), J, .fix (.ptr 2 0 0 0), J, .fix (.ptr 3 0 0 0), J, J, .var (.list .found), .var .i, .var .i] ++ jN 15 ++ [.agg .table, J, J]), [], []⟩) <| cond (Nat.beq cx 30) (some ⟨[], [], 21, [.raw 4 1, .raw 2 1, .raw 2 1, .raw 2 1], ([J, .var .i, .fix (.fn 16 [] [])] ++ jN 6 ++ [.var (.list .found), .var .i, .var .i] ++ jN 19), [], []⟩) <| none
theorem zjf (N : Nat) (a0 : Chip) (a1 : Int) : z56 (z41.mk' (z3h zfy) zad zb8) N 400 6 [.chip, .i] [.table, .i] (a0, a1) = z3x N a0 a1 := by kernel_rfl
noncomputable def z6r : List (FuncId × Spec) := (6, ⟨[.chip, .i], [.table, .i], zq⟩) :: zfy
theorem zh7 : zt Try.prog (z01 z6r) := zb z0s z5y zx zs9 (by kernel_rfl) ⟨_, Try.func6, by rfl⟩ (tm := zad) (gh := zb8) fun x y h => by obtain ⟨N, h⟩ := zy h; exact ⟨N, 400, (zjf N x.1 x.2).trans h⟩
noncomputable def zek : Nat -> Option Tmpl := fun cx => cond (Nat.beq cx 6) (some ⟨[], [], 26, [], ([.var (.list .i), .var (.list .i), J, J, J, .var .i] ++ jN 20), [], []⟩) <| none
theorem zpo (N : Nat) (a0 : (List Int)) (a1 : (List Int)) : z56 (z41.mk' (z3h z6r) zek zb8) N 400 26 [(.list .i), (.list .i)] [.bool] (a0, a1) = z7m N a0 a1 := by kernel_rfl
noncomputable def zbf : List (FuncId × Spec) := (26, ⟨[(.list .i), (.list .i)], [.bool], z7n⟩) :: z6r
theorem zn3 : zt Try.prog (z01 zbf) := zb z0s z5y zx zh7 (by kernel_rfl) ⟨_, Try.func26, by rfl⟩ (tm := zek) (gh := zb8) fun x y h => by obtain ⟨N, h⟩ := zy h; exact ⟨N, 400, (zpo N x.1 x.2).trans h⟩
theorem zpp (N : Nat) (a0 : Table) (a1 : Table) : z56 (z41.mk' (z3h zbf) zb7 zb8) N 400 11 [.table, .table] [.bool] (a0, a1) = z7o a0 a1 := by kernel_rfl
noncomputable def zbg : List (FuncId × Spec) := (11, ⟨[.table, .table], [.bool], z7p⟩) :: zbf
theorem zn4 : zt Try.prog (z01 zbg) := zb z0s z5y zx zn3 (by kernel_rfl) ⟨_, Try.func11, by rfl⟩ (tm := zb7) (gh := zb8) fun x y h => ⟨0, 400, (zpp 0 x.1 x.2).trans h⟩
theorem zn5 (N : Nat) : z56 (z41.mk' (z3h zbg) zb7 zb8) N 400 4 [] [.bool] () = z5x := by kernel_rfl
noncomputable def z9v : List (FuncId × Spec) := (4, ⟨[], [.bool], z9s⟩) :: zbg
theorem zkg : zt Try.prog (z01 z9v) := zb z0s z5y zx zn4 (by kernel_rfl) ⟨_, Try.func4, by rfl⟩ (tm := zb7) (gh := zb8) fun x y h => ⟨0, 400, (zn5 0 ).trans h⟩
theorem zn6 (N : Nat) (a0 : Chip) (a1 : Int) (a2 : Int) : z56 (z41.mk' (z3h z9v) zb7 zb8) N 400 20 [.chip, .i, .i] [.bool] (a0, a1, a2) = z5i a0 a1 a2 := by kernel_rfl
noncomputable def z9w : List (FuncId × Spec) := (20, ⟨[.chip, .i, .i], [.bool], z9d⟩) :: z9v
theorem zkh : zt Try.prog (z01 z9w) := zb z0s z5y zx zkg (by kernel_rfl) ⟨_, Try.func20, by rfl⟩ (tm := zb7) (gh := zb8) fun x y h => ⟨0, 400, (zn6 0 x.1 x.2.1 x.2.2).trans h⟩
noncomputable def zbh : Nat -> Option Tmpl := fun cx => cond (Nat.beq cx 1) (some ⟨[.tmp 3 .block], [(4, .block)], 29, [.raw 4 1, .raw 4 1, .st .chip, .raw 4 1, .dead, .nst true 0 true], ([J, .fix (.ptr 2 0 0 0), .fix (.ptr 3 0 0 0), .fix (.bref 5 0), .var .i] ++ jN 32 ++ [.agg .chip, J, J, J, J, .var (.list .block)]), [.nest 5 true], [.abs 5]⟩) <| none
theorem zki (N : Nat) (a0 : Chip) : z56 (z41.mk' (z3h z9w) zbh zb8) N 400 21 [.chip] [.chip, .i] a0 = zcm N a0 := by kernel_rfl
noncomputable def z8b : List (FuncId × Spec) := (21, ⟨[.chip], [.chip, .i], zz⟩) :: z9w
theorem zjg : zt Try.prog (z01 z8b) := zb z0s z5y zx zkh (by kernel_rfl) ⟨_, Try.func21, by rfl⟩ (tm := zbh) (gh := zb8) fun x y h => by obtain ⟨N, h⟩ := zy h; exact ⟨N, 400, (zki N x).trans h⟩
noncomputable def zae : Nat -> Option Tmpl := fun cx => cond (Nat.beq cx 5) (some ⟨[.tmp 3 .block], [(6, .block)], 29, [.raw 4 1, .raw 3 1, .raw 4 1, .raw 4 1, .st .chip, .raw 4 1, .dead, .nst true 0 true], ([J, .fix (.ptr 4 0 0 0), .fix (.ptr 5 0 0 0), .fix (.bref 7 0), .var .i] ++ jN 39 ++ [.agg .chip, J, J, J, J, .var (.list .block)]), [.nest 7 true], [.abs 7]⟩) <| cond (Nat.beq cx 26) (some ⟨[.tmp 3 .block], [(6, .block)], 29, [.raw 4 1, .st .page, .st .fate, .raw 4 1, .st .chip, .raw 4 1, .dead, .nst true 0 true], ([J, .fix (.ptr 4 0 0 0), .fix (.ptr 5 0 0 0), .fix (.bref 7 0), .var .i] ++ jN 28 ++ [.agg .page, .agg .fate, J, J, J, J, .agg .chip, J, J, J, J, .var (.list .block)]), [.nest 7 true], [.abs 7]⟩) <| none
noncomputable def zaf : Nat -> Nat -> Option (Nat × Nat) := fun cx id => cond (Nat.beq cx 27541 && Nat.beq id 18) (some (7, 1)) <| cond (Nat.beq cx 27542 && Nat.beq id 18) (some (7, 1)) <| cond (Nat.beq cx 27545 && Nat.beq id 18) (some (7, 1)) <| cond (Nat.beq cx 27546 && Nat.beq id 18) (some (7, 1)) <| cond (Nat.beq cx 27557 && Nat.beq id 18) (some (7, 1)) <| cond (Nat.beq cx 27558 && Nat.beq id 18) (some (7, 1)) <| cond (Nat.beq cx 27561 && Nat.beq id 18) (some (7, 1)) <| cond (Nat.beq cx 27562 && Nat.beq id 18) (some (7, 1)) <| none
theorem zjh (N : Nat) (a0 : Chip) (a1 : Int) (a2 : Int) (a3 : Page) (a4 : Fate) : z56 (z41.mk' (z3h z8b) zae zaf) N 400 7 [.chip, .i, .i, .page, .fate] [.chip, .i] (a0, a1, a2, a3, a4) = z3o N a0 a1 a2 a3 a4 := by kernel_rfl
noncomputable def z6s : List (FuncId × Spec) := (7, ⟨[.chip, .i, .i, .page, .fate], [.chip, .i], zk⟩) :: z8b
theorem zh8 : zt Try.prog (z01 z6s) := zb z0s z5y zx zjg (by kernel_rfl) ⟨_, Try.func7, by rfl⟩ (tm := zae) (gh := zaf) fun x y h => by obtain ⟨N, h⟩ := zy h; exact ⟨N, 400, (zjh N x.1 x.2.1 x.2.2.1 x.2.2.2.1 x.2.2.2.2).trans h⟩
noncomputable def zgp : Nat -> Option Tmpl := fun cx => cond (Nat.beq cx 6) (some ⟨[.cell 1 0 0 .block], [(2, .block)], 68, [.raw 4 1, .raw 4 1, .dead, .nst true 0 true], ([.var .i, .var .i, .var (.list .i), J, J, J, .fix (.ptr 0 0 0 0), J, .fix (.ptr 1 0 0 0), .var .i] ++ jN 62 ++ [.fix (.bref 3 0), .var .bool, .var .bool, .var .i, .var (.list .block)]), [.nest 3 true], [.abs 3]⟩) <| cond (Nat.beq cx 110) (some ⟨[], [], 68, [.raw 4 1, .raw 4 1, .dead, .nst true 0 false], ([.var .i, J, .var (.list .i), J, J, J, .fix (.ptr 0 0 0 0), J, .fix (.ptr 1 0 0 0), J, .var .i] ++ jN 61 ++ [.fix (.bref 3 0), .var .bool, .var .bool, .var .i, .var (.list .block)]), [], []⟩) <| none
theorem zsa (N : Nat) (a0 : Int) (a1 : Int) (a2 : (List Int)) : z56 (z41.mk' (z3h z6s) zgp zb8) N 400 12 [.i, .i, (.list .i)] [.chip, .i] (a0, a1, a2) = z9e N a0 a1 a2 := by kernel_rfl
noncomputable def zdm : List (FuncId × Spec) := (12, ⟨[.i, .i, (.list .i)], [.chip, .i], zd8⟩) :: z6s
theorem zpq : zt Try.prog (z01 zdm) := zb z0s z5y zx zh8 (by kernel_rfl) ⟨_, Try.func12, by rfl⟩ (tm := zgp) (gh := zb8) fun x y h => by obtain ⟨N, h⟩ := zy h; exact ⟨N, 400, (zsa N x.1 x.2.1 x.2.2).trans h⟩
noncomputable def zel : Nat -> Option Tmpl := fun cx => cond (Nat.beq cx 1) (some ⟨[], [], 46, [], ([.var (.list .i), J, J, .var .i] ++ jN 42), [], []⟩) <| none
theorem zpr (N : Nat) (a0 : (List Int)) : z56 (z41.mk' (z3h zdm) zel zb8) N 400 61 [(.list .i)] [.bool] a0 = zgg N a0 := by kernel_rfl
noncomputable def zbi : List (FuncId × Spec) := (61, ⟨[(.list .i)], [.bool], zat⟩) :: zdm
theorem zn7 : zt Try.prog (z01 zbi) := zb z0s z5y zx zpq (by kernel_rfl) ⟨_, Try.func61, by rfl⟩ (tm := zel) (gh := zb8) fun x y h => by obtain ⟨N, h⟩ := zy h; exact ⟨N, 400, (zpr N x).trans h⟩
noncomputable def zcp : Nat -> Option Tmpl := fun cx => cond (Nat.beq cx 26) (some ⟨[], [], 58, [.st .record], ([J, .fix (.ptr 0 0 0 0), J, .var .i, .fix (.ptr 0 0 0 1), J, J, J, .fix (.ptr 0 0 0 1), J, J, J, J, .fix (.ptr 0 0 0 2), J, J, J, J, .fix (.ptr 0 0 0 0)] ++ jN 39 ++ [.agg .record]), [], []⟩) <| none
theorem zn8 (N : Nat) (a0 : Record) : z56 (z41.mk' (z3h zbi) zcp zb8) N 400 43 [.record] [.bool] a0 = z98 N a0 := by kernel_rfl
noncomputable def z9x : List (FuncId × Spec) := (43, ⟨[.record], [.bool], z99⟩) :: zbi
theorem zkj : zt Try.prog (z01 z9x) := zb z0s z5y zx zn7 (by kernel_rfl) ⟨_, Try.func43, by rfl⟩ (tm := zcp) (gh := zb8) fun x y h => by obtain ⟨N, h⟩ := zy h; exact ⟨N, 400, (zn8 N x).trans h⟩
noncomputable def zgq : Nat -> Option Tmpl := fun cx => cond (Nat.beq cx 6) (some ⟨[], [], 28, [], ([.var .i, J, J, .var .str] ++ jN 24), [], []⟩) <| none
theorem zsb (N : Nat) (a0 : Int) : z56 (z41.mk' (z3h z9x) zgq zb8) N 400 76 [.i] [.str] a0 = zd6 N a0 := by kernel_rfl
noncomputable def zdn : List (FuncId × Spec) := (76, ⟨[.i], [.str], z9a⟩) :: z9x
theorem zps : zt Try.prog (z01 zdn) := zb z0s z5y zx zkj (by kernel_rfl) ⟨_, Try.func76, by rfl⟩ (tm := zgq) (gh := zb8) fun x y h => by obtain ⟨N, h⟩ := zy h; exact ⟨N, 400, (zsb N x).trans h⟩
noncomputable def zem : Nat -> Option Tmpl := fun cx => cond (Nat.beq cx 1) (some ⟨[], [], 27, [], ([.var (.list .i), J, J, J, .var .str, .var .i] ++ jN 21), [], []⟩) <| none
theorem zpt (N : Nat) (a0 : (List Int)) : z56 (z41.mk' (z3h zdn) zem zb8) N 400 62 [(.list .i)] [.str, .i] a0 = zau N a0 := by kernel_rfl
noncomputable def zbj : List (FuncId × Spec) := (62, ⟨[(.list .i)], [.str, .i], z4t⟩) :: zdn
theorem zn9 : zt Try.prog (z01 zbj) := zb z0s z5y zx zps (by kernel_rfl) ⟨_, Try.func62, by rfl⟩ (tm := zem) (gh := zb8) fun x y h => by obtain ⟨N, h⟩ := zy h; exact ⟨N, 400, (zpt N x).trans h⟩
noncomputable def zen : Nat -> Option Tmpl := fun cx => cond (Nat.beq cx 1) (some ⟨[.tmp 4 .i], [(2, .i)], 54, [.st .record, .blk .i 0 false, .dead, .blk .i 0 true], ([J, .fix (.ptr 0 0 0 0), J, .fix (.bref 1 0), .fix (.bref 3 0), .var .i] ++ jN 6 ++ [.fix (.ptr 0 0 0 0), J, .fix (.ptr 0 0 0 1), J, .fix (.bref 1 0)] ++ jN 37 ++ [.agg .record, .var (.list .i), .var (.list .i)]), [], []⟩) <| none
theorem zpu (N : Nat) (a0 : Record) : z56 (z41.mk' (z3h zbj) zen zb8) N 400 44 [.record] [.str] a0 = zgh N a0 := by kernel_rfl
noncomputable def zbk : List (FuncId × Spec) := (44, ⟨[.record], [.str], zav⟩) :: zbj
theorem zna : zt Try.prog (z01 zbk) := zb z0s z5y zx zn9 (by kernel_rfl) ⟨_, Try.func44, by rfl⟩ (tm := zen) (gh := zb8) fun x y h => by obtain ⟨N, h⟩ := zy h; exact ⟨N, 400, (zpu N x).trans h⟩
theorem znb (N : Nat) (a0 : Int) : z56 (z41.mk' (z3h zbk) zb7 zb8) N 400 45 [.i] [.str] a0 = z9b a0 := by kernel_rfl
noncomputable def z9y : List (FuncId × Spec) := (45, ⟨[.i], [.str], z5h⟩) :: zbk
theorem zkk : zt Try.prog (z01 z9y) := zb z0s z5y zx zna (by kernel_rfl) ⟨_, Try.func45, by rfl⟩ (tm := zb7) (gh := zb8) fun x y h => ⟨0, 400, (znb 0 x).trans h⟩
theorem zpv (N : Nat) (a0 : Int) : z56 (z41.mk' (z3h z9y) zb7 zb8) N 400 63 [.i] [.i] a0 = zaw a0 := by kernel_rfl
noncomputable def zbl : List (FuncId × Spec) := (63, ⟨[.i], [.i], z7a⟩) :: z9y
theorem znc : zt Try.prog (z01 zbl) := zb z0s z5y zx zkk (by kernel_rfl) ⟨_, Try.func63, by rfl⟩ (tm := zb7) (gh := zb8) fun x y h => ⟨0, 400, (zpv 0 x).trans h⟩
noncomputable def zgr : Nat -> Option Tmpl := fun cx => cond (Nat.beq cx 1) (some ⟨[], [], 26, [], ([.var .str, J, J, .var .i, .var .i] ++ jN 21), [], []⟩) <| cond (Nat.beq cx 29) (some ⟨[], [], 26, [], ([.var .str, J, J, .var .i, .var .i, .var .i] ++ jN 20), [], []⟩) <| none
theorem zsc (N : Nat) (a0 : Str) : z56 (z41.mk' (z3h zbl) zgr zb8) N 400 46 [.str] [.i] a0 = zj0 N a0 := by kernel_rfl
noncomputable def zdo : List (FuncId × Spec) := (46, ⟨[.str], [.i], zd7⟩) :: zbl
theorem zpw : zt Try.prog (z01 zdo) := zb z0s z5y zx znc (by kernel_rfl) ⟨_, Try.func46, by rfl⟩ (tm := zgr) (gh := zb8) fun x y h => by obtain ⟨N, h⟩ := zy h; exact ⟨N, 400, (zsc N x).trans h⟩
theorem zkl (N : Nat) (a0 : Record) (a1 : Str) : z56 (z41.mk' (z3h zdo) zb7 zb8) N 400 34 [.record, .str] [.str, .i] (a0, a1) = z4j a0 a1 := by kernel_rfl
noncomputable def z8c : List (FuncId × Spec) := (34, ⟨[.record, .str], [.str, .i], z81⟩) :: zdo
theorem zji : zt Try.prog (z01 z8c) := zb z0s z5y zx zpw (by kernel_rfl) ⟨_, Try.func34, by rfl⟩ (tm := zb7) (gh := zb8) fun x y h => ⟨0, 400, (zkl 0 x.1 x.2).trans h⟩
theorem zpx (N : Nat) (a0 : Write) : z56 (z41.mk' (z3h z8c) zb7 zb8) N 400 22 [.write] [.page, .i] a0 = z7c a0 := by kernel_rfl
noncomputable def zbm : List (FuncId × Spec) := (22, ⟨[.write], [.page, .i], z7d⟩) :: z8c
theorem znd : zt Try.prog (z01 zbm) := zb z0s z5y zx zji (by kernel_rfl) ⟨_, Try.func22, by rfl⟩ (tm := zb7) (gh := zb8) fun x y h => ⟨0, 400, (zpx 0 x).trans h⟩
noncomputable def zeo : Nat -> Option Tmpl := fun cx => cond (Nat.beq cx 1365) (some ⟨[.cell 2 0 2 .i, .cell 2 0 3 .i], [(4, .i), (5, .i)], 55, [.raw 1 1, .raw 4 1, .raw 4 1, .raw 1 1, .dead, .dead, .blk .i 0 true, .blk .i 0 true], ([J, .fix (.ptr 0 0 0 0), .fix (.ptr 1 0 0 0), .fix (.ptr 2 0 0 0), .fix (.ptr 3 0 0 0), .fix (.fn 36 [] [(.ptr 3 0 0 0), (.ptr 0 0 0 0)]), .var .i, .var .i, .fix (.fn 36 [] [(.ptr 3 0 0 0), (.ptr 0 0 0 0)]), .fix (.fn 36 [] [(.ptr 3 0 0 0), (.ptr 0 0 0 0)]), J, J, .fix (.ptr 2 0 0 0), .fix (.fn 36 [] [(.ptr 3 0 0 0), (.ptr 0 0 0 0)]), J, .fix (.fn 36 [] [(.ptr 3 0 0 0), (.ptr 0 0 0 0)]), J, J, J, .fix (.ptr 2 0 0 1), .fix (.fn 36 [] [(.ptr 3 0 0 0), (.ptr 0 0 0 0)]), J, .fix (.fn 36 [] [(.ptr 3 0 0 0), (.ptr 0 0 0 0)])] ++ jN 32 ++ [.var (.list (.int .u16)), J, J, J, J, .var .i, .var .i, .fix (.bref 6 0), .fix (.bref 7 0), .var .i, .var (.list .i), .var (.list .i)]), [], []⟩) <| cond (Nat.beq cx 1366) (some ⟨[.cell 2 0 2 .i, .cell 2 0 3 .i], [(4, .i), (5, .i)], 55, [.raw 1 1, .raw 4 1, .raw 4 1, .raw 1 1, .dead, .dead, .blk .i 0 true, .blk .i 0 true], ([J, .fix (.ptr 0 0 0 0), .fix (.ptr 1 0 0 0), .fix (.ptr 2 0 0 0), .fix (.ptr 3 0 0 0), .fix (.fn 36 [] [(.ptr 3 0 0 0), (.ptr 0 0 0 0)]), .var .i, .var .i, .fix (.fn 36 [] [(.ptr 3 0 0 0), (.ptr 0 0 0 0)]), .fix (.fn 36 [] [(.ptr 3 0 0 0), (.ptr 0 0 0 0)]), J, J, .fix (.ptr 2 0 0 0), .fix (.fn 36 [] [(.ptr 3 0 0 0), (.ptr 0 0 0 0)]), J, .fix (.fn 36 [] [(.ptr 3 0 0 0), (.ptr 0 0 0 0)]), J, J, J, .fix (.ptr 2 0 0 1), .fix (.fn 36 [] [(.ptr 3 0 0 0), (.ptr 0 0 0 0)]), J, .fix (.fn 36 [] [(.ptr 3 0 0 0), (.ptr 0 0 0 0)])] ++ jN 32 ++ [.var (.list (.int .u16)), J, J, J, J, .var .i, .var .i, .fix (.bref 6 0), .fix (.bref 7 0), .var .i, .var (.list .i), .var (.list .i)]), [], []⟩) <| cond (Nat.beq cx 1369) (some ⟨[.cell 2 0 2 .i, .cell 2 0 3 .i], [(4, .i), (5, .i)], 55, [.raw 1 1, .raw 4 1, .raw 4 1, .raw 1 1, .dead, .dead, .blk .i 0 true, .blk .i 0 true], ([J, .fix (.ptr 0 0 0 0), .fix (.ptr 1 0 0 0), .fix (.ptr 2 0 0 0), .fix (.ptr 3 0 0 0), .fix (.fn 36 [] [(.ptr 3 0 0 0), (.ptr 0 0 0 0)]), .var .i, .var .i, .fix (.fn 36 [] [(.ptr 3 0 0 0), (.ptr 0 0 0 0)]), .fix (.fn 36 [] [(.ptr 3 0 0 0), (.ptr 0 0 0 0)]), J, J, .fix (.ptr 2 0 0 0), .fix (.fn 36 [] [(.ptr 3 0 0 0), (.ptr 0 0 0 0)]), J, .fix (.fn 36 [] [(.ptr 3 0 0 0), (.ptr 0 0 0 0)]), J, J, J, .fix (.ptr 2 0 0 1), .fix (.fn 36 [] [(.ptr 3 0 0 0), (.ptr 0 0 0 0)]), J, .fix (.fn 36 [] [(.ptr 3 0 0 0), (.ptr 0 0 0 0)])] ++ jN 32 ++ [.var (.list (.int .u16)), J, J, J, J, .var .i, .var .i, .fix (.bref 6 0), .fix (.bref 7 0), .var .i, .var (.list .i), .var (.list .i)]), [], []⟩) <| cond (Nat.beq cx 1370) (some ⟨[.cell 2 0 2 .i, .cell 2 0 3 .i], [(4, .i), (5, .i)], 55, [.raw 1 1, .raw 4 1, .raw 4 1, .raw 1 1, .dead, .dead, .blk .i 0 true, .blk .i 0 true], ([J, .fix (.ptr 0 0 0 0), .fix (.ptr 1 0 0 0), .fix (.ptr 2 0 0 0), .fix (.ptr 3 0 0 0), .fix (.fn 36 [] [(.ptr 3 0 0 0), (.ptr 0 0 0 0)]), .var .i, .var .i, .fix (.fn 36 [] [(.ptr 3 0 0 0), (.ptr 0 0 0 0)]), .fix (.fn 36 [] [(.ptr 3 0 0 0), (.ptr 0 0 0 0)]), J, J, .fix (.ptr 2 0 0 0), .fix (.fn 36 [] [(.ptr 3 0 0 0), (.ptr 0 0 0 0)]), J, .fix (.fn 36 [] [(.ptr 3 0 0 0), (.ptr 0 0 0 0)]), J, J, J, .fix (.ptr 2 0 0 1), .fix (.fn 36 [] [(.ptr 3 0 0 0), (.ptr 0 0 0 0)]), J, .fix (.fn 36 [] [(.ptr 3 0 0 0), (.ptr 0 0 0 0)])] ++ jN 32 ++ [.var (.list (.int .u16)), J, J, J, J, .var .i, .var .i, .fix (.bref 6 0), .fix (.bref 7 0), .var .i, .var (.list .i), .var (.list .i)]), [], []⟩) <| cond (Nat.beq cx 1381) (some ⟨[.cell 2 0 2 .i, .cell 2 0 3 .i], [(4, .i), (5, .i)], 55, [.raw 1 1, .raw 4 1, .raw 4 1, .raw 1 1, .dead, .dead, .blk .i 0 true, .blk .i 0 true], ([J, .fix (.ptr 0 0 0 0), .fix (.ptr 1 0 0 0), .fix (.ptr 2 0 0 0), .fix (.ptr 3 0 0 0), .fix (.fn 36 [] [(.ptr 3 0 0 0), (.ptr 0 0 0 0)]), .var .i, .var .i, .fix (.fn 36 [] [(.ptr 3 0 0 0), (.ptr 0 0 0 0)]), .fix (.fn 36 [] [(.ptr 3 0 0 0), (.ptr 0 0 0 0)]), J, J, .fix (.ptr 2 0 0 0), .fix (.fn 36 [] [(.ptr 3 0 0 0), (.ptr 0 0 0 0)]), J, .fix (.fn 36 [] [(.ptr 3 0 0 0), (.ptr 0 0 0 0)]), J, J, J, .fix (.ptr 2 0 0 1), .fix (.fn 36 [] [(.ptr 3 0 0 0), (.ptr 0 0 0 0)]), J, .fix (.fn 36 [] [(.ptr 3 0 0 0), (.ptr 0 0 0 0)])] ++ jN 32 ++ [.var (.list (.int .u16)), J, J, J, J, .var .i, .var .i, .fix (.bref 6 0), .fix (.bref 7 0), .var .i, .var (.list .i), .var (.list .i)]), [], []⟩) <| cond (Nat.beq cx 1382) (some ⟨[.cell 2 0 2 .i, .cell 2 0 3 .i], [(4, .i), (5, .i)], 55, [.raw 1 1, .raw 4 1, .raw 4 1, .raw 1 1, .dead, .dead, .blk .i 0 true, .blk .i 0 true], ([J, .fix (.ptr 0 0 0 0), .fix (.ptr 1 0 0 0), .fix (.ptr 2 0 0 0), .fix (.ptr 3 0 0 0), .fix (.fn 36 [] [(.ptr 3 0 0 0), (.ptr 0 0 0 0)]), .var .i, .var .i, .fix (.fn 36 [] [(.ptr 3 0 0 0), (.ptr 0 0 0 0)]), .fix (.fn 36 [] [(.ptr 3 0 0 0), (.ptr 0 0 0 0)]), J, J, .fix (.ptr 2 0 0 0), .fix (.fn 36 [] [(.ptr 3 0 0 0), (.ptr 0 0 0 0)]), J, .fix (.fn 36 [] [(.ptr 3 0 0 0), (.ptr 0 0 0 0)]), J, J, J, .fix (.ptr 2 0 0 1), .fix (.fn 36 [] [(.ptr 3 0 0 0), (.ptr 0 0 0 0)]), J, .fix (.fn 36 [] [(.ptr 3 0 0 0), (.ptr 0 0 0 0)])] ++ jN 32 ++ [.var (.list (.int .u16)), J, J, J, J, .var .i, .var .i, .fix (.bref 6 0), .fix (.bref 7 0), .var .i, .var (.list .i), .var (.list .i)]), [], []⟩) <| cond (Nat.beq cx 1385) (some ⟨[.cell 2 0 2 .i, .cell 2 0 3 .i], [(4, .i), (5, .i)], 55, [.raw 1 1, .raw 4 1, .raw 4 1, .raw 1 1, .dead, .dead, .blk .i 0 true, .blk .i 0 true], ([J, .fix (.ptr 0 0 0 0), .fix (.ptr 1 0 0 0), .fix (.ptr 2 0 0 0), .fix (.ptr 3 0 0 0), .fix (.fn 36 [] [(.ptr 3 0 0 0), (.ptr 0 0 0 0)]), .var .i, .var .i, .fix (.fn 36 [] [(.ptr 3 0 0 0), (.ptr 0 0 0 0)]), .fix (.fn 36 [] [(.ptr 3 0 0 0), (.ptr 0 0 0 0)]), J, J, .fix (.ptr 2 0 0 0), .fix (.fn 36 [] [(.ptr 3 0 0 0), (.ptr 0 0 0 0)]), J, .fix (.fn 36 [] [(.ptr 3 0 0 0), (.ptr 0 0 0 0)]), J, J, J, .fix (.ptr 2 0 0 1), .fix (.fn 36 [] [(.ptr 3 0 0 0), (.ptr 0 0 0 0)]), J, .fix (.fn 36 [] [(.ptr 3 0 0 0), (.ptr 0 0 0 0)])] ++ jN 32 ++ [.var (.list (.int .u16)), J, J, J, J, .var .i, .var .i, .fix (.bref 6 0), .fix (.bref 7 0), .var .i, .var (.list .i), .var (.list .i)]), [], []⟩) <| cond (Nat.beq cx 1386) (some ⟨[.cell 2 0 2 .i, .cell 2 0 3 .i], [(4, .i), (5, .i)], 55, [.raw 1 1, .raw 4 1, .raw 4 1, .raw 1 1, .dead, .dead, .blk .i 0 true, .blk .i 0 true], ([J, .fix (.ptr 0 0 0 0), .fix (.ptr 1 0 0 0), .fix (.ptr 2 0 0 0), .fix (.ptr 3 0 0 0), .fix (.fn 36 [] [(.ptr 3 0 0 0), (.ptr 0 0 0 0)]), .var .i, .var .i, .fix (.fn 36 [] [(.ptr 3 0 0 0), (.ptr 0 0 0 0)]), .fix (.fn 36 [] [(.ptr 3 0 0 0), (.ptr 0 0 0 0)]), J, J, .fix (.ptr 2 0 0 0), .fix (.fn 36 [] [(.ptr 3 0 0 0), (.ptr 0 0 0 0)]), J, .fix (.fn 36 [] [(.ptr 3 0 0 0), (.ptr 0 0 0 0)]), J, J, J, .fix (.ptr 2 0 0 1), .fix (.fn 36 [] [(.ptr 3 0 0 0), (.ptr 0 0 0 0)]), J, .fix (.fn 36 [] [(.ptr 3 0 0 0), (.ptr 0 0 0 0)])] ++ jN 32 ++ [.var (.list (.int .u16)), J, J, J, J, .var .i, .var .i, .fix (.bref 6 0), .fix (.bref 7 0), .var .i, .var (.list .i), .var (.list .i)]), [], []⟩) <| cond (Nat.beq cx 1429) (some ⟨[.cell 2 0 2 .i, .cell 2 0 3 .i], [(4, .i), (5, .i)], 55, [.raw 1 1, .raw 4 1, .raw 4 1, .raw 1 1, .dead, .dead, .blk .i 0 true, .blk .i 0 true], ([J, .fix (.ptr 0 0 0 0), .fix (.ptr 1 0 0 0), .fix (.ptr 2 0 0 0), .fix (.ptr 3 0 0 0), .fix (.fn 36 [] [(.ptr 3 0 0 0), (.ptr 0 0 0 0)]), .var .i, .var .i, .fix (.fn 36 [] [(.ptr 3 0 0 0), (.ptr 0 0 0 0)]), .fix (.fn 36 [] [(.ptr 3 0 0 0), (.ptr 0 0 0 0)]), J, J, .fix (.ptr 2 0 0 0), .fix (.fn 36 [] [(.ptr 3 0 0 0), (.ptr 0 0 0 0)]), J, .fix (.fn 36 [] [(.ptr 3 0 0 0), (.ptr 0 0 0 0)]), J, J, J, .fix (.ptr 2 0 0 1), .fix (.fn 36 [] [(.ptr 3 0 0 0), (.ptr 0 0 0 0)]), J, .fix (.fn 36 [] [(.ptr 3 0 0 0), (.ptr 0 0 0 0)])] ++ jN 32 ++ [.var (.list (.int .u16)), J, J, J, J, .var .i, .var .i, .fix (.bref 6 0), .fix (.bref 7 0), .var .i, .var (.list .i), .var (.list .i)]), [], []⟩) <| cond (Nat.beq cx 1430) (some ⟨[.cell 2 0 2 .i, .cell 2 0 3 .i], [(4, .i), (5, .i)], 55, [.raw 1 1, .raw 4 1, .raw 4 1, .raw 1 1, .dead, .dead, .blk .i 0 true, .blk .i 0 true], ([J, .fix (.ptr 0 0 0 0), .fix (.ptr 1 0 0 0), .fix (.ptr 2 0 0 0), .fix (.ptr 3 0 0 0), .fix (.fn 36 [] [(.ptr 3 0 0 0), (.ptr 0 0 0 0)]), .var .i, .var .i, .fix (.fn 36 [] [(.ptr 3 0 0 0), (.ptr 0 0 0 0)]), .fix (.fn 36 [] [(.ptr 3 0 0 0), (.ptr 0 0 0 0)]), J, J, .fix (.ptr 2 0 0 0), .fix (.fn 36 [] [(.ptr 3 0 0 0), (.ptr 0 0 0 0)]), J, .fix (.fn 36 [] [(.ptr 3 0 0 0), (.ptr 0 0 0 0)]), J, J, J, .fix (.ptr 2 0 0 1), .fix (.fn 36 [] [(.ptr 3 0 0 0), (.ptr 0 0 0 0)]), J, .fix (.fn 36 [] [(.ptr 3 0 0 0), (.ptr 0 0 0 0)])] ++ jN 32 ++ [.var (.list (.int .u16)), J, J, J, J, .var .i, .var .i, .fix (.bref 6 0), .fix (.bref 7 0), .var .i, .var (.list .i), .var (.list .i)]), [], []⟩) <| cond (Nat.beq cx 1433) (some ⟨[.cell 2 0 2 .i, .cell 2 0 3 .i], [(4, .i), (5, .i)], 55, [.raw 1 1, .raw 4 1, .raw 4 1, .raw 1 1, .dead, .dead, .blk .i 0 true, .blk .i 0 true], ([J, .fix (.ptr 0 0 0 0), .fix (.ptr 1 0 0 0), .fix (.ptr 2 0 0 0), .fix (.ptr 3 0 0 0), .fix (.fn 36 [] [(.ptr 3 0 0 0), (.ptr 0 0 0 0)]), .var .i, .var .i, .fix (.fn 36 [] [(.ptr 3 0 0 0), (.ptr 0 0 0 0)]), .fix (.fn 36 [] [(.ptr 3 0 0 0), (.ptr 0 0 0 0)]), J, J, .fix (.ptr 2 0 0 0), .fix (.fn 36 [] [(.ptr 3 0 0 0), (.ptr 0 0 0 0)]), J, .fix (.fn 36 [] [(.ptr 3 0 0 0), (.ptr 0 0 0 0)]), J, J, J, .fix (.ptr 2 0 0 1), .fix (.fn 36 [] [(.ptr 3 0 0 0), (.ptr 0 0 0 0)]), J, .fix (.fn 36 [] [(.ptr 3 0 0 0), (.ptr 0 0 0 0)])] ++ jN 32 ++ [.var (.list (.int .u16)), J, J, J, J, .var .i, .var .i, .fix (.bref 6 0), .fix (.bref 7 0), .var .i, .var (.list .i), .var (.list .i)]), [], []⟩) <| cond (Nat.beq cx 1434) (some ⟨[.cell 2 0 2 .i, .cell 2 0 3 .i], [(4, .i), (5, .i)], 55, [.raw 1 1, .raw 4 1, .raw 4 1, .raw 1 1, .dead, .dead, .blk .i 0 true, .blk .i 0 true], ([J, .fix (.ptr 0 0 0 0), .fix (.ptr 1 0 0 0), .fix (.ptr 2 0 0 0), .fix (.ptr 3 0 0 0), .fix (.fn 36 [] [(.ptr 3 0 0 0), (.ptr 0 0 0 0)]), .var .i, .var .i, .fix (.fn 36 [] [(.ptr 3 0 0 0), (.ptr 0 0 0 0)]), .fix (.fn 36 [] [(.ptr 3 0 0 0), (.ptr 0 0 0 0)]), J, J, .fix (.ptr 2 0 0 0), .fix (.fn 36 [] [(.ptr 3 0 0 0), (.ptr 0 0 0 0)]), J, .fix (.fn 36 [] [(.ptr 3 0 0 0), (.ptr 0 0 0 0)]), J, J, J, .fix (.ptr 2 0 0 1), .fix (.fn 36 [] [(.ptr 3 0 0 0), (.ptr 0 0 0 0)]), J, .fix (.fn 36 [] [(.ptr 3 0 0 0), (.ptr 0 0 0 0)])] ++ jN 32 ++ [.var (.list (.int .u16)), J, J, J, J, .var .i, .var .i, .fix (.bref 6 0), .fix (.bref 7 0), .var .i, .var (.list .i), .var (.list .i)]), [], []⟩) <| cond (Nat.beq cx 1445) (some ⟨[.cell 2 0 2 .i, .cell 2 0 3 .i], [(4, .i), (5, .i)], 55, [.raw 1 1, .raw 4 1, .raw 4 1, .raw 1 1, .dead, .dead, .blk .i 0 true, .blk .i 0 true], ([J, .fix (.ptr 0 0 0 0), .fix (.ptr 1 0 0 0), .fix (.ptr 2 0 0 0), .fix (.ptr 3 0 0 0), .fix (.fn 36 [] [(.ptr 3 0 0 0), (.ptr 0 0 0 0)]), .var .i, .var .i, .fix (.fn 36 [] [(.ptr 3 0 0 0), (.ptr 0 0 0 0)]), .fix (.fn 36 [] [(.ptr 3 0 0 0), (.ptr 0 0 0 0)]), J, J, .fix (.ptr 2 0 0 0), .fix (.fn 36 [] [(.ptr 3 0 0 0), (.ptr 0 0 0 0)]), J, .fix (.fn 36 [] [(.ptr 3 0 0 0), (.ptr 0 0 0 0)]), J, J, J, .fix (.ptr 2 0 0 1), .fix (.fn 36 [] [(.ptr 3 0 0 0), (.ptr 0 0 0 0)]), J, .fix (.fn 36 [] [(.ptr 3 0 0 0), (.ptr 0 0 0 0)])] ++ jN 32 ++ [.var (.list (.int .u16)), J, J, J, J, .var .i, .var .i, .fix (.bref 6 0), .fix (.bref 7 0), .var .i, .var (.list .i), .var (.list .i)]), [], []⟩) <| cond (Nat.beq cx 1446) (some ⟨[.cell 2 0 2 .i, .cell 2 0 3 .i], [(4, .i), (5, .i)], 55, [.raw 1 1, .raw 4 1, .raw 4 1, .raw 1 1, .dead, .dead, .blk .i 0 true, .blk .i 0 true], ([J, .fix (.ptr 0 0 0 0), .fix (.ptr 1 0 0 0), .fix (.ptr 2 0 0 0), .fix (.ptr 3 0 0 0), .fix (.fn 36 [] [(.ptr 3 0 0 0), (.ptr 0 0 0 0)]), .var .i, .var .i, .fix (.fn 36 [] [(.ptr 3 0 0 0), (.ptr 0 0 0 0)]), .fix (.fn 36 [] [(.ptr 3 0 0 0), (.ptr 0 0 0 0)]), J, J, .fix (.ptr 2 0 0 0), .fix (.fn 36 [] [(.ptr 3 0 0 0), (.ptr 0 0 0 0)]), J, .fix (.fn 36 [] [(.ptr 3 0 0 0), (.ptr 0 0 0 0)]), J, J, J, .fix (.ptr 2 0 0 1), .fix (.fn 36 [] [(.ptr 3 0 0 0), (.ptr 0 0 0 0)]), J, .fix (.fn 36 [] [(.ptr 3 0 0 0), (.ptr 0 0 0 0)])] ++ jN 32 ++ [.var (.list (.int .u16)), J, J, J, J, .var .i, .var .i, .fix (.bref 6 0), .fix (.bref 7 0), .var .i, .var (.list .i), .var (.list .i)]), [], []⟩) <| cond (Nat.beq cx 1449) (some ⟨[.cell 2 0 2 .i, .cell 2 0 3 .i], [(4, .i), (5, .i)], 55, [.raw 1 1, .raw 4 1, .raw 4 1, .raw 1 1, .dead, .dead, .blk .i 0 true, .blk .i 0 true], ([J, .fix (.ptr 0 0 0 0), .fix (.ptr 1 0 0 0), .fix (.ptr 2 0 0 0), .fix (.ptr 3 0 0 0), .fix (.fn 36 [] [(.ptr 3 0 0 0), (.ptr 0 0 0 0)]), .var .i, .var .i, .fix (.fn 36 [] [(.ptr 3 0 0 0), (.ptr 0 0 0 0)]), .fix (.fn 36 [] [(.ptr 3 0 0 0), (.ptr 0 0 0 0)]), J, J, .fix (.ptr 2 0 0 0), .fix (.fn 36 [] [(.ptr 3 0 0 0), (.ptr 0 0 0 0)]), J, .fix (.fn 36 [] [(.ptr 3 0 0 0), (.ptr 0 0 0 0)]), J, J, J, .fix (.ptr 2 0 0 1), .fix (.fn 36 [] [(.ptr 3 0 0 0), (.ptr 0 0 0 0)]), J, .fix (.fn 36 [] [(.ptr 3 0 0 0), (.ptr 0 0 0 0)])] ++ jN 32 ++ [.var (.list (.int .u16)), J, J, J, J, .var .i, .var .i, .fix (.bref 6 0), .fix (.bref 7 0), .var .i, .var (.list .i), .var (.list .i)]), [], []⟩) <| cond (Nat.beq cx 1450) (some ⟨[.cell 2 0 2 .i, .cell 2 0 3 .i], [(4, .i), (5, .i)], 55, [.raw 1 1, .raw 4 1, .raw 4 1, .raw 1 1, .dead, .dead, .blk .i 0 true, .blk .i 0 true], ([J, .fix (.ptr 0 0 0 0), .fix (.ptr 1 0 0 0), .fix (.ptr 2 0 0 0), .fix (.ptr 3 0 0 0), .fix (.fn 36 [] [(.ptr 3 0 0 0), (.ptr 0 0 0 0)]), .var .i, .var .i, .fix (.fn 36 [] [(.ptr 3 0 0 0), (.ptr 0 0 0 0)]), .fix (.fn 36 [] [(.ptr 3 0 0 0), (.ptr 0 0 0 0)]), J, J, .fix (.ptr 2 0 0 0), .fix (.fn 36 [] [(.ptr 3 0 0 0), (.ptr 0 0 0 0)]), J, .fix (.fn 36 [] [(.ptr 3 0 0 0), (.ptr 0 0 0 0)]), J, J, J, .fix (.ptr 2 0 0 1), .fix (.fn 36 [] [(.ptr 3 0 0 0), (.ptr 0 0 0 0)]), J, .fix (.fn 36 [] [(.ptr 3 0 0 0), (.ptr 0 0 0 0)])] ++ jN 32 ++ [.var (.list (.int .u16)), J, J, J, J, .var .i, .var .i, .fix (.bref 6 0), .fix (.bref 7 0), .var .i, .var (.list .i), .var (.list .i)]), [], []⟩) <| cond (Nat.beq cx 1621) (some ⟨[.cell 2 0 2 .i, .cell 2 0 3 .i], [(4, .i), (5, .i)], 55, [.raw 1 1, .raw 4 1, .raw 4 1, .raw 1 1, .dead, .dead, .blk .i 0 true, .blk .i 0 true], ([J, .fix (.ptr 0 0 0 0), .fix (.ptr 1 0 0 0), .fix (.ptr 2 0 0 0), .fix (.ptr 3 0 0 0), .fix (.fn 36 [] [(.ptr 3 0 0 0), (.ptr 0 0 0 0)]), .var .i, .var .i, .fix (.fn 36 [] [(.ptr 3 0 0 0), (.ptr 0 0 0 0)]), .fix (.fn 36 [] [(.ptr 3 0 0 0), (.ptr 0 0 0 0)]), J, J, .fix (.ptr 2 0 0 0), .fix (.fn 36 [] [(.ptr 3 0 0 0), (.ptr 0 0 0 0)]), J, .fix (.fn 36 [] [(.ptr 3 0 0 0), (.ptr 0 0 0 0)]), J, J, J, .fix (.ptr 2 0 0 1), .fix (.fn 36 [] [(.ptr 3 0 0 0), (.ptr 0 0 0 0)]), J, .fix (.fn 36 [] [(.ptr 3 0 0 0), (.ptr 0 0 0 0)])] ++ jN 32 ++ [.var (.list (.int .u16)), J, J, J, J, .var .i, .var .i, .fix (.bref 6 0), .fix (.bref 7 0), .var .i, .var (.list .i), .var (.list .i)]), [], []⟩) <| cond (Nat.beq cx 1622) (some ⟨[.cell 2 0 2 .i, .cell 2 0 3 .i], [(4, .i), (5, .i)], 55, [.raw 1 1, .raw 4 1, .raw 4 1, .raw 1 1, .dead, .dead, .blk .i 0 true, .blk .i 0 true], ([J, .fix (.ptr 0 0 0 0), .fix (.ptr 1 0 0 0), .fix (.ptr 2 0 0 0), .fix (.ptr 3 0 0 0), .fix (.fn 36 [] [(.ptr 3 0 0 0), (.ptr 0 0 0 0)]), .var .i, .var .i, .fix (.fn 36 [] [(.ptr 3 0 0 0), (.ptr 0 0 0 0)]), .fix (.fn 36 [] [(.ptr 3 0 0 0), (.ptr 0 0 0 0)]), J, J, .fix (.ptr 2 0 0 0), .fix (.fn 36 [] [(.ptr 3 0 0 0), (.ptr 0 0 0 0)]), J, .fix (.fn 36 [] [(.ptr 3 0 0 0), (.ptr 0 0 0 0)]), J, J, J, .fix (.ptr 2 0 0 1), .fix (.fn 36 [] [(.ptr 3 0 0 0), (.ptr 0 0 0 0)]), J, .fix (.fn 36 [] [(.ptr 3 0 0 0), (.ptr 0 0 0 0)])] ++ jN 32 ++ [.var (.list (.int .u16)), J, J, J, J, .var .i, .var .i, .fix (.bref 6 0), .fix (.bref 7 0), .var .i, .var (.list .i), .var (.list .i)]), [], []⟩) <| cond (Nat.beq cx 1625) (some ⟨[.cell 2 0 2 .i, .cell 2 0 3 .i], [(4, .i), (5, .i)], 55, [.raw 1 1, .raw 4 1, .raw 4 1, .raw 1 1, .dead, .dead, .blk .i 0 true, .blk .i 0 true], ([J, .fix (.ptr 0 0 0 0), .fix (.ptr 1 0 0 0), .fix (.ptr 2 0 0 0), .fix (.ptr 3 0 0 0), .fix (.fn 36 [] [(.ptr 3 0 0 0), (.ptr 0 0 0 0)]), .var .i, .var .i, .fix (.fn 36 [] [(.ptr 3 0 0 0), (.ptr 0 0 0 0)]), .fix (.fn 36 [] [(.ptr 3 0 0 0), (.ptr 0 0 0 0)]), J, J, .fix (.ptr 2 0 0 0), .fix (.fn 36 [] [(.ptr 3 0 0 0), (.ptr 0 0 0 0)]), J, .fix (.fn 36 [] [(.ptr 3 0 0 0), (.ptr 0 0 0 0)]), J, J, J, .fix (.ptr 2 0 0 1), .fix (.fn 36 [] [(.ptr 3 0 0 0), (.ptr 0 0 0 0)]), J, .fix (.fn 36 [] [(.ptr 3 0 0 0), (.ptr 0 0 0 0)])] ++ jN 32 ++ [.var (.list (.int .u16)), J, J, J, J, .var .i, .var .i, .fix (.bref 6 0), .fix (.bref 7 0), .var .i, .var (.list .i), .var (.list .i)]), [], []⟩) <| cond (Nat.beq cx 1626) (some ⟨[.cell 2 0 2 .i, .cell 2 0 3 .i], [(4, .i), (5, .i)], 55, [.raw 1 1, .raw 4 1, .raw 4 1, .raw 1 1, .dead, .dead, .blk .i 0 true, .blk .i 0 true], ([J, .fix (.ptr 0 0 0 0), .fix (.ptr 1 0 0 0), .fix (.ptr 2 0 0 0), .fix (.ptr 3 0 0 0), .fix (.fn 36 [] [(.ptr 3 0 0 0), (.ptr 0 0 0 0)]), .var .i, .var .i, .fix (.fn 36 [] [(.ptr 3 0 0 0), (.ptr 0 0 0 0)]), .fix (.fn 36 [] [(.ptr 3 0 0 0), (.ptr 0 0 0 0)]), J, J, .fix (.ptr 2 0 0 0), .fix (.fn 36 [] [(.ptr 3 0 0 0), (.ptr 0 0 0 0)]), J, .fix (.fn 36 [] [(.ptr 3 0 0 0), (.ptr 0 0 0 0)]), J, J, J, .fix (.ptr 2 0 0 1), .fix (.fn 36 [] [(.ptr 3 0 0 0), (.ptr 0 0 0 0)]), J, .fix (.fn 36 [] [(.ptr 3 0 0 0), (.ptr 0 0 0 0)])] ++ jN 32 ++ [.var (.list (.int .u16)), J, J, J, J, .var .i, .var .i, .fix (.bref 6 0), .fix (.bref 7 0), .var .i, .var (.list .i), .var (.list .i)]), [], []⟩) <| cond (Nat.beq cx 1637) (some ⟨[.cell 2 0 2 .i, .cell 2 0 3 .i], [(4, .i), (5, .i)], 55, [.raw 1 1, .raw 4 1, .raw 4 1, .raw 1 1, .dead, .dead, .blk .i 0 true, .blk .i 0 true], ([J, .fix (.ptr 0 0 0 0), .fix (.ptr 1 0 0 0), .fix (.ptr 2 0 0 0), .fix (.ptr 3 0 0 0), .fix (.fn 36 [] [(.ptr 3 0 0 0), (.ptr 0 0 0 0)]), .var .i, .var .i, .fix (.fn 36 [] [(.ptr 3 0 0 0), (.ptr 0 0 0 0)]), .fix (.fn 36 [] [(.ptr 3 0 0 0), (.ptr 0 0 0 0)]), J, J, .fix (.ptr 2 0 0 0), .fix (.fn 36 [] [(.ptr 3 0 0 0), (.ptr 0 0 0 0)]), J, .fix (.fn 36 [] [(.ptr 3 0 0 0), (.ptr 0 0 0 0)]), J, J, J, .fix (.ptr 2 0 0 1), .fix (.fn 36 [] [(.ptr 3 0 0 0), (.ptr 0 0 0 0)]), J, .fix (.fn 36 [] [(.ptr 3 0 0 0), (.ptr 0 0 0 0)])] ++ jN 32 ++ [.var (.list (.int .u16)), J, J, J, J, .var .i, .var .i, .fix (.bref 6 0), .fix (.bref 7 0), .var .i, .var (.list .i), .var (.list .i)]), [], []⟩) <| cond (Nat.beq cx 1638) (some ⟨[.cell 2 0 2 .i, .cell 2 0 3 .i], [(4, .i), (5, .i)], 55, [.raw 1 1, .raw 4 1, .raw 4 1, .raw 1 1, .dead, .dead, .blk .i 0 true, .blk .i 0 true], ([J, .fix (.ptr 0 0 0 0), .fix (.ptr 1 0 0 0), .fix (.ptr 2 0 0 0), .fix (.ptr 3 0 0 0), .fix (.fn 36 [] [(.ptr 3 0 0 0), (.ptr 0 0 0 0)]), .var .i, .var .i, .fix (.fn 36 [] [(.ptr 3 0 0 0), (.ptr 0 0 0 0)]), .fix (.fn 36 [] [(.ptr 3 0 0 0), (.ptr 0 0 0 0)]), J, J, .fix (.ptr 2 0 0 0), .fix (.fn 36 [] [(.ptr 3 0 0 0), (.ptr 0 0 0 0)]), J, .fix (.fn 36 [] [(.ptr 3 0 0 0), (.ptr 0 0 0 0)]), J, J, J, .fix (.ptr 2 0 0 1), .fix (.fn 36 [] [(.ptr 3 0 0 0), (.ptr 0 0 0 0)]), J, .fix (.fn 36 [] [(.ptr 3 0 0 0), (.ptr 0 0 0 0)])] ++ jN 32 ++ [.var (.list (.int .u16)), J, J, J, J, .var .i, .var .i, .fix (.bref 6 0), .fix (.bref 7 0), .var .i, .var (.list .i), .var (.list .i)]), [], []⟩) <| cond (Nat.beq cx 1641) (some ⟨[.cell 2 0 2 .i, .cell 2 0 3 .i], [(4, .i), (5, .i)], 55, [.raw 1 1, .raw 4 1, .raw 4 1, .raw 1 1, .dead, .dead, .blk .i 0 true, .blk .i 0 true], ([J, .fix (.ptr 0 0 0 0), .fix (.ptr 1 0 0 0), .fix (.ptr 2 0 0 0), .fix (.ptr 3 0 0 0), .fix (.fn 36 [] [(.ptr 3 0 0 0), (.ptr 0 0 0 0)]), .var .i, .var .i, .fix (.fn 36 [] [(.ptr 3 0 0 0), (.ptr 0 0 0 0)]), .fix (.fn 36 [] [(.ptr 3 0 0 0), (.ptr 0 0 0 0)]), J, J, .fix (.ptr 2 0 0 0), .fix (.fn 36 [] [(.ptr 3 0 0 0), (.ptr 0 0 0 0)]), J, .fix (.fn 36 [] [(.ptr 3 0 0 0), (.ptr 0 0 0 0)]), J, J, J, .fix (.ptr 2 0 0 1), .fix (.fn 36 [] [(.ptr 3 0 0 0), (.ptr 0 0 0 0)]), J, .fix (.fn 36 [] [(.ptr 3 0 0 0), (.ptr 0 0 0 0)])] ++ jN 32 ++ [.var (.list (.int .u16)), J, J, J, J, .var .i, .var .i, .fix (.bref 6 0), .fix (.bref 7 0), .var .i, .var (.list .i), .var (.list .i)]), [], []⟩) <| cond (Nat.beq cx 1642) (some ⟨[.cell 2 0 2 .i, .cell 2 0 3 .i], [(4, .i), (5, .i)], 55, [.raw 1 1, .raw 4 1, .raw 4 1, .raw 1 1, .dead, .dead, .blk .i 0 true, .blk .i 0 true], ([J, .fix (.ptr 0 0 0 0), .fix (.ptr 1 0 0 0), .fix (.ptr 2 0 0 0), .fix (.ptr 3 0 0 0), .fix (.fn 36 [] [(.ptr 3 0 0 0), (.ptr 0 0 0 0)]), .var .i, .var .i, .fix (.fn 36 [] [(.ptr 3 0 0 0), (.ptr 0 0 0 0)]), .fix (.fn 36 [] [(.ptr 3 0 0 0), (.ptr 0 0 0 0)]), J, J, .fix (.ptr 2 0 0 0), .fix (.fn 36 [] [(.ptr 3 0 0 0), (.ptr 0 0 0 0)]), J, .fix (.fn 36 [] [(.ptr 3 0 0 0), (.ptr 0 0 0 0)]), J, J, J, .fix (.ptr 2 0 0 1), .fix (.fn 36 [] [(.ptr 3 0 0 0), (.ptr 0 0 0 0)]), J, .fix (.fn 36 [] [(.ptr 3 0 0 0), (.ptr 0 0 0 0)])] ++ jN 32 ++ [.var (.list (.int .u16)), J, J, J, J, .var .i, .var .i, .fix (.bref 6 0), .fix (.bref 7 0), .var .i, .var (.list .i), .var (.list .i)]), [], []⟩) <| cond (Nat.beq cx 1685) (some ⟨[.cell 2 0 2 .i, .cell 2 0 3 .i], [(4, .i), (5, .i)], 55, [.raw 1 1, .raw 4 1, .raw 4 1, .raw 1 1, .dead, .dead, .blk .i 0 true, .blk .i 0 true], ([J, .fix (.ptr 0 0 0 0), .fix (.ptr 1 0 0 0), .fix (.ptr 2 0 0 0), .fix (.ptr 3 0 0 0), .fix (.fn 36 [] [(.ptr 3 0 0 0), (.ptr 0 0 0 0)]), .var .i, .var .i, .fix (.fn 36 [] [(.ptr 3 0 0 0), (.ptr 0 0 0 0)]), .fix (.fn 36 [] [(.ptr 3 0 0 0), (.ptr 0 0 0 0)]), J, J, .fix (.ptr 2 0 0 0), .fix (.fn 36 [] [(.ptr 3 0 0 0), (.ptr 0 0 0 0)]), J, .fix (.fn 36 [] [(.ptr 3 0 0 0), (.ptr 0 0 0 0)]), J, J, J, .fix (.ptr 2 0 0 1), .fix (.fn 36 [] [(.ptr 3 0 0 0), (.ptr 0 0 0 0)]), J, .fix (.fn 36 [] [(.ptr 3 0 0 0), (.ptr 0 0 0 0)])] ++ jN 32 ++ [.var (.list (.int .u16)), J, J, J, J, .var .i, .var .i, .fix (.bref 6 0), .fix (.bref 7 0), .var .i, .var (.list .i), .var (.list .i)]), [], []⟩) <| cond (Nat.beq cx 1686) (some ⟨[.cell 2 0 2 .i, .cell 2 0 3 .i], [(4, .i), (5, .i)], 55, [.raw 1 1, .raw 4 1, .raw 4 1, .raw 1 1, .dead, .dead, .blk .i 0 true, .blk .i 0 true], ([J, .fix (.ptr 0 0 0 0), .fix (.ptr 1 0 0 0), .fix (.ptr 2 0 0 0), .fix (.ptr 3 0 0 0), .fix (.fn 36 [] [(.ptr 3 0 0 0), (.ptr 0 0 0 0)]), .var .i, .var .i, .fix (.fn 36 [] [(.ptr 3 0 0 0), (.ptr 0 0 0 0)]), .fix (.fn 36 [] [(.ptr 3 0 0 0), (.ptr 0 0 0 0)]), J, J, .fix (.ptr 2 0 0 0), .fix (.fn 36 [] [(.ptr 3 0 0 0), (.ptr 0 0 0 0)]), J, .fix (.fn 36 [] [(.ptr 3 0 0 0), (.ptr 0 0 0 0)]), J, J, J, .fix (.ptr 2 0 0 1), .fix (.fn 36 [] [(.ptr 3 0 0 0), (.ptr 0 0 0 0)]), J, .fix (.fn 36 [] [(.ptr 3 0 0 0), (.ptr 0 0 0 0)])] ++ jN 32 ++ [.var (.list (.int .u16)), J, J, J, J, .var .i, .var .i, .fix (.bref 6 0), .fix (.bref 7 0), .var .i, .var (.list .i), .var (.list .i)]), [], []⟩) <| cond (Nat.beq cx 1689) (some ⟨[.cell 2 0 2 .i, .cell 2 0 3 .i], [(4, .i), (5, .i)], 55, [.raw 1 1, .raw 4 1, .raw 4 1, .raw 1 1, .dead, .dead, .blk .i 0 true, .blk .i 0 true], ([J, .fix (.ptr 0 0 0 0), .fix (.ptr 1 0 0 0), .fix (.ptr 2 0 0 0), .fix (.ptr 3 0 0 0), .fix (.fn 36 [] [(.ptr 3 0 0 0), (.ptr 0 0 0 0)]), .var .i, .var .i, .fix (.fn 36 [] [(.ptr 3 0 0 0), (.ptr 0 0 0 0)]), .fix (.fn 36 [] [(.ptr 3 0 0 0), (.ptr 0 0 0 0)]), J, J, .fix (.ptr 2 0 0 0), .fix (.fn 36 [] [(.ptr 3 0 0 0), (.ptr 0 0 0 0)]), J, .fix (.fn 36 [] [(.ptr 3 0 0 0), (.ptr 0 0 0 0)]), J, J, J, .fix (.ptr 2 0 0 1), .fix (.fn 36 [] [(.ptr 3 0 0 0), (.ptr 0 0 0 0)]), J, .fix (.fn 36 [] [(.ptr 3 0 0 0), (.ptr 0 0 0 0)])] ++ jN 32 ++ [.var (.list (.int .u16)), J, J, J, J, .var .i, .var .i, .fix (.bref 6 0), .fix (.bref 7 0), .var .i, .var (.list .i), .var (.list .i)]), [], []⟩) <| cond (Nat.beq cx 1690) (some ⟨[.cell 2 0 2 .i, .cell 2 0 3 .i], [(4, .i), (5, .i)], 55, [.raw 1 1, .raw 4 1, .raw 4 1, .raw 1 1, .dead, .dead, .blk .i 0 true, .blk .i 0 true], ([J, .fix (.ptr 0 0 0 0), .fix (.ptr 1 0 0 0), .fix (.ptr 2 0 0 0), .fix (.ptr 3 0 0 0), .fix (.fn 36 [] [(.ptr 3 0 0 0), (.ptr 0 0 0 0)]), .var .i, .var .i, .fix (.fn 36 [] [(.ptr 3 0 0 0), (.ptr 0 0 0 0)]), .fix (.fn 36 [] [(.ptr 3 0 0 0), (.ptr 0 0 0 0)]), J, J, .fix (.ptr 2 0 0 0), .fix (.fn 36 [] [(.ptr 3 0 0 0), (.ptr 0 0 0 0)]), J, .fix (.fn 36 [] [(.ptr 3 0 0 0), (.ptr 0 0 0 0)]), J, J, J, .fix (.ptr 2 0 0 1), .fix (.fn 36 [] [(.ptr 3 0 0 0), (.ptr 0 0 0 0)]), J, .fix (.fn 36 [] [(.ptr 3 0 0 0), (.ptr 0 0 0 0)])] ++ jN 32 ++ [.var (.list (.int .u16)), J, J, J, J, .var .i, .var .i, .fix (.bref 6 0), .fix (.bref 7 0), .var .i, .var (.list .i), .var (.list .i)]), [], []⟩) <| cond (Nat.beq cx 1701) (some ⟨[.cell 2 0 2 .i, .cell 2 0 3 .i], [(4, .i), (5, .i)], 55, [.raw 1 1, .raw 4 1, .raw 4 1, .raw 1 1, .dead, .dead, .blk .i 0 true, .blk .i 0 true], ([J, .fix (.ptr 0 0 0 0), .fix (.ptr 1 0 0 0), .fix (.ptr 2 0 0 0), .fix (.ptr 3 0 0 0), .fix (.fn 36 [] [(.ptr 3 0 0 0), (.ptr 0 0 0 0)]), .var .i, .var .i, .fix (.fn 36 [] [(.ptr 3 0 0 0), (.ptr 0 0 0 0)]), .fix (.fn 36 [] [(.ptr 3 0 0 0), (.ptr 0 0 0 0)]), J, J, .fix (.ptr 2 0 0 0), .fix (.fn 36 [] [(.ptr 3 0 0 0), (.ptr 0 0 0 0)]), J, .fix (.fn 36 [] [(.ptr 3 0 0 0), (.ptr 0 0 0 0)]), J, J, J, .fix (.ptr 2 0 0 1), .fix (.fn 36 [] [(.ptr 3 0 0 0), (.ptr 0 0 0 0)]), J, .fix (.fn 36 [] [(.ptr 3 0 0 0), (.ptr 0 0 0 0)])] ++ jN 32 ++ [.var (.list (.int .u16)), J, J, J, J, .var .i, .var .i, .fix (.bref 6 0), .fix (.bref 7 0), .var .i, .var (.list .i), .var (.list .i)]), [], []⟩) <| cond (Nat.beq cx 1702) (some ⟨[.cell 2 0 2 .i, .cell 2 0 3 .i], [(4, .i), (5, .i)], 55, [.raw 1 1, .raw 4 1, .raw 4 1, .raw 1 1, .dead, .dead, .blk .i 0 true, .blk .i 0 true], ([J, .fix (.ptr 0 0 0 0), .fix (.ptr 1 0 0 0), .fix (.ptr 2 0 0 0), .fix (.ptr 3 0 0 0), .fix (.fn 36 [] [(.ptr 3 0 0 0), (.ptr 0 0 0 0)]), .var .i, .var .i, .fix (.fn 36 [] [(.ptr 3 0 0 0), (.ptr 0 0 0 0)]), .fix (.fn 36 [] [(.ptr 3 0 0 0), (.ptr 0 0 0 0)]), J, J, .fix (.ptr 2 0 0 0), .fix (.fn 36 [] [(.ptr 3 0 0 0), (.ptr 0 0 0 0)]), J, .fix (.fn 36 [] [(.ptr 3 0 0 0), (.ptr 0 0 0 0)]), J, J, J, .fix (.ptr 2 0 0 1), .fix (.fn 36 [] [(.ptr 3 0 0 0), (.ptr 0 0 0 0)]), J, .fix (.fn 36 [] [(.ptr 3 0 0 0), (.ptr 0 0 0 0)])] ++ jN 32 ++ [.var (.list (.int .u16)), J, J, J, J, .var .i, .var .i, .fix (.bref 6 0), .fix (.bref 7 0), .var .i, .var (.list .i), .var (.list .i)]), [], []⟩) <| cond (Nat.beq cx 1705) (some ⟨[.cell 2 0 2 .i, .cell 2 0 3 .i], [(4, .i), (5, .i)], 55, [.raw 1 1, .raw 4 1, .raw 4 1, .raw 1 1, .dead, .dead, .blk .i 0 true, .blk .i 0 true], ([J, .fix (.ptr 0 0 0 0), .fix (.ptr 1 0 0 0), .fix (.ptr 2 0 0 0), .fix (.ptr 3 0 0 0), .fix (.fn 36 [] [(.ptr 3 0 0 0), (.ptr 0 0 0 0)]), .var .i, .var .i, .fix (.fn 36 [] [(.ptr 3 0 0 0), (.ptr 0 0 0 0)]), .fix (.fn 36 [] [(.ptr 3 0 0 0), (.ptr 0 0 0 0)]), J, J, .fix (.ptr 2 0 0 0), .fix (.fn 36 [] [(.ptr 3 0 0 0), (.ptr 0 0 0 0)]), J, .fix (.fn 36 [] [(.ptr 3 0 0 0), (.ptr 0 0 0 0)]), J, J, J, .fix (.ptr 2 0 0 1), .fix (.fn 36 [] [(.ptr 3 0 0 0), (.ptr 0 0 0 0)]), J, .fix (.fn 36 [] [(.ptr 3 0 0 0), (.ptr 0 0 0 0)])] ++ jN 32 ++ [.var (.list (.int .u16)), J, J, J, J, .var .i, .var .i, .fix (.bref 6 0), .fix (.bref 7 0), .var .i, .var (.list .i), .var (.list .i)]), [], []⟩) <| cond (Nat.beq cx 1706) (some ⟨[.cell 2 0 2 .i, .cell 2 0 3 .i], [(4, .i), (5, .i)], 55, [.raw 1 1, .raw 4 1, .raw 4 1, .raw 1 1, .dead, .dead, .blk .i 0 true, .blk .i 0 true], ([J, .fix (.ptr 0 0 0 0), .fix (.ptr 1 0 0 0), .fix (.ptr 2 0 0 0), .fix (.ptr 3 0 0 0), .fix (.fn 36 [] [(.ptr 3 0 0 0), (.ptr 0 0 0 0)]), .var .i, .var .i, .fix (.fn 36 [] [(.ptr 3 0 0 0), (.ptr 0 0 0 0)]), .fix (.fn 36 [] [(.ptr 3 0 0 0), (.ptr 0 0 0 0)]), J, J, .fix (.ptr 2 0 0 0), .fix (.fn 36 [] [(.ptr 3 0 0 0), (.ptr 0 0 0 0)]), J, .fix (.fn 36 [] [(.ptr 3 0 0 0), (.ptr 0 0 0 0)]), J, J, J, .fix (.ptr 2 0 0 1), .fix (.fn 36 [] [(.ptr 3 0 0 0), (.ptr 0 0 0 0)]), J, .fix (.fn 36 [] [(.ptr 3 0 0 0), (.ptr 0 0 0 0)])] ++ jN 32 ++ [.var (.list (.int .u16)), J, J, J, J, .var .i, .var .i, .fix (.bref 6 0), .fix (.bref 7 0), .var .i, .var (.list .i), .var (.list .i)]), [], []⟩) <| none
theorem zpy (N : Nat) (a0 : (List Int)) : z56 (z41.mk' (z3h zbm) zeo zb8) N 400 27 [(.list (.int .u16))] [.record] a0 = zax N a0 := by kernel_rfl
noncomputable def zbn : List (FuncId × Spec) := (27, ⟨[(.list (.int .u16))], [.record], zay⟩) :: zbm
theorem zne : zt Try.prog (z01 zbn) := zb z0s z5y zx znd (by kernel_rfl) ⟨_, Try.func27, by rfl⟩ (tm := zeo) (gh := zb8) fun x y h => by obtain ⟨N, h⟩ := zy h; exact ⟨N, 400, (zpy N x).trans h⟩
theorem zpz (N : Nat) (a0 : Int) (a1 : (List Int)) : z56 (z41.mk' (z3h zbn) zb7 zb8) N 400 13 [.i, (.list (.int .u16))] [.page] (a0, a1) = z7e a0 a1 := by kernel_rfl
noncomputable def zbo : List (FuncId × Spec) := (13, ⟨[.i, (.list (.int .u16))], [.page], z7f⟩) :: zbn
theorem znf : zt Try.prog (z01 zbo) := zb z0s z5y zx zne (by kernel_rfl) ⟨_, Try.func13, by rfl⟩ (tm := zb7) (gh := zb8) fun x y h => ⟨0, 400, (zpz 0 x.1 x.2).trans h⟩
noncomputable def zcq : Nat -> Option Tmpl := fun cx => cond (Nat.beq cx 5) (some ⟨[.tmp 3 .block], [(5, .block)], 29, [.raw 4 1, .raw 4 1, .raw 4 1, .st .chip, .raw 4 1, .dead, .nst true 0 true], ([J, .fix (.ptr 3 0 0 0), .fix (.ptr 4 0 0 0), .fix (.bref 6 0), .var .i] ++ jN 36 ++ [.agg .chip, J, J, J, J, .var (.list .block)]), [.nest 6 true], [.abs 6]⟩) <| cond (Nat.beq cx 26) (some ⟨[.tmp 3 .block], [(5, .block)], 29, [.raw 4 1, .st .fate, .raw 4 1, .st .chip, .raw 4 1, .dead, .nst true 0 true], ([J, .fix (.ptr 3 0 0 0), .fix (.ptr 4 0 0 0), .fix (.bref 6 0), .var .i] ++ jN 28 ++ [.agg .fate, J, J, J, J, .agg .chip, J, J, J, J, .var (.list .block)]), [.nest 6 true], [.abs 6]⟩) <| cond (Nat.beq cx 1722) (some ⟨[], [], 112, [.raw 4 1, .st .fate, .raw 4 1, .raw 4 1, .raw 4 1, .dead, .nst true 0 false, .raw 4 1], ([J, J, J, .fix (.ptr 0 0 0 0), J, .fix (.ptr 1 0 0 0), .fix (.ptr 2 0 0 0), J, .fix (.ptr 7 0 0 0), .pt 6 0 0, .var .i, .fix (.ptr 0 0 0 2)] ++ jN 7 ++ [.fix (.ptr 0 0 0 0), J, J, J, J, J, .fix (.ptr 0 0 0 0)] ++ jN 7 ++ [.fix (.ptr 1 0 0 0), J, J, J, J, .fix (.ptr 1 0 0 0)] ++ jN 9 ++ [.fix (.ptr 7 0 0 3), J, J, .fix (.ptr 7 0 0 3), .fix (.ptr 7 0 0 0), .fix (.bref 6 0), J, J, .fix (.ptr 1 0 0 0)] ++ jN 59 ++ [.agg .fate, J, J, J, J, .fix (.bref 6 0), J, J, J, .fix (.bref 6 0), J, J, J, .var (.list .block), .fix (.bref 6 0), .var .bool, .var .bool, .var .i]), [], [.abs 6]⟩) <| none
noncomputable def zcr : Nat -> Nat -> Option (Nat × Nat) := fun cx id => cond (Nat.beq cx 6891 && Nat.beq id 13) (some (6, 9)) <| none
theorem zng (N : Nat) (a0 : Chip) (a1 : Int) (a2 : Fate) : z56 (z41.mk' (z3h zbo) zcq zcr) N 400 14 [.chip, .i, .fate] [.chip, .i] (a0, a1, a2) = z5j N a0 a1 a2 := by kernel_rfl
noncomputable def z9z : List (FuncId × Spec) := (14, ⟨[.chip, .i, .fate], [.chip, .i], z5k⟩) :: zbo
theorem zkm : zt Try.prog (z01 z9z) := zb z0s z5y zx znf (by kernel_rfl) ⟨_, Try.func14, by rfl⟩ (tm := zcq) (gh := zcr) fun x y h => by obtain ⟨N, h⟩ := zy h; exact ⟨N, 400, (zng N x.1 x.2.1 x.2.2).trans h⟩
noncomputable def zep : Nat -> Option Tmpl := fun cx => cond (Nat.beq cx 1) (some ⟨[], [], 98, [.raw 4 1, .st .chip], ([.var (.list (.int .u16)), .var .i, J, J, J, J, .fix (.ptr 0 0 0 0), .fix (.ptr 1 0 0 0), J, .var .i, .var .i] ++ jN 91 ++ [.agg .chip]), [], []⟩) <| none
theorem zq0 (N : Nat) (a0 : (List Int)) (a1 : Int) (a2 : Int) : z56 (z41.mk' (z3h z9z) zep zb8) N 400 5 [(.list (.int .u16)), .i, .i] [.chip] (a0, a1, a2) = z7h N a0 a1 a2 := by kernel_rfl
noncomputable def zbp : List (FuncId × Spec) := (5, ⟨[(.list (.int .u16)), .i, .i], [.chip], zaz⟩) :: z9z
theorem znh : zt Try.prog (z01 zbp) := zb z0s z5y zx zkm (by kernel_rfl) ⟨_, Try.func5, by rfl⟩ (tm := zep) (gh := zb8) fun x y h => by obtain ⟨N, h⟩ := zy h; exact ⟨N, 400, (zq0 N x.1 x.2.1 x.2.2).trans h⟩
theorem zvv (N : Nat) (a0 : Record) (a1 : Str) : z56 (z41.mk' (z3h zbp) zb7 zb8) N 400 8 [.record, .str] [.page] (a0, a1) = zc9 a0 a1 := by kernel_rfl
noncomputable def zfz : List (FuncId × Spec) := (8, ⟨[.record, .str], [.page], z1d⟩) :: zbp
theorem zsd : zt Try.prog (z01 zfz) := zb z0s z5y zx znh (by kernel_rfl) ⟨_, Try.func8, by rfl⟩ (tm := zb7) (gh := zb8) fun x y h => ⟨0, 400, (zvv 0 x.1 x.2).trans h⟩
noncomputable def z4y : Nat -> Option Tmpl := fun cx => cond (Nat.beq cx 6) (some ⟨[.tmp 10 .i, .tmp 11 .i], [(2, .i), (3, .i)], 161, [.st .chip, .st .table, .dead, .dead, .blk .i 0 true, .blk .i 0 true], ([J, .var (.int .u8), J, J, J, .var .bool, .fix (.ptr 0 0 0 0), .var .i, .fix (.ptr 1 0 0 0), .var .i, .fix (.bref 4 0), .fix (.bref 5 0), .var .i] ++ jN 148 ++ [.agg .chip, .agg .table, .var (.list .i), .var (.list .i)]), [], []⟩) <| cond (Nat.beq cx 7078) (some ⟨[], [], 161, [.raw 4 1, .st .table, .dead, .dead, .dead, .dead, .raw 4 1, .dead, .dead, .dead, .dead, .dead, .dead, .dead, .dead, .dead, .dead, .dead, .dead, .dead, .dead, .dead, .raw 4 1, .dead, .dead, .st .table], ([J, J, J, J, J, .var .bool, .fix (.ptr 0 0 0 0), .var .i, .fix (.ptr 1 0 0 0), .var .i, J, J, J, .fix (.ptr 6 0 0 0), J, .fix (.ptr 22 0 0 0), J, .fix (.ptr 25 0 0 0), .var .i, .var .i] ++ jN 16 ++ [.fix (.ptr 1 0 0 0)] ++ jN 44 ++ [.fix (.ptr 1 0 0 0)] ++ jN 28 ++ [.fix (.ptr 0 0 0 0)] ++ jN 54 ++ [.agg .table] ++ jN 8 ++ [.agg .table]), [], []⟩) <| cond (Nat.beq cx 113238) (some ⟨[], [], 161, [.raw 4 1, .st .table, .dead, .dead, .dead, .dead, .raw 4 1, .dead, .dead, .dead, .dead, .dead, .dead, .dead, .dead, .dead, .dead, .dead, .dead, .dead, .dead, .dead, .raw 4 1, .dead, .dead, .dead, .dead, .dead, .dead, .dead, .dead, .dead, .dead, .dead, .dead, .dead, .dead, .dead, .dead, .dead, .raw 4 1, .dead, .dead, .st .table], ([J, J, J, J, J, .var .bool, .fix (.ptr 0 0 0 0), .var .i, .fix (.ptr 1 0 0 0), .var .i, J, J, J, .fix (.ptr 6 0 0 0), J, .fix (.ptr 40 0 0 0), J, .fix (.ptr 43 0 0 0), .var .i, .var .i] ++ jN 16 ++ [.fix (.ptr 1 0 0 0)] ++ jN 44 ++ [.fix (.ptr 1 0 0 0)] ++ jN 28 ++ [.fix (.ptr 0 0 0 0)] ++ jN 54 ++ [.agg .table] ++ jN 12 ++ [.agg .table]), [], []⟩) <| cond (Nat.beq cx 1811798) (some ⟨[], [], 161, [.raw 4 1, .st .table, .dead, .dead, .dead, .dead, .raw 4 1, .dead, .dead, .dead, .dead, .dead, .dead, .dead, .dead, .dead, .dead, .dead, .dead, .dead, .dead, .dead, .raw 4 1, .dead, .dead, .dead, .dead, .dead, .dead, .dead, .dead, .dead, .dead, .dead, .dead, .dead, .dead, .dead, .dead, .dead, .raw 4 1, .dead, .dead, .dead, .dead, .dead, .dead, .dead, .dead, .dead, .dead, .dead, .dead, .dead, .dead, .dead, .dead, .dead, .raw 4 1, .dead, .dead, .st .table], ([J, J, J, J, J, .var .bool, .fix (.ptr 0 0 0 0), .var .i, .fix (.ptr 1 0 0 0), .var .i, J, J, J, .fix (.ptr 6 0 0 0), J, .fix (.ptr 58 0 0 0), J, .fix (.ptr 61 0 0 0), .var .i, .var .i] ++ jN 16 ++ [.fix (.ptr 1 0 0 0)] ++ jN 44 ++ [.fix (.ptr 1 0 0 0)] ++ jN 28 ++ [.fix (.ptr 0 0 0 0)] ++ jN 54 ++ [.agg .table] ++ jN 16 ++ [.agg .table]), [], []⟩) <| cond (Nat.beq cx 28988758) (some ⟨[], [], 161, [.raw 4 1, .st .table, .dead, .dead, .dead, .dead, .raw 4 1, .dead, .dead, .dead, .dead, .dead, .dead, .dead, .dead, .dead, .dead, .dead, .dead, .dead, .dead, .dead, .raw 4 1, .dead, .dead, .dead, .dead, .dead, .dead, .dead, .dead, .dead, .dead, .dead, .dead, .dead, .dead, .dead, .dead, .dead, .raw 4 1, .dead, .dead, .dead, .dead, .dead, .dead, .dead, .dead, .dead, .dead, .dead, .dead, .dead, .dead, .dead, .dead, .dead, .raw 4 1, .dead, .dead, .dead, .dead, .dead, .dead, .dead, .dead, .dead, .dead, .dead, .dead, .dead, .dead, .dead, .dead, .dead, .raw 4 1, .dead, .dead, .st .table], ([J, J, J, J, J, .var .bool, .fix (.ptr 0 0 0 0), .var .i, .fix (.ptr 1 0 0 0), .var .i, J, J, J, .fix (.ptr 6 0 0 0), J, .fix (.ptr 76 0 0 0), J, .fix (.ptr 79 0 0 0), .var .i, .var .i] ++ jN 16 ++ [.fix (.ptr 1 0 0 0)] ++ jN 44 ++ [.fix (.ptr 1 0 0 0)] ++ jN 28 ++ [.fix (.ptr 0 0 0 0)] ++ jN 54 ++ [.agg .table] ++ jN 20 ++ [.agg .table]), [], []⟩) <| none
theorem zcg (N : Nat) (a0 : (List Int)) (a1 : Int) : z56 (z41.mk' (z3h zfz) z4y zb8) N 400 3 [(.list (.int .u16)), (.int .u8)] [.bool] (a0, a1) = z15 N a0 a1 := by kernel_rfl
noncomputable def zch : List (FuncId × Spec) := (3, ⟨[(.list (.int .u16)), (.int .u8)], [.bool], z2q⟩) :: zfz
theorem zbq : zt Try.prog (z01 zch) := zb z0s z5y zx zsd (by kernel_rfl) ⟨_, Try.func3, by rfl⟩ (tm := z4y) (gh := zb8) fun x y h => by obtain ⟨N, h⟩ := zy h; exact ⟨N, 400, (zcg N x.1 x.2).trans h⟩
end Clk.Ythgnlojolooonaa
namespace Clk
open Go
theorem z6 {X R : Type} (F : (X -> Option R) -> X -> Option R) (N : Nat) (x : X) : zf F (N + 1) x = F (zf F N) x := rfl
theorem zu {α : Type} {xs l : List α} {k : Nat} {a : α} (h : xs.drop k = a :: l) : k < xs.length /\ (∀ d, xs.getD k d = a) /\ xs.drop (k + 1) = l := by
 have hk : k < xs.length := by
  apply Nat.lt_of_not_le
  intro hn; rw [List.drop_eq_nil_of_le hn] at h; cases h
 rw [List.drop_eq_getElem_cons hk] at h; injection h with h1 h2
 exact ⟨hk, fun d => by rw [zI, zH hk, h1]; rfl, h2⟩
theorem z0c {α : Type} {xs : List α} {k : Nat} (h : xs.drop k = []) : xs.length <= k := List.drop_eq_nil_iff.1 h
theorem zg {n : Int} (h1 : -9223372036854775808 <= n) (h2 : n < 9223372036854775808) : w64 n = n := Go.IntWalk.i64_in n ⟨h1, by omega⟩
theorem zlg {n : Int} (h1 : 0 <= n) (h2 : n < 4294967296) : IntKind.u32.wrap n = n := Go.IntWalk.u32_in n ⟨h1, by omega⟩
theorem zkn {n : Int} (h1 : 0 <= n) (h2 : n < 256) : IntKind.u8.wrap n = n := Go.IntWalk.u8_in n ⟨h1, by omega⟩
theorem z7 {α β : Type} (a : α) (f : α -> Option β) : (some a).bind f = f a := rfl
theorem zca {k : IntKind} {n m : Nat} (hn : n < 2 ^ k.bits) (hm : m < 2 ^ k.bits) : bXor k n m = ((n ^^^ m : Nat) : Int) := by
 unfold bXor; simp only [BitVec.ofInt_natCast, BitVec.toNat_xor, BitVec.toNat_ofNat, Nat.mod_eq_of_lt hn, Nat.mod_eq_of_lt hm]
theorem z00t {k : IntKind} {n m : Nat} (hn : n < 2 ^ k.bits) (hm : m < 2 ^ k.bits) : bAnd k n m = ((n &&& m : Nat) : Int) := by
 unfold bAnd; simp only [BitVec.ofInt_natCast, BitVec.toNat_and, BitVec.toNat_ofNat, Nat.mod_eq_of_lt hn, Nat.mod_eq_of_lt hm]
theorem zyj {k : IntKind} {n m : Nat} (hn : n < 2 ^ k.bits) (hm : m < 2 ^ k.bits) : bOr k n m = ((n ||| m : Nat) : Int) := by
 unfold bOr; simp only [BitVec.ofInt_natCast, BitVec.toNat_or, BitVec.toNat_ofNat, Nat.mod_eq_of_lt hn, Nat.mod_eq_of_lt hm]
def stepN (c : Nat) : Nat := if c % 2 = 1 then (c / 2) ^^^ 3988292384 else c / 2
def stepsN : Nat -> Nat -> Nat
 | 0, c => c
 | k + 1, c => stepsN k (stepN c)
def crcL : Str -> Nat -> Nat
 | [], c => c
 | b :: l, c => crcL l (stepsN 8 (c ^^^ b.toNat))
def crcT (s : Str) : Nat := crcL s 4294967295 ^^^ 4294967295
theorem zeq {a b : Nat} (ha : a < 4294967296) (hb : b < 4294967296) : a ^^^ b < 4294967296 := Nat.xor_lt_two_pow (n := 32) ha hb
theorem zni {c : Nat} (h : c < 4294967296) : stepN c < 4294967296 := by
 unfold stepN; split
 · exact zeq (by omega) (by omega)
 · omega
theorem zer : ∀ (k : Nat) {c : Nat}, c < 4294967296 -> stepsN k c < 4294967296
 | 0, c, h => h
 | k + 1, c, h => zer k (zni h)
theorem z00u (b : UInt8) : b.toNat < 256 := b.toNat_lt
theorem zyk : ∀ (s : Str) {c : Nat}, c < 4294967296 -> crcL s c < 4294967296
 | [], c, h => h
 | b :: l, c, h => zyk l (zer 8 (zeq h (by have := z00u b; omega)))
theorem zyl (s : Str) : crcT s < 4294967296 := zeq (zyk s (by omega)) (by omega)
theorem zq1 {c : Nat} (h : c < 4294967296) : z7a c = some ((stepN c : Nat) : Int) := by
 unfold z7a zaw stepN; have h1 : Int.tmod (c : Int) 2 = ((c % 2 : Nat) : Int) := by rw [Int.tmod_eq_emod_of_nonneg (by omega)]; rfl
 have h2 : Int.tdiv (c : Int) 2 = ((c / 2 : Nat) : Int) := by rw [Int.tdiv_eq_ediv_of_nonneg (by omega)]; rfl
 rw [h1, h2, zg (n := ((c / 2 : Nat) : Int)) (by omega) (by omega), show (3988292384 : Int) = ((3988292384 : Nat) : Int) from rfl, zca (k := .i64) (Nat.lt_trans (show c / 2 < 4294967296 by omega) (by decide)) (by decide)]; have h3 := zeq (show c / 2 < 4294967296 by omega) (show 3988292384 < 4294967296 by omega); rw [zg (n := ((c / 2 ^^^ 3988292384 : Nat) : Int)) (by omega) (by omega)]; by_cases h4 : c % 2 = 1
 · rw [if_pos h4, zT (by omega)]; rfl
 · rw [if_neg h4, zF (by omega)]; rfl
theorem ztt {ih0 : Str × Int × Int -> Option Int} {s : Str} {i : Int} (hi : w64 (i + 1) = i + 1) : ∀ (k N c : Nat) (j : Int), j = 8 - k -> k <= 8 -> c < 4294967296 -> k < N -> zf (z4h ih0) N (s, c, i, j) = ih0 (s, ((stepsN k c : Nat) : Int), i + 1)
 | 0, N + 1, c, j, h1, _, h2, _ => by
   rw [z6]; unfold z4h z7z; simp only [hi]; rw [zF (by omega)]; rfl
 | k + 1, N + 1, c, j, h1, h3, h2, h4 => by
   rw [z6]; unfold z4h z7z; simp only; rw [zT (show j < 8 by omega), zC, zq1 h2, z7, zg (n := j + 1) (by omega) (by omega)]; exact ztt hi k N _ _ (by omega) (by omega) (zni h2) (by omega)
 | _, 0, _, _, _, _, _, h => by omega
theorem ztu {s : Str} (hs : s.length < 4294967296) : ∀ (l : Str) (N M k c : Nat) (i : Int), s.drop k = l -> i = k -> c < 4294967296 -> 8 < M -> l.length < N -> zf (z4i M) N (s, c, i) = some (((crcL l c ^^^ 4294967295 : Nat)) : Int)
 | [], N + 1, M, k, c, i, h1, h2, h3, h4, _ => by
   rw [z6]; unfold z4i z80; have := z0c h1; simp only; rw [zF (by omega), zD, show (4294967295 : Int) = ((4294967295 : Nat) : Int) from rfl, zca (k := .i64) (Nat.lt_trans h3 (by decide)) (by decide), zg]
   · rfl
   · omega
   · have := zeq h3 (show 4294967295 < 4294967296 by omega); omega
 | b :: l, N + 1, M, k, c, i, h1, h2, h3, h4, h5 => by
   rw [z6]; unfold z4i z80; obtain ⟨g1, g2, g3⟩ := zu h1; have hb := z00u b; have hx := zeq h3 (show b.toNat < 4294967296 by omega); subst h2; simp only [Int.toNat_natCast, g2]; rw [zT (show (k : Int) < s.length by omega), zT (show (0 : Int) <= k by omega)]; simp only [zC]; rw [zg (n := (b.toNat : Int)) (by omega) (by omega), zca (k := .i64) (Nat.lt_trans h3 (by decide)) (Nat.lt_trans (show b.toNat < 4294967296 by omega) (by decide)), zg (n := ((c ^^^ b.toNat : Nat) : Int)) (by omega) (by omega)]; rw [ztt (zg (by omega) (by omega)) 8 M _ 0 (by omega) (by omega) hx h4]; exact ztu hs l N M (k + 1) _ _ g3 (by omega) (zer 8 hx) h4 (by simp at h5; omega)
 | _, 0, _, _, _, _, _, _, _, _, h => by omega
theorem zse {s : Str} (hs : s.length < 4294967296) : zd7 s = some ((crcT s : Nat) : Int) := by
 refine z10 (s.length + 9) fun N hN => ?_
 exact ztu hs s N N 0 4294967295 0 rfl rfl (by omega) (by omega) (by omega)
theorem and1 (c : Nat) : c &&& 1 = c % 2 := Nat.and_one_is_mod c
theorem z01y {ih0 : Str × Int × Int × Int -> Option Int} {s : Str} {i n : Int} (hi : w64 (i + 1) = i + 1) : ∀ (k N c : Nat) (j : Int), j = 8 - k -> k <= 8 -> c < 4294967296 -> k < N -> zf (z7i ih0) N (s, c, n, i, j) = ih0 (s, ((stepsN k c : Nat) : Int), n, i + 1)
 | 0, N + 1, c, j, h1, _, h2, _ => by
   rw [z6]; unfold z7i zb0; simp only [hi]; rw [zF (by omega)]; rfl
 | k + 1, N + 1, c, j, h1, h3, h2, h4 => by
   rw [z6]; unfold z7i zb0; simp only; have e1 : bAnd .u32 (c : Int) 1 = ((c % 2 : Nat) : Int) := by
    rw [show (1 : Int) = ((1 : Nat) : Int) from rfl, z00t (k := .u32) h2 (by decide), and1]
   have e2 : Int.fdiv (c : Int) (2 ^ (min 1 32)) = ((c / 2 : Nat) : Int) := by
    rw [show (2 : Int) ^ (min 1 32) = 2 from rfl, Int.fdiv_eq_ediv_of_nonneg _ (by omega)]; rfl
   have h6 := zeq (show c / 2 < 4294967296 by omega) (show 3988292384 < 4294967296 by omega); rw [zT (show j < 8 by omega), zC, e1, e2, zlg (by omega) (by omega), show (3988292384 : Int) = ((3988292384 : Nat) : Int) from rfl, zca (k := .u32) (show c / 2 < 4294967296 by omega) (by decide), zlg (n := ((c / 2 ^^^ 3988292384 : Nat) : Int)) (by omega) (by omega), zg (n := j + 1) (by omega) (by omega)]; have h5 := z01y (ih0 := ih0) (s := s) (i := i) (n := n) hi k N (stepN c) (j + 1) (by omega) (by omega) (zni h2) (by omega); unfold stepN at h5; show _ = ih0 (s, ((stepsN k (stepN c) : Nat) : Int), n, i + 1); unfold stepN; by_cases h7 : c % 2 = 1
   · rw [if_pos h7] at h5 ⊢; rw [zF (by omega), Bool.not_false, zC]; exact h5
   · rw [if_neg h7] at h5 ⊢; rw [zT (by omega), Bool.not_true, zD]; exact h5
 | _, 0, _, _, _, _, _, h => by omega
theorem z00v {c : Nat} (h : c < 4294967296) : bNot .u32 (c : Int) = ((c ^^^ 4294967295 : Nat) : Int) := by
 have := zca (k := .u32) (n := 4294967295) (m := c) (by decide) h; rw [Nat.xor_comm] at this; exact this
theorem z01z {s : Str} (hs : s.length < 4294967296) : ∀ (l : Str) (N M k c : Nat) (i : Int), s.drop k = l -> i = k -> c < 4294967296 -> 8 < M -> l.length < N -> zf (z7j M) N (s, c, (s.length : Int), i) = some (((crcL l c ^^^ 4294967295 : Nat)) : Int)
 | [], N + 1, M, k, c, i, h1, h2, h3, h4, _ => by
   rw [z6]; unfold z7j zb1; have := z0c h1; have h5 := zeq h3 (show 4294967295 < 4294967296 by omega); simp only; rw [zF (by omega), zD, z00v h3, zlg (by omega) (by omega), zg (by omega) (by omega)]; rfl
 | b :: l, N + 1, M, k, c, i, h1, h2, h3, h4, h5 => by
   rw [z6]; unfold z7j zb1; obtain ⟨g1, g2, g3⟩ := zu h1; have hb := z00u b; have hx := zeq h3 (show b.toNat < 4294967296 by omega); subst h2; simp only [Int.toNat_natCast, g2]; rw [zT (show (k : Int) < s.length by omega), zT (show (0 : Int) <= k by omega)]; simp only [zC]; rw [zlg (n := (b.toNat : Int)) (by omega) (by omega), zca (k := .u32) h3 (show b.toNat < 4294967296 by omega), zlg (n := ((c ^^^ b.toNat : Nat) : Int)) (by omega) (by omega)]; rw [z01y (zg (by omega) (by omega)) 8 M _ 0 (by omega) (by omega) hx h4]; exact z01z hs l N M (k + 1) _ _ g3 (by omega) (zer 8 hx) h4 (by simp at h5; omega)
 | _, 0, _, _, _, _, _, _, _, _, h => by omega
theorem zym {s : Str} (hs : s.length < 4294967296) : zj1 s = some ((crcT s : Nat) : Int) := by
 refine z10 (s.length + 9) fun N hN => ?_
 exact z01z hs s N N 0 4294967295 0 rfl rfl (by omega) (by omega) (by omega)
end Clk
namespace Clk
open Go
theorem zq2 (n : Nat) : IntKind.u8.wrap (n : Int) = ((n % 256 : Nat) : Int) := by rw [IntKind.wrap_u8]; omega
theorem zq3 (n : Nat) : UInt8.ofNat (n % 256) = UInt8.ofNat n := by
 apply UInt8.toNat_inj.1
 simp
def bytes4 (n : Nat) : Str := [UInt8.ofNat (n % 256), UInt8.ofNat (n / 256 % 256), UInt8.ofNat (n / 65536 % 256), UInt8.ofNat (n / 16777216)]
theorem zcb (n m : Nat) : Int.tdiv (n : Int) (m : Int) = ((n / m : Nat) : Int) := by rw [Int.tdiv_eq_ediv_of_nonneg (by omega)]; rfl
theorem zcc (n m : Nat) : Int.tmod (n : Int) (m : Int) = ((n % m : Nat) : Int) := by rw [Int.tmod_eq_emod_of_nonneg (by omega)]; rfl
theorem zes (n m : Nat) : Int.fdiv (n : Int) (m : Int) = ((n / m : Nat) : Int) := by rw [Int.fdiv_eq_ediv_of_nonneg _ (by omega)]; rfl
theorem znj {n : Nat} (h : n < 4294967296) : z5h n = some (bytes4 n) := by
 unfold z5h z9b; rw [zF (show ¬ (n : Int) < 0 by omega), zF (show ¬ 4294967295 < (n : Int) by omega)]; simp only [zD]; have e1 : Int.tmod (n : Int) 256 = ((n % 256 : Nat) : Int) := zcc n 256; have e2 : Int.tdiv (n : Int) 256 = ((n / 256 : Nat) : Int) := zcb n 256; have e3 : Int.tdiv (n : Int) 65536 = ((n / 65536 : Nat) : Int) := zcb n 65536; have e4 : Int.tdiv (n : Int) 16777216 = ((n / 16777216 : Nat) : Int) := zcb n 16777216; have e5 : Int.tmod ((n / 256 : Nat) : Int) 256 = ((n / 256 % 256 : Nat) : Int) := zcc (n / 256) 256; have e6 : Int.tmod ((n / 65536 : Nat) : Int) 256 = ((n / 65536 % 256 : Nat) : Int) := zcc (n / 65536) 256; rw [e1, e2, e3, e4, zg (n := ((n / 256 : Nat) : Int)) (by omega) (by omega), zg (n := ((n / 65536 : Nat) : Int)) (by omega) (by omega), zg (n := ((n / 16777216 : Nat) : Int)) (by omega) (by omega), e5, e6]; rw [zkn (n := ((n % 256 : Nat) : Int)) (by omega) (by omega), zkn (n := ((n / 256 % 256 : Nat) : Int)) (by omega) (by omega), zkn (n := ((n / 65536 % 256 : Nat) : Int)) (by omega) (by omega), zkn (n := ((n / 16777216 : Nat) : Int)) (by omega) (by omega)]; rfl
theorem zq4 (M : Nat) (c : Int) : zf zcn (M + 5) (c, 0, [0, 0, 0, 0]) = some (z0h [IntKind.u8.wrap (Int.fdiv c 1), IntKind.u8.wrap (Int.fdiv c 256), IntKind.u8.wrap (Int.fdiv c 65536), IntKind.u8.wrap (Int.fdiv c 16777216)]) := by kernel_rfl
theorem zsf {n : Nat} (h : n < 4294967296) : zde n = some (bytes4 n) := by
 refine z10 5 fun N hN => ?_
 obtain ⟨M, rfl⟩ : ∃ M, N = M + 5 := ⟨N - 5, by omega⟩; unfold zdd; rw [zlg (n := (n : Int)) (by omega) (by omega), zg (n := (n : Int)) (by omega) (by omega), zT rfl, Bool.not_true, zD, zq4]; have e1 : Int.fdiv (n : Int) 1 = (n : Int) := by have := zes n 1; rw [Nat.div_one] at this; exact this
 have e2 : Int.fdiv (n : Int) 256 = ((n / 256 : Nat) : Int) := zes n 256; have e3 : Int.fdiv (n : Int) 65536 = ((n / 65536 : Nat) : Int) := zes n 65536; have e4 : Int.fdiv (n : Int) 16777216 = ((n / 16777216 : Nat) : Int) := zes n 16777216; rw [e1, e2, e3, e4, zq2, zq2, zq2, zq2]; simp only [z0h, List.map_cons, List.map_nil, Int.toNat_natCast, bytes4]; rw [zq3 (n / 16777216)]
def putN : Nat -> Nat -> Str
 | 0, n => [UInt8.ofNat n]
 | f + 1, n => if 127 < n then UInt8.ofNat (128 + n % 128) :: putN f (n / 128) else [UInt8.ofNat n]
def putV (n : Int) : Str := if n < 0 \/ 1099511627776 < n then [] else putN 5 n.toNat
theorem ztv : ∀ (f n : Nat), (putN f n).length <= f + 1
 | 0, n => Nat.le_refl _
 | f + 1, n => by
   unfold putN; split
   · have := ztv f (n / 128); simp; omega
   · simp
theorem zcd (n : Int) : (putV n).length <= 6 := by
 unfold putV; split
 · simp
 · exact ztv 5 _
theorem zsg : ∀ (f n : Nat), putN f n ≠ []
 | 0, n => by simp [putN]
 | f + 1, n => by unfold putN; split <;> simp
theorem zgs : ∀ (f N n : Nat) (s : Str), n < 128 ^ (f + 1) -> n < 4611686018427387904 -> s.length + f < 1099511627776 -> f < N -> zf z7y N (n, s) = some (s ++ putN f n)
 | f, 0, n, s, _, _, _, h => by omega
 | 0, N + 1, n, s, h1, h5, h2, _ => by
   rw [z6]; rw [z8o]; unfold z4g; simp only [putN]; rw [zF (by omega), zD, zkn (n := (n : Int)) (by omega) (by omega), zT (by simp [z0h]; omega), zC]; rfl
 | f + 1, N + 1, n, s, h1, h5, h2, h3 => by
   rw [z6]; rw [z8o]; unfold z4g; simp only [putN]; have e1 : Int.tmod (n : Int) 128 = ((n % 128 : Nat) : Int) := zcc n 128; have e2 : Int.tdiv (n : Int) 128 = ((n / 128 : Nat) : Int) := zcb n 128; by_cases h4 : 127 < n
   · rw [zT (show (127 : Int) < n by omega), zC, if_pos h4, e1, e2, zg (n := 128 + ((n % 128 : Nat) : Int)) (by omega) (by omega), zkn (n := 128 + ((n % 128 : Nat) : Int)) (by omega) (by omega), zT (by simp [z0h]; omega), zC, zg (n := ((n / 128 : Nat) : Int)) (by omega) (by omega)]; have e3 : z0h [128 + ((n % 128 : Nat) : Int)] = [UInt8.ofNat (128 + n % 128)] := by simp only [z0h, List.map_cons, List.map_nil]; congr 2
     rw [e3, zgs f N (n / 128) _ (by rw [Nat.pow_succ] at h1; omega) (by omega) (by simp; omega) (by omega)]; simp
   · rw [zF (show ¬ (127 : Int) < n by omega), zD, if_neg h4, zkn (n := (n : Int)) (by omega) (by omega), zT (by simp [z0h]; omega), zC]; rfl
theorem zjj (n : Int) : z9a n = some (putV n) := by
 refine z10 6 fun N hN => ?_
 unfold zd6 putV; by_cases h1 : n < 0
 · rw [zT h1, zC, if_pos (.inl h1)]
 · by_cases h2 : 1099511627776 < n
   · rw [zF h1, zD, zT h2, zC, if_pos (.inr h2)]
   · rw [zF h1, zD, zF h2, zD, if_neg (by omega)]; obtain ⟨k, rfl⟩ : ∃ k : Nat, n = k := ⟨n.toNat, by omega⟩; have := zgs 5 N k [] (by simp; omega) (by omega) (by simp) (by omega); simpa using this
theorem or128 {x : Nat} (h : x < 256) : x ||| 128 = 128 + x % 128 := by
 have : ∀ x : Fin 256, x.val ||| 128 = 128 + x.val % 128 := by decide +kernel
 exact this ⟨x, h⟩
theorem zdp (a b : List Int) : z0h (a ++ b) = z0h a ++ z0h b := by simp [z0h]
theorem zjk : ∀ (f N n : Nat) (s : List Int), n < 128 ^ (f + 1) -> n < 4611686018427387904 -> s.length + f < 1099511627776 -> f < N -> zf z9n N (n, s) = some (z0h s ++ putN f n)
 | f, 0, n, s, _, _, _, h => by omega
 | 0, N + 1, n, s, h1, h5, h2, _ => by
   rw [z6]; rw [za9]; unfold z5r; simp only [putN]; rw [zF (by omega), zD, zkn (n := (n : Int)) (by omega) (by omega), zT (by simp; omega), zC, zT (by simp; omega), zC, zdp]; rfl
 | f + 1, N + 1, n, s, h1, h5, h2, h3 => by
   rw [z6]; rw [za9]; unfold z5r; simp only [putN]; have e2 : Int.fdiv (n : Int) (2 ^ (min 7 64)) = ((n / 128 : Nat) : Int) := zes n 128; by_cases h4 : 127 < n
   · have e4 : IntKind.u8.wrap (bOr .u8 (IntKind.u8.wrap (n : Int)) 128) = 128 + ((n % 128 : Nat) : Int) := by
      rw [zq2, show (128 : Int) = ((128 : Nat) : Int) from rfl, zyj (k := .u8) (show n % 256 < 256 by omega) (by decide), or128 (by omega), zkn (by omega) (by omega)]; omega
     rw [zT (show (128 : Int) <= n by omega), zC, if_pos h4, e4, e2, zT (by simp; omega), zC, zT (by simp; omega), zC]; have e3 : z0h [128 + ((n % 128 : Nat) : Int)] = [UInt8.ofNat (128 + n % 128)] := by simp only [z0h, List.map_cons, List.map_nil]; congr 2
     rw [zjk f N (n / 128) _ (by rw [Nat.pow_succ] at h1; omega) (by omega) (by simp; omega) (by omega), zdp, e3]; simp
   · rw [zF (show ¬ (128 : Int) <= n by omega), zD, if_neg h4, zkn (n := (n : Int)) (by omega) (by omega), zT (by simp; omega), zC, zT (by simp; omega), zC, zdp]; rfl
theorem zlh (n : Int) : zc7 n = some (putV n) := by
 refine z10 6 fun N hN => ?_
 unfold zfo putV; by_cases h1 : n < 0
 · rw [zT h1, zC, if_pos (.inl h1)]
 · by_cases h2 : 1099511627776 < n
   · rw [zF h1, zD, zT h2, zC, if_pos (.inr h2)]
   · rw [zF h1, zD, zF h2, zD, if_neg (by omega)]; obtain ⟨k, rfl⟩ : ∃ k : Nat, n = k := ⟨n.toNat, by omega⟩; have := zjk 5 N k [] (by simp; omega) (by omega) (by simp) (by omega); simpa [z0h] using this
def packL : List Int -> Str -> Str × Int
 | [], s => (s, 0)
 | n :: l, s => if putV n = [] then ([], 1) else packL l (s ++ putV n)
def packT (l : List Int) : Str × Int := packL l (putV l.length)
theorem zet {xs : List Int} (hs : xs.length < 4294967296) : ∀ (l : List Int) (N k : Nat) (i : Int) (s : Str), xs.drop k = l -> i = k -> s.length + 6 * l.length < 1099511627776 -> l.length < N -> zf z6g N (xs, s, i) = some (packL l s)
 | l, 0, _, _, _, _, _, _, h => by omega
 | [], N + 1, k, i, s, h1, h2, h3, _ => by
   have := z0c h1; rw [z6]; rw [z78]; unfold z3m; simp only [packL]; rw [zF (by omega)]; rfl
 | n :: l, N + 1, k, i, s, h1, h2, h3, h4 => by
   obtain ⟨g1, g2, g3⟩ := zu h1; subst h2; rw [z6]; rw [z78]; unfold z3m; simp only [Int.toNat_natCast, g2, packL, zjj, z7]; have hp := zcd n; simp only [List.length_cons] at h3 h4; rw [zT (show (k : Int) < xs.length by omega), zT (show (0 : Int) <= k by omega)]; simp only [zC]; by_cases h5 : putV n = []
   · rw [zT h5, if_pos h5]; rfl
   · rw [zF h5, if_neg h5, zD, zT (by omega), zC]; exact zet hs l N (k + 1) _ _ g3 (by rw [zg (by omega) (by omega)]; omega) (by simp; omega) (by omega)
theorem zbr {l : List Int} (hs : l.length < 4294967296) : z4t l = some (packT l) := by
 refine z10 (l.length + 1) fun N hN => ?_
 unfold zau; rw [zjj, z7]; have := zcd l.length; exact zet hs l N 0 0 _ rfl rfl (by omega) (by omega)
theorem zgt {xs : List Int} (hs : xs.length < 4294967296) : ∀ (l : List Int) (N k : Nat) (i : Int) (s : Str), xs.drop k = l -> i = k -> s.length + 6 * l.length < 1099511627776 -> l.length < N -> zf z86 N (s, xs, (xs.length : Int), i) = some (packL l s)
 | l, 0, _, _, _, _, _, _, h => by omega
 | [], N + 1, k, i, s, h1, h2, h3, _ => by
   have := z0c h1; rw [z6]; rw [z8t]; unfold z4o; simp only [packL]; rw [zF (by omega)]; rfl
 | n :: l, N + 1, k, i, s, h1, h2, h3, h4 => by
   obtain ⟨g1, g2, g3⟩ := zu h1; subst h2; rw [z6]; rw [z8t]; unfold z4o; simp only [Int.toNat_natCast, g2, packL, zlh, z7]; have hp := zcd n; simp only [List.length_cons] at h3 h4; rw [zT (show (k : Int) < xs.length by omega), zT (show (0 : Int) <= k by omega)]; simp only [zC]; by_cases h5 : putV n = []
   · rw [zT h5, if_pos h5]; rfl
   · rw [zF h5, if_neg h5, zD, zT (by omega), zC]; exact zgt hs l N (k + 1) _ _ g3 (by rw [zg (by omega) (by omega)]; omega) (by simp; omega) (by omega)
theorem zdq {l : List Int} (hs : l.length < 4294967296) : z6l l = some (packT l) := by
 refine z10 (l.length + 1) fun N hN => ?_
 unfold zdc; rw [zlh, z7]; have := zcd l.length; exact zgt hs l N 0 0 _ rfl rfl (by omega) (by omega)
def takeN : Nat -> Bool -> Nat -> Nat -> Str -> Int × Str × Bool
 | 0, _, _, _, _ => (0, [], false)
 | _ + 1, _, _, _, [] => (0, [], false)
 | f + 1, first, n, u, c :: l => if c.toNat < 128 then (if 1099511627776 < n + c.toNat * u \/ (first = false /\ c.toNat = 0) then (0, [], false) else (((n + c.toNat * u : Nat) : Int), l, true)) else takeN f false (n + c.toNat % 128 * u) (u * 128) l
def z6t (s : Str) : Int × Str × Bool := takeN 6 true 0 1 s
theorem zjl : ∀ (f : Nat) (b : Bool) (n u : Nat) (s : Str), (takeN f b n u s).2.1.length <= s.length /\ 0 <= (takeN f b n u s).1
 | 0, b, n, u, s => by simp [takeN]
 | f + 1, b, n, u, [] => by simp [takeN]
 | f + 1, b, n, u, c :: l => by
   unfold takeN; split
   · split
     · simp
     · simp; omega
   · have := zjl f false (n + c.toNat % 128 * u) (u * 128) l; simp; omega
theorem zeu (s : Str) : (z6t s).2.1.length <= s.length := (zjl 6 true 0 1 s).1
theorem z00w (s : Str) : 0 <= (z6t s).1 := (zjl 6 true 0 1 s).2
def unpackL : Nat -> Str -> List Int -> List Int × Str × Int
 | 0, s, acc => (acc, s, 0)
 | k + 1, s, acc => if (z6t s).2.2 = false then ([], [], 20) else unpackL k (z6t s).2.1 (acc ++ [(z6t s).1])
def zd (s : Str) : List Int × Str × Int := if (z6t s).2.2 = false \/ ((z6t s).2.1.length : Int) < (z6t s).1 then ([], [], 20) else unpackL (z6t s).1.toNat (z6t s).2.1 []
theorem zev {a b : List Int} (hs : a.length < 4294967296) (hab : a.length = b.length) : ∀ (l m : List Int) (N k : Nat) (i : Int), a.drop k = l -> b.drop k = m -> i = k -> l.length < N -> zf z6m N (a, b, i) = some (decide (l = m))
 | l, m, 0, _, _, _, _, _, h => by omega
 | [], m, N + 1, k, i, h1, h2, h3, h4 => by
   have h5 := z0c h1; have h6 : m = [] := by rw [<- h2]; exact List.drop_eq_nil_of_le (by omega)
   rw [z6]; rw [z7l]; unfold z3s; simp only; rw [zF (by omega), zD, h6]; rfl
 | x :: l, m, N + 1, k, i, h1, h2, h3, h4 => by
   obtain ⟨g1, g2, g3⟩ := zu h1; subst h3; cases m with
   | nil => have := z0c h2; omega
   | cons y m =>
     obtain ⟨e1, e2, e3⟩ := zu h2; rw [z6]; rw [z7l]; unfold z3s; simp only [Int.toNat_natCast, g2, e2]; rw [zT (show (k : Int) < a.length by omega), zT (show (0 : Int) <= k by omega), zT (show (k : Int) < b.length by omega)]; simp only [zC]; by_cases hxy : x = y
     · rw [zT hxy, Bool.not_true, zD]; have := zev hs hab l m N (k + 1) (w64 (k + 1)) g3 e3 (by rw [zg (by omega) (by omega)]; omega) (by simp at h4; omega); rw [this]; simp [hxy]
     · rw [zF hxy, Bool.not_false, zC]; simp [hxy]
theorem zgu {a b : List Int} (hs : a.length < 4294967296) : z7n (a, b) = some (decide (a = b)) := by
 refine z10 (a.length + 1) fun N hN => ?_
 show z7m N a b = _; unfold z7m; by_cases h : a.length = b.length
 · rw [zT (by omega), Bool.not_true, zD]; exact zev hs h a b N 0 0 rfl rfl rfl (by omega)
 · rw [zF (by omega), Bool.not_false, zC, zF (fun e => h (by rw [e]))]
end Clk
namespace Clk
open Go
def inr (n : Int) : Bool := decide (0 <= n) && decide (n < 64)
def chkL : Option Int -> List Int -> Bool
 | _, [] => true
 | p, a :: l => inr a && (match p with | none => true | some q => decide (q < a)) && chkL (some a) l
def keysT (l : List Int) : Bool := chkL none l && decide (0 < l.length) && decide (l.length <= 8)
theorem zew {xs : List Int} (hs : xs.length < 4294967296) : ∀ (l : List Int) (N k : Nat) (i : Int) (p : Option Int), xs.drop k = l -> i = k -> (k = 0 -> p = none) -> (∀ j, k = j + 1 -> p = some (xs.getD j 0)) -> l.length < N -> zf z6e N (xs, i) = some (chkL p l && decide (0 < xs.length) && decide (xs.length <= 8))
 | l, 0, _, _, _, _, _, _, _, h => by omega
 | [], N + 1, k, i, p, h1, h2, _, _, _ => by
   have := z0c h1; rw [z6, z75]; unfold z3l; simp only [chkL, Bool.true_and]; rw [zF (by omega), zD]; by_cases h : 0 < xs.length
   · rw [zT (show (0 : Int) < (xs.length : Int) by omega), zC, zT h, Bool.true_and]; congr 1; rw [Bool.eq_iff_iff]; simp; omega
   · rw [zF (show ¬ (0 : Int) < (xs.length : Int) by omega), zD, zF h]; rfl
 | a :: l, N + 1, k, i, p, h1, h2, h3, h4, h5 => by
   obtain ⟨g1, g2, g3⟩ := zu h1; subst h2; have ih := zew hs l N (k + 1) (w64 (k + 1)) (some a) g3 (by rw [zg (by omega) (by omega)]; omega) (by omega) (fun j hj => by rw [show j = k by omega, g2]) (by simp at h5; omega); rw [z6, z75]; unfold z3l; simp only [Int.toNat_natCast, g2, chkL, inr, ih]; rw [zT (show (k : Int) < xs.length by omega), zT (show (0 : Int) <= k by omega)]; simp only [zC]; by_cases c1 : a < 0
   · rw [zT c1, zF (show ¬ 0 <= a by omega)]; simp
   · rw [zF c1, zT (show 0 <= a by omega), zD]; by_cases c2 : 64 <= a
     · rw [zT c2, zF (show ¬ a < 64 by omega)]; simp
     · rw [zF c2, zT (show a < 64 by omega), zD]; cases k with
       | zero => rw [h3 rfl, zF (by omega), zD]; simp
       | succ j =>
         have e1 : w64 (((j + 1 : Nat) : Int) - 1) = (j : Int) := by rw [zg (by omega) (by omega)]; omega
         rw [h4 j rfl, zT (show (0 : Int) < ((j + 1 : Nat) : Int) by omega), e1, zT (show (0 : Int) <= j by omega), zT (show (j : Int) < xs.length by omega)]; simp only [zC, Int.toNat_natCast]; by_cases c3 : xs.getD j 0 < a
         · rw [zF (show ¬ a <= xs.getD j 0 by omega), zT c3, zD]; simp
         · rw [zT (show a <= xs.getD j 0 by omega), zF c3, zC]; simp
theorem zq5 {l : List Int} (hs : l.length < 4294967296) : zat l = some (keysT l) := by
 refine z10 (l.length + 1) fun N hN => ?_
 exact zew hs l N 0 0 none rfl rfl (fun _ => rfl) (by omega) (by omega)
def nd : List Int -> Bool
 | a :: b :: l => decide (a <= b) && nd (b :: l)
 | _ => true
def noEq : List Int -> Bool
 | a :: b :: l => decide (a ≠ b) && noEq (b :: l)
 | _ => true
theorem ztw : ∀ (l : List Int) (q : Int), chkL (some q) l = (l.all inr && nd (q :: l) && noEq (q :: l))
 | [], q => rfl
 | a :: l, q => by
   simp only [chkL, ztw l a, List.all_cons, nd, noEq]; by_cases h1 : q < a
   · rw [zT h1, zT (show q <= a by omega), zT (show q ≠ a by omega)]; cases inr a <;> simp
   · by_cases h2 : q = a
     · subst h2; simp
     · rw [zF h1, zF (show ¬ q <= a by omega)]; simp
theorem z00x (l : List Int) : chkL none l = (l.all inr && nd l && noEq l) := by
 cases l with
 | nil => rfl
 | cons a l => simp only [chkL, ztw, List.all_cons]; cases inr a <;> simp
theorem z020 : ∀ (l : List Int), nd l = true ↔ ∀ j, j + 1 < l.length -> l.getD j 0 <= l.getD (j + 1) 0
 | [] => by simp [nd]
 | [a] => by simp [nd]
 | a :: b :: l => by
   simp only [nd, Bool.and_eq_true, decide_eq_true_eq, z020 (b :: l)]; constructor
   · rintro ⟨h1, h2⟩ j hj
     cases j with
     | zero => exact h1
     | succ j => exact h2 j (by simpa using hj)
   · intro h; exact ⟨h 0 (by simp), fun j hj => h (j + 1) (by simpa using hj)⟩
theorem zvw (a b : Int) : zfl (a, b) = some (decide (a < b)) := by
 show zc6 a b = _; unfold zc6 z9f zd9; simp
theorem zq6 {xs : List Int} (hs : xs.length < 4294967296) : ∀ (k N : Nat) (i : Int), i = k -> (k = 0 \/ k < xs.length) -> k < N -> ∃ b : Bool, zf z2p N (xs, i) = some b /\ (b = true ↔ ∀ j, j < k -> xs.getD j 0 <= xs.getD (j + 1) 0)
 | k, 0, _, _, _, h => by omega
 | 0, N + 1, i, h1, _, _ => by
   rw [z6, z3r]; unfold z14; simp only; rw [zF (by omega), zD]; exact ⟨true, rfl, by simp⟩
 | k + 1, N + 1, i, h1, h2, h3 => by
   subst h1; have e1 : w64 (((k + 1 : Nat) : Int) - 1) = (k : Int) := by rw [zg (by omega) (by omega)]; omega
   obtain ⟨b, g1, g2⟩ := zq6 hs k N (k : Int) rfl (by omega) (by omega); rw [z6, z3r]; unfold z14; simp only [e1, Int.toNat_natCast, zvw, z7, g1]; rw [zT (show (0 : Int) < ((k + 1 : Nat) : Int) by omega), zT (show (0 : Int) <= ((k + 1 : Nat) : Int) by omega), zT (show ((k + 1 : Nat) : Int) < xs.length by omega), zT (show (0 : Int) <= k by omega), zT (show (k : Int) < xs.length by omega)]; simp only [zC]; by_cases hc : xs.getD (k + 1) 0 < xs.getD k 0
   · rw [zT hc, zC]; refine ⟨false, rfl, ?_⟩; simp only [Bool.false_eq_true, false_iff]; intro h; have := h k (by omega); omega
   · rw [zF hc, zD]; refine ⟨b, rfl, g2.trans ⟨fun h j hj => ?_, fun h j hj => h j (by omega)⟩⟩; by_cases hjk : j = k
     · subst hjk; omega
     · exact h j (by omega)
theorem zvx {l : List Int} (hs : l.length < 4294967296) : z4a l = some (nd l) := by
 refine z10 (l.length + 1) fun N hN => ?_
 unfold z49; by_cases h0 : l.length = 0
 · have : l = [] := List.eq_nil_of_length_eq_zero h0; subst this; obtain ⟨M, rfl⟩ : ∃ M, N = M + 1 := ⟨N - 1, by omega⟩; rfl
 · obtain ⟨b, g1, g2⟩ := zq6 hs (l.length - 1) N (w64 ((l.length : Int) - 1)) (by rw [zg (by omega) (by omega)]; omega) (by omega) (by omega); rw [g1]; congr 1
   rw [Bool.eq_iff_iff, g2, z020]; exact ⟨fun h j hj => h j (by omega), fun h j hj => h j (by omega)⟩
theorem zyn {a0 xs : List Int} (hs : xs.length < 4294967296) : ∀ (l : List Int) (N k : Nat) (i : Int) (ys : List Int), xs.drop k = l -> i = k -> l.length < N -> zf (z9g a0) N (xs, (xs.length : Int), i, ys) = some (l.all inr)
 | l, 0, _, _, _, _, _, h => by omega
 | [], N + 1, k, i, ys, h1, h2, _ => by
   have := z0c h1; rw [z6, za3]; unfold z5l; simp only [List.all_nil]; rw [zF (by omega), zD]; rfl
 | a :: l, N + 1, k, i, ys, h1, h2, h3 => by
   obtain ⟨g1, g2, g3⟩ := zu h1; subst h2; have ih := zyn (a0 := a0) hs l N (k + 1) (w64 (k + 1)) ys g3 (by rw [zg (by omega) (by omega)]; omega) (by simp at h3; omega); rw [z6, za3]; unfold z5l; simp only [Int.toNat_natCast, g2, ih, List.all_cons, inr]; rw [zT (show (k : Int) < xs.length by omega), zT (show (0 : Int) <= k by omega)]; simp only [zC, Bool.not_true, zD]; by_cases c1 : a < 0
   · rw [zT c1, zF (show ¬ 0 <= a by omega)]; simp
   · rw [zF c1, zT (show 0 <= a by omega), zD]; by_cases c2 : 64 <= a
     · rw [zT c2, zF (show ¬ a < 64 by omega)]; simp
     · rw [zF c2, zT (show a < 64 by omega), zD]; simp
theorem zyo {a0 v0 xs : List Int} (hv : v0.length = a0.length) (hs : xs.length < 4294967296) : ∀ (l : List Int) (N k : Nat) (i : Int) (ys : List Int), xs.drop k = l -> i = k -> l.length < N -> zf (z9j a0 v0) N (xs, (xs.length : Int), i, ys) = some (l.all inr)
 | l, 0, _, _, _, _, _, h => by omega
 | [], N + 1, k, i, ys, h1, h2, _ => by
   have := z0c h1; rw [z6, za6]; unfold z5o; simp only [List.all_nil]; rw [zF (by omega), zD, zT (by omega)]
 | a :: l, N + 1, k, i, ys, h1, h2, h3 => by
   obtain ⟨g1, g2, g3⟩ := zu h1; subst h2; have ih := zyo hv hs l N (k + 1) (w64 (k + 1)) ys g3 (by rw [zg (by omega) (by omega)]; omega) (by simp at h3; omega); rw [z6, za6]; unfold z5o; simp only [Int.toNat_natCast, g2, ih, List.all_cons, inr]; rw [zT (show (k : Int) < xs.length by omega), zT (show (0 : Int) <= k by omega)]; simp only [zC, Bool.not_true, zD]; by_cases c1 : a < 0
   · rw [zT c1, zF (show ¬ 0 <= a by omega)]; simp
   · rw [zF c1, zT (show 0 <= a by omega), zD]; by_cases c2 : 64 <= a
     · rw [zT c2, zF (show ¬ a < 64 by omega)]; simp
     · rw [zF c2, zT (show a < 64 by omega), zD]; simp
theorem zyp {a0 xs : List Int} {v0 : Int} (hv : ((v0.toNat : Nat) : Int) ≠ a0.length) (hs : xs.length < 4294967296) : ∀ (l : List Int) (N k : Nat) (i : Int) (ys : List Int), xs.drop k = l -> i = k -> l.length < N -> zf (z9h a0 v0) N (xs, (xs.length : Int), i, ys) = some false
 | l, 0, _, _, _, _, _, h => by omega
 | [], N + 1, k, i, ys, h1, h2, _ => by
   have := z0c h1; rw [z6, za4]; unfold z5m; simp only; rw [zF (by omega), zD, zF hv]
 | a :: l, N + 1, k, i, ys, h1, h2, h3 => by
   obtain ⟨g1, g2, g3⟩ := zu h1; subst h2; have ih := zyp hv hs l N (k + 1) (w64 (k + 1)) ys g3 (by rw [zg (by omega) (by omega)]; omega) (by simp at h3; omega); rw [z6, za4]; unfold z5m; simp only [Int.toNat_natCast, g2, ih]; rw [zT (show (k : Int) < xs.length by omega), zT (show (0 : Int) <= k by omega)]; simp only [zC, Bool.not_true, zD]; cases decide (a < 0) <;> cases decide (64 <= a) <;> rfl
theorem zyq {xs : List Int} (hs : xs.length < 4294967296) : ∀ (l : List Int) (N k : Nat) (i : Int), xs.drop k = l -> i = k -> l.length < N -> zf z9l N (xs, (xs.length : Int), i) = some false
 | l, 0, _, _, _, _, h => by omega
 | [], N + 1, k, i, h1, h2, _ => by
   have := z0c h1; rw [z6, za8]; unfold z5q; simp only; rw [zF (by omega), zD]
 | a :: l, N + 1, k, i, h1, h2, h3 => by
   obtain ⟨g1, g2, g3⟩ := zu h1; subst h2; have ih := zyq hs l N (k + 1) (w64 (k + 1)) g3 (by rw [zg (by omega) (by omega)]; omega) (by simp at h3; omega); rw [z6, za8]; unfold z5q; simp only [Int.toNat_natCast, g2, ih]; rw [zT (show (k : Int) < xs.length by omega), zT (show (0 : Int) <= k by omega)]; simp only [zC, Bool.not_true, zD]; cases decide (a < 0) <;> cases decide (64 <= a) <;> rfl
theorem zsh {a0 : List Int} (hs : a0.length < 4294967296) {M : Nat} (hM : a0.length < M) {b : Nat} (hb : b < a0.length) : ∀ (m N i k : Nat) (ys : List Int), k + m = a0.length - b -> 1 <= k -> i + 1 <= b + k -> ys.length = a0.length -> m < N -> zf (z9i M a0) N ((i : Int), (b : Int), ((a0.length - b : Nat) : Int), (k : Int), ys) = some false
 | m, 0, _, _, _, _, _, _, _, h => by omega
 | 0, N + 1, i, k, ys, h1, h2, h3, h4, _ => by
   rw [z6, za5]; unfold z5n; simp only [Int.toNat_natCast]; rw [zF (show ¬ (k : Int) < ((a0.length - b : Nat) : Int) by omega), zD]; rw [zT (show (0 : Int) <= i by omega), zT (show (i : Int) <= ys.length by omega), zT (show 0 < ys.length by omega)]; simp only [zC]; rw [zT (by simp; omega), zC]; by_cases c1 : 0 < a0.length
   · rw [zT (show (0 : Int) < (a0.length : Int) by omega), zC]; cases decide ((a0.length : Int) <= 8) with
     | false => rfl
     | true => rw [zC]; exact zyp (by simp; omega) hs a0 M 0 0 _ rfl rfl hM
   · omega
 | m + 1, N + 1, i, k, ys, h1, h2, h3, h4, h5 => by
   have e1 : w64 ((k : Int) - 1) = ((k - 1 : Nat) : Int) := by rw [zg (by omega) (by omega)]; omega
   have e2 : w64 ((k : Int) + 1) = ((k + 1 : Nat) : Int) := by rw [zg (by omega) (by omega)]; rfl
   have e3 : w64 ((i : Int) + 1) = ((i + 1 : Nat) : Int) := by rw [zg (by omega) (by omega)]; rfl
   rw [z6, za5]; unfold z5n; simp only [Int.toNat_natCast, e1, e2, e3]; rw [zT (show (k : Int) < ((a0.length - b : Nat) : Int) by omega), zT (show (0 : Int) <= k by omega), zT (show b + k < ys.length by omega), zT (show (0 : Int) <= ((k - 1 : Nat) : Int) by omega), zT (show ((k - 1 : Nat) : Int) < ((a0.length - b : Nat) : Int) by omega), zT (show b + (k - 1) < ys.length by omega), zT (show (0 : Int) <= i by omega), zT (show (i : Int) < ys.length by omega), zT (show i < ys.length by omega)]; simp only [zC]; rw [zsh hs hM hb m N (i + 1) (k + 1) _ (by omega) (by omega) (by omega) (by simpa using h4) (by omega), zsh hs hM hb m N i (k + 1) _ (by omega) (by omega) (by omega) h4 (by omega)]; cases (!decide (ys.getD (b + k) 0 = ys.getD (b + (k - 1)) 0)) <;> rfl
theorem zyr {a0 : List Int} (hs : a0.length < 4294967296) {M : Nat} (hM : a0.length < M) : ∀ (l : List Int) (N k : Nat) (i : Int), a0.drop k = l -> i = ((k + 1 : Nat) : Int) -> k < a0.length -> l.length < N -> zf (z9k M a0) N (i, a0) = some (noEq l && decide (0 < a0.length) && decide (a0.length <= 8) && a0.all inr)
 | l, 0, _, _, _, _, _, h => by omega
 | [], N + 1, k, i, h1, h2, h3, _ => by have := z0c h1; omega
 | [a], N + 1, k, i, h1, h2, h3, _ => by
   obtain ⟨g1, g2, g3⟩ := zu h1; have := z0c g3; rw [z6, za7]; unfold z5p; simp only [noEq, Bool.true_and]; rw [zF (show ¬ i < (a0.length : Int) by omega), zD]; rw [zT (show (0 : Int) < (a0.length : Int) by omega), zC, zT (show 0 < a0.length by omega), Bool.true_and]; by_cases c : a0.length <= 8
   · rw [zT (show (a0.length : Int) <= 8 by omega), zC, zT c, Bool.true_and]; exact zyo rfl hs a0 M 0 0 _ rfl rfl hM
   · rw [zF (show ¬ (a0.length : Int) <= 8 by omega), zD, zF c]; rfl
 | a :: b :: l, N + 1, k, i, h1, h2, h3, h4 => by
   obtain ⟨g1, g2, g3⟩ := zu h1; obtain ⟨g4, g5, g6⟩ := zu g3; subst h2; have e1 : w64 (((k + 1 : Nat) : Int) - 1) = (k : Int) := by rw [zg (by omega) (by omega)]; omega
   have ih := zyr hs hM (b :: l) N (k + 1) (w64 (((k + 1 : Nat) : Int) + 1)) g3 (by rw [zg (by omega) (by omega)]; omega) g4 (by simp at h4 ⊢; omega); rw [z6, za7]; unfold z5p; simp only [Int.toNat_natCast, e1, g2, g5, ih]; rw [zT (show ((k + 1 : Nat) : Int) < a0.length by omega), zT (show (0 : Int) <= ((k + 1 : Nat) : Int) by omega), zT (show k + 1 < a0.length by omega), zT (show (0 : Int) <= (k : Int) by omega), zT (show (k : Int) < a0.length by omega), zT (show k < a0.length by omega), zT (show ((k + 1 : Nat) : Int) <= a0.length by omega)]; simp only [zC, noEq]; by_cases c : a = b
   · subst c; rw [zT rfl, zC]; rw [show (1 : Int) = ((1 : Nat) : Int) from rfl, zsh hs hM g4 (a0.length - (k + 1) - 1) M (k + 1) 1 _ (by omega) (by omega) (by omega) rfl (by omega)]; simp
   · rw [zF (fun e => c e.symm), zD, zT c]; simp
theorem zvy {l : List Int} (hs : l.length < 4294967296) : zfn l = some (keysT l) := by
 refine z10 (l.length + 1) fun N hN => ?_
 unfold zfm keysT; rw [zvx hs, z7, z00x]; cases hnd : nd l with
 | false =>
   rw [zD]; have : (l.all inr && false && noEq l && decide (0 < l.length) && decide (l.length <= 8)) = false := by simp
   rw [this, zyq hs l N 0 0 rfl rfl (by omega)]; cases decide (0 < (l.length : Int)) <;> cases decide ((l.length : Int) <= 8) <;> rfl
 | true =>
   rw [zC, zT (show l.length * 8 <= 70368744177664 by omega), zC, zT (show l.length <= 70368744177664 by omega), zC]; by_cases h2 : l.length < 2
   · rw [zT (show (l.length : Int) < 2 by omega), zC, zyn hs l N 0 0 l rfl rfl (by omega)]; have hq : noEq l = true := by
      cases l with
      | nil => rfl
      | cons a l => cases l with
        | nil => rfl
        | cons => simp only [List.length_cons] at h2; omega
     rw [hq, Bool.and_true, Bool.and_true]; by_cases c1 : 0 < l.length
     · rw [zT (show (0 : Int) < (l.length : Int) by omega), zC, zT c1, zT (show (l.length : Int) <= 8 by omega), zC, zT (show l.length <= 8 by omega)]; simp
     · rw [zF (show ¬ (0 : Int) < (l.length : Int) by omega), zD, zF c1]; simp
   · rw [zF (show ¬ (l.length : Int) < 2 by omega), zD]; have hl0 : 0 < l.length := by omega
     rw [zyr hs (M := N) (by omega) l N 0 1 rfl rfl hl0 (by omega)]; congr 1
     cases l.all inr <;> cases noEq l <;> cases decide (0 < l.length) <;> cases decide (l.length <= 8) <;> rfl
end Clk
namespace Clk
open Go
def vr (n : Int) : Bool := decide (-1 <= n) && decide (n < 512)
def z1e (r : Record) : Bool :=
 decide (0 <= r.seq) && decide (r.seq <= 1099511627776) && keysT r.keys && (if r.kind = 1 then decide (r.values = []) else r.values.all vr && decide (r.kind = 2) && decide (r.values.length = r.keys.length))
def RecOk (r : Record) : Prop := r.keys.length < 4294967296 /\ r.values.length < 4294967296
theorem zcs {r : Record} (hr : RecOk r) : ∀ (l : List Int) (N k : Nat) (i : Int), r.values.drop k = l -> i = k -> l.length < N -> zf z59 N (i, r) = some (l.all vr && decide (r.kind = 2) && decide (r.values.length = r.keys.length))
 | l, 0, _, _, _, _, h => by omega
 | [], N + 1, k, i, h1, h2, _ => by
   have := z0c h1; rw [z6, z6f]; unfold z2y; simp only [List.all_nil, Bool.true_and]; rw [zF (by omega), zD]; by_cases c : r.kind = 2
   · rw [zT c, zC, Bool.true_and]; congr 1; rw [Bool.eq_iff_iff]; simp only [decide_eq_true_eq]; omega
   · rw [zF c, zD]; rfl
 | a :: l, N + 1, k, i, h1, h2, h3 => by
   obtain ⟨g1, g2, g3⟩ := zu h1; have hv := hr.2; subst h2; have ih := zcs hr l N (k + 1) (w64 (k + 1)) g3 (by rw [zg (by omega) (by omega)]; omega) (by simp at h3; omega); rw [z6, z6f]; unfold z2y; simp only [Int.toNat_natCast, g2, ih, List.all_cons, vr]; rw [zT (show (k : Int) < r.values.length by omega), zT (show (0 : Int) <= k by omega)]; simp only [zC]; by_cases c1 : a < -1
   · rw [zT c1, zF (show ¬ -1 <= a by omega)]; simp
   · rw [zF c1, zT (show -1 <= a by omega), zD]; by_cases c2 : 512 <= a
     · rw [zT c2, zF (show ¬ a < 512 by omega)]; simp
     · rw [zF c2, zT (show a < 512 by omega), zD]; simp
theorem znk {r : Record} (hr : RecOk r) : z99 r = some (z1e r) := by
 refine z10 (r.values.length + 1) fun N hN => ?_
 unfold z98 z1e; by_cases h1 : r.seq < 0
 · rw [zT h1, zC, zF (show ¬ 0 <= r.seq by omega)]; rfl
 · by_cases h2 : 1099511627776 < r.seq
   · rw [zF h1, zD, zT h2, zC, zF (show ¬ r.seq <= 1099511627776 by omega)]; simp
   · rw [zF h1, zD, zF h2, zD, zT (show 0 <= r.seq by omega), zT (show r.seq <= 1099511627776 by omega), zq5 hr.1, z7]; cases keysT r.keys with
     | false => rfl
     | true =>
       simp only [Bool.not_true, zD, Bool.true_and]; by_cases h3 : r.kind = 1
       · rw [zT h3, zC, if_pos h3]; congr 1; rw [Bool.eq_iff_iff]; simp
       · rw [zF h3, zD, if_neg h3]; exact zcs hr r.values N 0 0 rfl rfl (by omega)
theorem zgv {r : Record} (hr : RecOk r) : ∀ (l : List Int) (N k : Nat) (i : Int), r.values.drop k = l -> i = k -> l.length < N -> zf z84 N (r.values, (r.values.length : Int), i, r) = some (l.all vr && (if r.kind = 1 then decide (r.values = []) else decide (r.kind = 2) && decide (r.values.length = r.keys.length)))
 | l, 0, _, _, _, _, h => by omega
 | [], N + 1, k, i, h1, h2, _ => by
   have := z0c h1; rw [z6, z8r]; unfold z4m; simp only [List.all_nil, Bool.true_and]; rw [zF (by omega), zD]; by_cases c1 : r.kind = 1
   · rw [zT c1, zC, if_pos c1]; congr 1; rw [Bool.eq_iff_iff]; simp
   · rw [zF c1, zD, if_neg c1]; by_cases c : r.kind = 2
     · rw [zT c, zC, Bool.true_and]; congr 1; rw [Bool.eq_iff_iff]; simp only [decide_eq_true_eq]; omega
     · rw [zF c, zD]; rfl
 | a :: l, N + 1, k, i, h1, h2, h3 => by
   obtain ⟨g1, g2, g3⟩ := zu h1; have hv := hr.2; subst h2; have ih := zgv hr l N (k + 1) (w64 (k + 1)) g3 (by rw [zg (by omega) (by omega)]; omega) (by simp at h3; omega); rw [z6, z8r]; unfold z4m; simp only [Int.toNat_natCast, g2, ih, List.all_cons, vr]; rw [zT (show (k : Int) < r.values.length by omega), zT (show (0 : Int) <= k by omega)]; simp only [zC]; by_cases c1 : a < -1
   · rw [zT c1, zF (show ¬ -1 <= a by omega)]; simp
   · rw [zF c1, zT (show -1 <= a by omega), zD]; by_cases c2 : 512 <= a
     · rw [zT c2, zF (show ¬ a < 512 by omega)]; simp
     · rw [zF c2, zT (show a < 512 by omega), zD]; simp
theorem zsi {r : Record} (hr : RecOk r) : zdb r = some (z1e r) := by
 refine z10 (r.values.length + 1) fun N hN => ?_
 unfold zda z1e; by_cases h1 : r.seq < 0
 · rw [zT h1, zC, zF (show ¬ 0 <= r.seq by omega)]; rfl
 · by_cases h2 : 1099511627776 < r.seq
   · rw [zF h1, zD, zT h2, zC, zF (show ¬ r.seq <= 1099511627776 by omega)]; simp
   · rw [zF h1, zD, zF h2, zD, zT (show 0 <= r.seq by omega), zT (show r.seq <= 1099511627776 by omega), zvy hr.1, z7]; cases keysT r.keys with
     | false => rfl
     | true =>
       simp only [Bool.not_true, zD, Bool.true_and]; rw [zgv hr r.values N 0 0 rfl rfl (by omega)]; by_cases h3 : r.kind = 1
       · rw [if_pos h3, if_pos h3]; congr 1
         cases hv : r.values with
         | nil => rfl
         | cons a l => simp
       · rw [if_neg h3, if_neg h3, Bool.and_assoc]
def zdr (d : Int) (l : List Int) : List Int := l.map fun n => w64 (n + d)
def bodyT (r : Record) : Str := (packT [r.kind, r.seq]).1 ++ (packT r.keys).1 ++ (packT (zdr 1 r.values)).1
def z8w (r : Record) (data : Str) : Str × Int := if z1e r = false \/ 16 < data.length then ([], 1) else (bodyT r ++ bytes4 (crcT (bodyT r ++ data)), 0)
theorem zq7 : ∀ (l : List Int) (s : Str), (packL l s).1.length <= s.length + 6 * l.length
 | [], s => by simp [packL]
 | n :: l, s => by
   unfold packL; split
   · simp
   · have h1 := zq7 l (s ++ putV n); have h2 := zcd n; simp at h1 ⊢; omega
theorem z3y (l : List Int) : (packT l).1.length <= 6 * l.length + 6 := by
 have h1 := zq7 l (putV l.length); have h2 := zcd l.length; unfold packT; omega
theorem zys {l : List Int} (h : keysT l = true) : 0 < l.length /\ l.length <= 8 := by
 unfold keysT at h; simp only [Bool.and_eq_true, decide_eq_true_eq] at h; exact ⟨h.1.2, h.2⟩
theorem z8x {r : Record} (h : z1e r = true) : 0 < r.keys.length /\ r.keys.length <= 8 /\ r.values.length <= 8 /\ 0 <= r.seq /\ r.seq <= 1099511627776 /\ (r.kind = 1 \/ r.kind = 2) /\ (r.values.all vr = true) /\ keysT r.keys = true := by
 unfold z1e at h; simp only [Bool.and_eq_true, decide_eq_true_eq] at h; obtain ⟨⟨⟨h1, h2⟩, h3⟩, h4⟩ := h; obtain ⟨k1, k2⟩ := zys h3; split at h4
 · rename_i hk; have : r.values = [] := by simpa using h4
   rw [this]; exact ⟨k1, k2, by simp, h1, h2, .inl hk, rfl, h3⟩
 · simp only [Bool.and_eq_true, decide_eq_true_eq] at h4; exact ⟨k1, k2, by omega, h1, h2, .inr h4.1.2, h4.1.1, h3⟩
theorem zex {r : Record} (h8 : r.values.length <= 8) (hk : r.keys.length <= 8) : ∀ (l : List Int) (N k : Nat) (i : Int) (acc : List Int), r.values.drop k = l -> i = k -> acc.length = k -> k <= 8 -> l.length < N -> zf z6h N (i, r, [r.kind, r.seq], acc) = some ((packT [r.kind, r.seq]).1 ++ (packT r.keys).1 ++ (packT (acc ++ zdr 1 l)).1)
 | l, 0, _, _, _, _, _, _, _, h => by omega
 | [], N + 1, k, i, acc, h1, h2, h3, h6, _ => by
   have := z0c h1; rw [z6, z79]; unfold z3n; simp only [zdr, List.map_nil, List.append_nil]; rw [zF (by omega), zD, zbr (by simp), z7, zbr (by omega), z7, zbr (by omega), z7]; have q1 := z3y [r.kind, r.seq]; have q2 := z3y r.keys; have q3 := z3y acc; simp only [List.length_cons, List.length_nil] at q1; rw [zT (by omega), zC, zT (by rw [List.length_append]; omega), zC]
 | a :: l, N + 1, k, i, acc, h1, h2, h3, h6, h5 => by
   obtain ⟨g1, g2, g3⟩ := zu h1; subst h2; have ih := zex h8 hk l N (k + 1) (w64 (k + 1)) (acc ++ [w64 (a + 1)]) g3 (by rw [zg (by omega) (by omega)]; omega) (by simp; omega) (by omega) (by simp at h5; omega); rw [z6, z79]; unfold z3n; simp only [Int.toNat_natCast, g2, ih]; rw [zT (show (k : Int) < r.values.length by omega), zT (show (0 : Int) <= k by omega)]; simp only [zC]; rw [zT (by simp; omega), zC, zT (by simp; omega), zC]; simp [zdr]
theorem zq8 {r : Record} (h : z1e r = true) : zav r = some (bodyT r) := by
 obtain ⟨_, h1, h2, _⟩ := z8x h; refine z10 9 fun N hN => ?_
 have := zex h2 h1 r.values N 0 0 [] rfl rfl rfl (by omega) (by omega); rw [List.nil_append] at this; exact this
theorem zjm {r : Record} (h : z1e r = true) : (bodyT r).length <= 200 := by
 obtain ⟨_, h1, h2, _⟩ := z8x h; have q1 := z3y [r.kind, r.seq]; have q2 := z3y r.keys; have q3 := z3y (zdr 1 r.values); have q4 : (zdr 1 r.values).length = r.values.length := by simp [zdr]
 simp only [List.length_cons, List.length_nil] at q1; unfold bodyT; simp only [List.length_append]; omega
theorem zko {r : Record} {data : Str} (hr : RecOk r) (hd : data.length < 4294967296) : z81 (r, data) = some (z8w r data) := by
 show z4j r data = _; unfold z4j z8w; rw [znk hr, z7]; cases h : z1e r with
 | false => rfl
 | true =>
   rw [Bool.not_true, zD]; by_cases h2 : 16 < data.length
   · rw [zT (show (16 : Int) < data.length by omega), zC, if_pos (.inr h2)]
   · have hb := zjm h; rw [zF (show ¬ (16 : Int) < data.length by omega), zD, if_neg (by simp; omega), zq8 h, z7, zT (by omega), zC, zse (by simp; omega), z7, znj (zyl _), z7, zT (by simp [bytes4]; omega), zC]
theorem zhj : ∀ (l : List Int) (s : Str), (∀ n ∈ l, 0 <= n /\ n <= 1099511627776) -> (packL l s).2 = 0
 | [], s, _ => rfl
 | n :: l, s, h => by
   have h1 := h n List.mem_cons_self; unfold packL; have : putV n ≠ [] := by
    unfold putV; rw [if_neg (by omega)]; exact zsg 5 _
   rw [if_neg this]; exact zhj l _ fun m hm => h m (List.mem_cons_of_mem _ hm)
theorem znl {l : List Int} (h : l.all vr = true) : ∀ n ∈ l, -1 <= n /\ n < 512 := by
 intro n hn; have := List.all_eq_true.1 h n hn; unfold vr at this; simpa using this
theorem zli : ∀ {l : List Int} {p : Option Int}, chkL p l = true -> ∀ n ∈ l, 0 <= n /\ n < 64
 | [], _, _, n, hn => by cases hn
 | a :: l, p, h, n, hn => by
   simp only [chkL, Bool.and_eq_true] at h; rcases List.mem_cons.1 hn with rfl | hn
   · have := h.1.1; unfold inr at this; simpa using this
   · exact zli h.2 n hn
theorem zjn {l : List Int} (h : keysT l = true) : ∀ n ∈ l, 0 <= n /\ n < 64 := by
 unfold keysT at h; simp only [Bool.and_eq_true] at h; exact zli h.1.1
theorem zgw {d : Int} {n : Nat} (hs : n < 4294967296) : ∀ (l : List Int) (N k : Nat) (i : Int) (pre : List Int), pre.length = k -> k + l.length = n -> i = k -> l.length < N -> zf z85 N (d, (n : Int), i, pre ++ l) = some (pre ++ zdr d l)
 | l, 0, _, _, _, _, _, _, h => by omega
 | [], N + 1, k, i, pre, h1, h2, h3, _ => by
   rw [z6, z8s]; unfold z4n; simp only [List.length_nil] at h2; simp only [zdr, List.map_nil]; rw [zF (by omega), zD]
 | a :: l, N + 1, k, i, pre, h1, h2, h3, h4 => by
   subst h3; simp only [List.length_cons] at h2 h4; have g2 : ∀ d, (pre ++ a :: l).getD k d = a := fun d => by subst h1; simp [zI]
   have g3 : ∀ x, (pre ++ a :: l).set k x = (pre ++ [x]) ++ l := fun x => by subst h1; simp
   have ih := zgw (d := d) hs l N (k + 1) (w64 (k + 1)) (pre ++ [w64 (a + d)]) (by simp; omega) (by omega) (by rw [zg (by omega) (by omega)]; omega) (by omega); rw [z6, z8s]; unfold z4n; simp only [Int.toNat_natCast, g2, g3, ih]; have hl : (pre ++ a :: l).length = n := by simp; omega
   rw [hl, zT (show (k : Int) < n by omega), zT (show (0 : Int) <= k by omega), zT (show k < n by omega)]; simp [zdr]
theorem zjo {l : List Int} {d : Int} (hs : l.length < 4294967296) : z36 (l, d) = some (zdr d l) := by
 refine z10 (l.length + 1) fun N hN => ?_
 show z9m N l d = _; unfold z9m; rw [zT (by omega), zC, zT (by omega), zC]; exact zgw hs l N 0 0 [] rfl (by simp) rfl (by omega)
theorem zq9 {r : Record} {data : Str} (hr : RecOk r) (hd : data.length < 4294967296) : zb2 (r, data) = some (z8w r data) := by
 show z7k r data = _; unfold z7k z8w; rw [zsi hr, z7]; cases h : z1e r with
 | false => rfl
 | true =>
   rw [Bool.not_true, zD]; by_cases h2 : 16 < data.length
   · rw [zT (show (16 : Int) < data.length by omega), zC, if_pos (.inr h2)]
   · have hb := zjm h; obtain ⟨_, k1, k2, k3, k4, k5, k6, k7⟩ := z8x h; have q1 := z3y [r.kind, r.seq]; have q2 := z3y r.keys; have q3 := z3y (zdr 1 r.values); have q4 : (zdr 1 r.values).length = r.values.length := by simp [zdr]
     have e1 : (packT [r.kind, r.seq]).2 = 0 := zhj _ _ (by intro n hn; simp at hn; rcases hn with rfl | rfl <;> omega); have e2 : (packT r.keys).2 = 0 := zhj _ _ (by intro n hn; have := zjn k7 n hn; omega); have e3 : (packT (zdr 1 r.values)).2 = 0 := zhj _ _ (by
      intro n hn; unfold zdr at hn; obtain ⟨m, hm, rfl⟩ := List.mem_map.1 hn; have := znl k6 m hm; rw [zg (by omega) (by omega)]; omega)
     have hb' := hb; unfold bodyT at hb'; simp only [List.length_cons, List.length_nil] at q1; rw [zF (show ¬ (16 : Int) < data.length by omega), zD, if_neg (by simp; omega), zjo (by omega), z7, zdq (by simp), z7, e1, zT rfl, Bool.not_true, zD, zT (by omega), zC, zdq (by omega), z7, e2, zT rfl, Bool.not_true, zD, zT (by omega), zC, zdq (by omega), z7, e3, zT rfl, Bool.not_true, zD, zT (by rw [List.length_append]; omega), zC, zT (by omega), zC]; rw [zym (by rw [List.length_append]; omega), z7, zsf (zyl _), z7, zT (by simp only [bytes4, List.length_cons, List.length_nil]; omega), zC]; rfl
def zRec : Record := ⟨0, 0, [], []⟩
def mvT (l : List Int) : List Int := l.map fun n => w64 (n - 1)
def decT (tag data : Str) : Record × Int :=
 if (zd tag).2.2 ≠ 0 \/ (zd (zd tag).2.1).2.2 ≠ 0 \/ (zd (zd (zd tag).2.1).2.1).2.2 ≠ 0 \/ (zd tag).1.length ≠ 2 then (zRec, 30)
 else
  if (z8w ⟨(zd tag).1.getD 0 0, (zd tag).1.getD 1 0, (zd (zd tag).2.1).1, mvT (zd (zd (zd tag).2.1).2.1).1⟩ data).2 ≠ 0 \/
   (z8w ⟨(zd tag).1.getD 0 0, (zd tag).1.getD 1 0, (zd (zd tag).2.1).1, mvT (zd (zd (zd tag).2.1).2.1).1⟩ data).1 ≠ tag then (zRec, 30)
  else (⟨(zd tag).1.getD 0 0, (zd tag).1.getD 1 0, (zd (zd tag).2.1).1, mvT (zd (zd (zd tag).2.1).2.1).1⟩, 0)
theorem zjp : ∀ (k : Nat) (s : Str) (acc : List Int), (unpackL k s acc).2.1.length <= s.length /\ (unpackL k s acc).1.length <= acc.length + k
 | 0, s, acc => by simp [unpackL]
 | k + 1, s, acc => by
   unfold unpackL; split
   · simp
   · have h1 := zjp k (z6t s).2.1 (acc ++ [(z6t s).1]); have h2 := zeu s; simp at h1 ⊢; omega
theorem z37 (s : Str) : (zd s).2.1.length <= s.length /\ (zd s).1.length <= s.length := by
 unfold zd; split
 · simp
 · rename_i h; have h1 := zjp (z6t s).1.toNat (z6t s).2.1 []; have h2 := zeu s; have h3 : ¬ ((z6t s).2.1.length : Int) < (z6t s).1 := fun e => h (.inr e)
   simp at h1; omega
def PageOk (p : Page) : Prop := p.tag.length < 4294967296 /\ p.data.length < 4294967296
def z6u (p : Page) : Int × Record := if p.written = false then (0, zRec) else if (decT p.tag p.data).2 ≠ 0 then (2, zRec) else (1, (decT p.tag p.data).1)
def makeT (w : Write) : Page × Int := if (z8w w.record w.data).2 ≠ 0 then (⟨false, [], []⟩, (z8w w.record w.data).2) else (⟨true, w.data, (z8w w.record w.data).1⟩, 0)
def WriteOk (w : Write) : Prop := RecOk w.record /\ w.data.length < 4294967296
theorem zgx {w : Write} (h : WriteOk w) : z7d w = some (makeT w) := by
 show z7c w = _; unfold z7c makeT; rw [zko h.1 h.2, z7]; by_cases c : (z8w w.record w.data).2 = 0
 · rw [zT c, Bool.not_true, zD, if_neg (by simp [c])]
 · rw [zF c, Bool.not_false, zC, if_pos c]
end Clk
namespace Clk
open Go
def z12 (c : Chip) : Prop := c.blocks.length < 4294967296 /\ ∀ b ∈ c.blocks, b.pages.length < 4294967296
theorem z0d {α : Type} {l : List α} {i : Nat} {d : α} (h : i < l.length) : l.getD i d ∈ l := by
 rw [zI, zH h]; exact List.getElem_mem h
theorem z12.get {c : Chip} (h : z12 c) {i : Nat} (hi : i < c.blocks.length) (d : Block) : (c.blocks.getD i d).pages.length < 4294967296 := h.2 _ (z0d hi)
theorem zlj (acc : List Block) (n e : Int) (b : Bool) (p q : List Page) : z11 (acc ++ [⟨q, n, e, b⟩]) acc.length p = acc ++ [⟨p, n, e, b⟩] := by
 unfold z11; simp [zI]
theorem zyt {α : Type} {xs : List α} {k : Nat} {d : α} (h : k < xs.length) : xs.take k ++ [xs.getD k d] = xs.take (k + 1) := by
 rw [List.take_add_one, zH h, zI, zH h]; rfl
theorem zbs {R : Type} {c : Chip} (h : z12 c) {k : Nat} {i : Int} (hi : i = k) (hk : k < c.blocks.length) {ih : Int -> List Block -> Option R} {e : Option R} :
 cond (decide (i < (c.blocks.length : Int)))
  (cond (decide (0 <= i)) (cond (decide (i < (c.blocks.length : Int))) (cond (decide ((0 + (c.blocks.getD i.toNat default).pages.length) * 40 <= 70368744177664)) (cond (decide (0 + (c.blocks.getD i.toNat default).pages.length <= 70368744177664)) (cond (decide (((c.blocks.take k).length + 1) * 48 <= 70368744177664)) (cond (decide ((c.blocks.take k).length + 1 <= 70368744177664))
    (ih (w64 (i + 1)) (z11 (c.blocks.take k ++ [(Block.mk [] (c.blocks.getD i.toNat default).next (c.blocks.getD i.toNat default).erases (c.blocks.getD i.toNat default).bad)]) (c.blocks.take k).length ([] ++ (c.blocks.getD i.toNat default).pages))) none) none) none) none) none) none) e = ih ((k + 1 : Nat) : Int) (c.blocks.take (k + 1)) := by
 subst hi; have h1 := h.1; have h2 := h.get hk default; simp only [Int.toNat_natCast, zlj, List.nil_append]; rw [zT (show (k : Int) < c.blocks.length by omega), zT (show (0 : Int) <= k by omega)]; simp only [zC]; rw [zT (by omega), zC, zT (by omega), zC, zT (by rw [List.length_take]; omega), zC, zT (by rw [List.length_take]; omega), zC, zg (by omega) (by omega), <- zyt (d := default) hk]; rfl
theorem zqa {c : Chip} (h : z12 c) : ∀ (m N k : Nat) (i : Int), k + m = c.blocks.length -> i = k -> m < N -> zf z2d N (i, c, c.blocks.take k) = some (⟨c.blocks, true, c.off, c.ops⟩, 1)
 | m, 0, _, _, _, _, h => by omega
 | 0, N + 1, k, i, h1, h2, _ => by
   rw [z6, z5c]; unfold z2c; simp only; rw [zF (by omega), zD, List.take_of_length_le (by omega)]
 | m + 1, N + 1, k, i, h1, h2, h3 => by
   rw [z6, z5c]; unfold z2c; rw [zbs (ih := fun i l => zf z2d N (i, c, l)) h h2 (by omega)]; exact zqa h m N (k + 1) _ (by omega) rfl (by omega)
def brkT (c : Chip) : Chip × Int := (⟨c.blocks, true, c.off, c.ops⟩, 1)
theorem ztx {c : Chip} (h : z12 c) : zz c = some (brkT c) := by
 refine z10 (c.blocks.length + 1) fun N hN => ?_
 exact zqa h c.blocks.length N 0 0 (by omega) rfl (by omega)
def thereT (c : Chip) (b p : Int) : Bool := decide (0 <= b) && decide (b < c.blocks.length) && decide (0 <= p) && decide (p < (c.blocks.getD b.toNat default).pages.length)
theorem z03m (c : Chip) (b p : Int) : z9d (c, b, p) = some (thereT c b p) := by
 show z5i c b p = _; unfold z5i thereT; cases decide (0 <= b) with
 | false => rfl
 | true => cases decide (b < (c.blocks.length : Int)) with
   | false => rfl
   | true => cases decide (0 <= p) <;> simp
def z2f (bl : Block) (p : Int) (page : Page) (f : Fate) : Block :=
 ⟨bl.pages.set p.toNat (if f.kind = 0 then ⟨true, page.data, page.tag⟩ else ⟨true, f.data, f.tag⟩), w64 (bl.next + 1), bl.erases, decide (f.kind = 1)⟩
def canProg (c : Chip) (b p : Int) (f : Fate) : Bool :=
 thereT c b p && !(c.blocks.getD b.toNat default).bad && decide ((c.blocks.getD b.toNat default).next = p) && decide (0 <= f.kind) && decide (f.kind <= 2)
def z1q (c : Chip) (b p : Int) (page : Page) (f : Fate) : Chip × Int :=
 if c.off then (c, 52) else if canProg c b p f then
  (⟨c.blocks.set b.toNat (z2f (c.blocks.getD b.toNat default) p page f), c.broken, decide (f.kind = 2), w64 (c.ops + 1)⟩, if f.kind = 0 then 0 else if f.kind = 1 then 53 else 52)
 else brkT c
theorem z07 {α : Type} {l : List α} {i : Nat} {x d : α} (h : i < l.length) : (l.set i x).getD i d = x := by
 rw [zI, List.getElem?_set_self h]; rfl
theorem z1f {c : Chip} {b p : Int} {f : Fate} : canProg c b p f = true ↔ 0 <= b /\ b < c.blocks.length /\ 0 <= p /\ p < (c.blocks.getD b.toNat default).pages.length /\ (c.blocks.getD b.toNat default).bad = false /\ (c.blocks.getD b.toNat default).next = p /\ 0 <= f.kind /\ f.kind <= 2 := by
 unfold canProg thereT; simp only [Bool.and_eq_true, decide_eq_true_eq, Bool.not_eq_true']; constructor
 · rintro ⟨⟨⟨⟨⟨⟨⟨h1, h2⟩, h3⟩, h4⟩, h5⟩, h6⟩, h7⟩, h8⟩; exact ⟨h1, h2, h3, h4, h5, h6, h7, h8⟩
 · rintro ⟨h1, h2, h3, h4, h5, h6, h7, h8⟩; exact ⟨⟨⟨⟨⟨⟨⟨h1, h2⟩, h3⟩, h4⟩, h5⟩, h6⟩, h7⟩, h8⟩
theorem zsj {c : Chip} {b p : Int} {page : Page} {f : Fate} (hoff : c.off = false) (hc : canProg c b p f = true) {ih} {i : Int} (hi : i = c.blocks.length) : z0z b p ih i page f c c.blocks = some (z1q c b p page f) := by
 have hc' := hc; obtain ⟨h1, h2, h3, h4, h5, h6, h7, h8⟩ := z1f.1 hc; have hb : b.toNat < c.blocks.length := by omega
 have hp : p.toNat < (c.blocks.getD b.toNat default).pages.length := by omega
 unfold z0z z1q; rw [zF (by omega), zD, hoff, if_neg (by simp), if_pos hc']; have hk : f.kind = 0 \/ f.kind = 1 \/ f.kind = 2 := by omega
 generalize hbl : c.blocks.getD b.toNat default = bl at *; have e1 : ∀ v, z00 c.blocks b.toNat v = c.blocks.set b.toNat ⟨bl.pages, v, bl.erases, bl.bad⟩ := fun v => by unfold z00; rw [hbl]
 have e2 : ∀ v y, za2 (c.blocks.set b.toNat y) b.toNat v = c.blocks.set b.toNat ⟨y.pages, y.next, y.erases, v⟩ := fun v y => by unfold za2; rw [z07 hb, List.set_set]
 have e3 : ∀ v y, z11 (c.blocks.set b.toNat y) b.toNat v = c.blocks.set b.toNat ⟨v, y.next, y.erases, y.bad⟩ := fun v y => by unfold z11; rw [z07 hb, List.set_set]
 simp only [e1, e2, e3, List.length_set, z07 hb, zT h1, zT h2, zT hb, zT h3, zT h4, zT hp, zC, decide_true]; rcases hk with hk | hk | hk <;> simp [hk, z2f, h5, hoff]
theorem zlk {c : Chip} (h : z12 c) {b p : Int} {page : Page} {f : Fate} (hoff : c.off = false) (hc : canProg c b p f = true) : ∀ (m N k : Nat) (i : Int), k + m = c.blocks.length -> i = k -> m < N -> zf (z1v b p) N (i, page, f, c, c.blocks.take k) = some (z1q c b p page f)
 | m, 0, _, _, _, _, h => by omega
 | 0, N + 1, k, i, h1, h2, _ => by
   rw [z6, z4v, List.take_of_length_le (by omega)]; exact zsj hoff hc (by omega)
 | m + 1, N + 1, k, i, h1, h2, h3 => by
   rw [z6, z4v]; unfold z0z; rw [zbs (ih := fun i l => zf (z1v b p) N (i, page, f, c, l)) h h2 (by omega)]; exact zlk h hoff hc m N (k + 1) _ (by omega) rfl (by omega)
theorem zll {c : Chip} (h : z12 c) : ∀ (m N k : Nat) (i : Int), k + m = c.blocks.length -> i = k -> m < N -> zf z1u N (i, c, c.blocks.take k) = some (⟨c.blocks, c.broken, c.off, c.ops⟩, 52)
 | m, 0, _, _, _, _, h => by omega
 | 0, N + 1, k, i, h1, h2, _ => by
   rw [z6, z4u]; unfold z1t; simp only; rw [zF (by omega), zD, List.take_of_length_le (by omega)]
 | m + 1, N + 1, k, i, h1, h2, h3 => by
   rw [z6, z4u]; unfold z1t; rw [zbs (ih := fun i l => zf z1u N (i, c, l)) h h2 (by omega)]; exact zll h m N (k + 1) _ (by omega) rfl (by omega)
theorem zbt {c : Chip} (h : z12 c) (b p : Int) (page : Page) (f : Fate) : zk (c, b, p, page, f) = some (z1q c b p page f) := by
 refine z10 (c.blocks.length + 1) fun N hN => ?_
 show z3o N c b p page f = _; unfold z3o; cases hoff : c.off with
 | true =>
   rw [zC]; have := zll h c.blocks.length N 0 0 (by omega) rfl (by omega); rw [List.take_zero] at this; rw [this]; unfold z1q; rw [if_pos hoff]
 | false =>
   rw [zD, z03m, z7, ztx h]; simp only [z7]; have hbrk : canProg c b p f = false -> z1q c b p page f = brkT c := fun hc => by unfold z1q; rw [hoff, if_neg (by simp), hc]; rfl
   cases ht : thereT c b p with
   | false =>
     rw [hbrk (by unfold canProg; rw [ht]; rfl)] <;> rfl
   | true =>
     have ht' := ht; unfold thereT at ht'; simp only [Bool.and_eq_true, decide_eq_true_eq] at ht'; obtain ⟨⟨⟨h1, h2⟩, h3⟩, h4⟩ := ht'; rw [Bool.not_true, zD, zT h1, zT h2]; simp only [zC]; cases hbd : (c.blocks.getD b.toNat default).bad with
     | true =>
       rw [zC, hbrk (by unfold canProg; rw [hbd]; simp)] <;> rfl
     | false =>
       rw [zD]; by_cases hn : (c.blocks.getD b.toNat default).next = p
       · rw [zT hn, Bool.not_true, zD]; by_cases hk1 : f.kind < 0
         · rw [zT hk1, zC, hbrk (by unfold canProg; rw [zF (show ¬ 0 <= f.kind by omega)]; simp)] <;> rfl
         · rw [zF hk1, zD]; by_cases hk2 : 2 < f.kind
           · rw [zT hk2, zC, hbrk (by unfold canProg; rw [zF (show ¬ f.kind <= 2 by omega)]; simp)] <;> rfl
           · rw [zF hk2, zD]; have := zlk h (page := page) (f := f) hoff (z1f.2 ⟨h1, h2, h3, h4, hbd, hn, by omega, by omega⟩) c.blocks.length N 0 0 (by omega) rfl (by omega); rw [List.take_zero] at this; exact this
       · rw [zF hn, Bool.not_false, zC, hbrk (by unfold canProg; rw [zF hn]; simp)] <;> rfl
end Clk
namespace Clk
open Go
def z5b : Page := ⟨false, [], []⟩
def clrT (all : Bool) (n : Int) : Nat -> List Page -> List Page
 | _, [] => []
 | i, p :: l => (if all = true \/ (i : Int) < n then z5b else p) :: clrT all n (i + 1) l
def z5z (bl : Block) (f : Fate) : Block :=
 if f.kind = 1 then ⟨bl.pages, bl.next, bl.erases, true⟩
 else ⟨clrT (decide (f.kind = 0)) f.n 0 bl.pages, if f.kind = 2 then bl.pages.length else 0, w64 (bl.erases + 1), bl.bad⟩
def canEra (c : Chip) (b : Int) (f : Fate) : Bool :=
 decide (0 <= b) && decide (b < c.blocks.length) && !(c.blocks.getD b.toNat default).bad && decide (0 <= f.kind) && decide (f.kind <= 2)
def zct (c : Chip) (b : Int) (f : Fate) : Chip × Int :=
 if c.off then (c, 52) else if canEra c b f then
  (⟨c.blocks.set b.toNat (z5z (c.blocks.getD b.toNat default) f), c.broken, decide (f.kind = 2), w64 (c.ops + 1)⟩, if f.kind = 0 then 0 else if f.kind = 1 then 53 else 52)
 else brkT c
theorem znm (all : Bool) (n : Int) : ∀ (i : Nat) (l : List Page), (clrT all n i l).length = l.length
 | _, [] => rfl
 | i, p :: l => by simp [clrT, znm all n (i + 1) l]
theorem zty {C : List Block} {b : Nat} (hb : b < C.length) {f : Fate} (hk : f.kind = 0 \/ f.kind = 2) {nx e : Int} {bd brk off : Bool} {ops : Int} : ∀ (l : List Page) (N k : Nat) (i : Int) (pre : List Page), pre.length = k -> i = k -> k + l.length < 4294967296 -> l.length < N ->
 zf z32 N ((b : Int), i, f, C.set b ⟨pre ++ l, nx, e, bd⟩, brk, off, ops) =
  some (⟨C.set b ⟨pre ++ clrT (decide (f.kind = 0)) f.n k l, if f.kind = 2 then ((k + l.length : Nat) : Int) else 0, e, bd⟩, brk, off || decide (f.kind = 2), ops⟩, if f.kind = 2 then 52 else 0)
 | l, 0, _, _, _, _, _, _, h => by omega
 | [], N + 1, k, i, pre, h1, h2, h3, _ => by
   rw [z6, z6j]; unfold z31; simp only [Int.toNat_natCast, List.length_set, z07 hb, zT hb, zC, decide_true, List.append_nil]; rw [zF (show ¬ i < (pre.length : Int) by omega), zD]; have e1 : ∀ v y, z00 (C.set b y) b v = C.set b ⟨y.pages, v, y.erases, y.bad⟩ := fun v y => by unfold z00; rw [z07 hb, List.set_set]
   have e3 : ∀ v y, z11 (C.set b y) b v = C.set b ⟨v, y.next, y.erases, y.bad⟩ := fun v y => by unfold z11; rw [z07 hb, List.set_set]
   simp only [e1, e3, List.length_set, zT hb, zC, clrT, List.append_nil, List.length_nil, Nat.add_zero]; rcases hk with hk | hk <;> simp [hk, h1]
 | p :: l, N + 1, k, i, pre, h1, h2, h3, h4 => by
   subst h2; simp only [List.length_cons] at h3 h4; have hl : (pre ++ p :: l).length = k + (l.length + 1) := by simp [h1]
   have g3 : ∀ x, (pre ++ p :: l).set k x = (pre ++ [x]) ++ l := fun x => by subst h1; simp
   have e3 : ∀ v y, z11 (C.set b y) b v = C.set b ⟨v, y.next, y.erases, y.bad⟩ := fun v y => by unfold z11; rw [z07 hb, List.set_set]
   have ih := fun x => zty hb hk (nx := nx) (e := e) (bd := bd) (brk := brk) (off := off) (ops := ops) l N (k + 1) (w64 (k + 1)) (pre ++ [x]) (by simp [h1]) (by rw [zg (by omega) (by omega)]; omega) (by omega) (by omega)
   rw [z6, z6j]; unfold z31; simp only [Int.toNat_natCast, List.length_set, z07 hb, zT hb, zC, decide_true, e3, g3, hl]; rw [zT (show (k : Int) < ((k + (l.length + 1) : Nat) : Int) by omega), zT (show (0 : Int) <= k by omega), zT (show k < k + (l.length + 1) by omega)]; simp only [zC]; have hp0 : pre ++ p :: l = (pre ++ [p]) ++ l := by simp
   rw [hp0, ih p]; have hz : zf z32 N ((b : Int), w64 (k + 1), f, C.set b ⟨pre ++ [Page.mk false [] []] ++ l, nx, e, bd⟩, brk, off, ops) = _ := ih z5b; rw [hz]; rcases hk with hk | hk
   · simp [hk, clrT]
   · by_cases hn : (k : Int) < f.n
     · have hkl : k + 1 + l.length = k + (l.length + 1) := by omega
       rw [hkl]; simp [hk, clrT, hn]
     · have hkl : k + 1 + l.length = k + (l.length + 1) := by omega
       rw [hkl]; simp [hk, clrT, hn]
theorem zyu {c : Chip} (h : z12 c) {b : Int} {f : Fate} (hoff : c.off = false) (hc : canEra c b f = true) {M : Nat} (hM : ∀ b ∈ c.blocks, b.pages.length < M) {ih} {i : Int} (hi : i = c.blocks.length) : z1l M b ih i f c c.blocks = some (zct c b f) := by
 have hc' := hc; unfold canEra at hc; simp only [Bool.and_eq_true, decide_eq_true_eq, Bool.not_eq_true'] at hc; obtain ⟨⟨⟨⟨h1, h2⟩, h5⟩, h7⟩, h8⟩ := hc; have hb : b.toNat < c.blocks.length := by omega
 have hM' := hM _ (z0d (d := default) hb); have hl := h.get hb default; unfold z1l zct; rw [zF (by omega), zD, hoff, if_neg (by simp), if_pos hc']; have hk : f.kind = 1 \/ (f.kind = 0 \/ f.kind = 2) := by omega
 generalize hbl : c.blocks.getD b.toNat default = bl at *; have e2 : ∀ v, za2 c.blocks b.toNat v = c.blocks.set b.toNat ⟨bl.pages, bl.next, bl.erases, v⟩ := fun v => by unfold za2; rw [hbl]
 have e3 : ∀ v, bErases c.blocks b.toNat v = c.blocks.set b.toNat ⟨bl.pages, bl.next, v, bl.bad⟩ := fun v => by unfold bErases; rw [hbl]
 simp only [e2, e3, zT h1, zT h2, zT hb, zC]; rcases hk with hk | hk
 · simp [hk, z5z, hoff]
 · rw [zF (show ¬ f.kind = 1 by omega), zD]; have := zty hb hk (nx := bl.next) (e := w64 (bl.erases + 1)) (bd := bl.bad) (brk := c.broken) (off := false) (ops := w64 (c.ops + 1)) bl.pages M 0 0 [] rfl rfl (by omega) hM'; rw [List.nil_append] at this; rw [this]; have hk1 : ¬ f.kind = 1 := by omega
   rcases hk with hk | hk <;> simp [hk, z5z]
theorem ztz {c : Chip} (h : z12 c) {b : Int} {f : Fate} (hoff : c.off = false) (hc : canEra c b f = true) {M : Nat} (hM : ∀ b ∈ c.blocks, b.pages.length < M) : ∀ (m N k : Nat) (i : Int), k + m = c.blocks.length -> i = k -> m < N -> zf (z33 M b) N (i, f, c, c.blocks.take k) = some (zct c b f)
 | m, 0, _, _, _, _, h => by omega
 | 0, N + 1, k, i, h1, h2, _ => by
   rw [z6, z6k, List.take_of_length_le (by omega)]; exact zyu h hoff hc hM (by omega)
 | m + 1, N + 1, k, i, h1, h2, h3 => by
   rw [z6, z6k]; unfold z1l; rw [zbs (ih := fun i l => zf (z33 M b) N (i, f, c, l)) h h2 (by omega)]; exact ztz h hoff hc hM m N (k + 1) _ (by omega) rfl (by omega)
theorem zu0 {c : Chip} (h : z12 c) : ∀ (m N k : Nat) (i : Int), k + m = c.blocks.length -> i = k -> m < N -> zf z30 N (i, c, c.blocks.take k) = some (⟨c.blocks, c.broken, c.off, c.ops⟩, 52)
 | m, 0, _, _, _, _, h => by omega
 | 0, N + 1, k, i, h1, h2, _ => by
   rw [z6, z6i]; unfold z2z; simp only; rw [zF (by omega), zD, List.take_of_length_le (by omega)]
 | m + 1, N + 1, k, i, h1, h2, h3 => by
   rw [z6, z6i]; unfold z2z; rw [zbs (ih := fun i l => zf z30 N (i, c, l)) h h2 (by omega)]; exact zu0 h m N (k + 1) _ (by omega) rfl (by omega)
theorem znn {c : Chip} (h : z12 c) (b : Int) (f : Fate) : z5k (c, b, f) = some (zct c b f) := by
 refine z10 (c.blocks.length + 4294967297) fun N hN => ?_
 show z5j N c b f = _; unfold z5j; have hN2 : 4294967297 <= N := Nat.le_trans (Nat.le_add_left _ _) hN; have hN1 : c.blocks.length < N := by omega
 clear hN; cases hoff : c.off with
 | true =>
   rw [zC]; have := zu0 h c.blocks.length N 0 0 (by omega) rfl hN1; rw [List.take_zero] at this; rw [this]; unfold zct; rw [if_pos hoff]
 | false =>
   rw [zD, ztx h]; simp only [z7]; have hbrk : canEra c b f = false -> zct c b f = brkT c := fun hc => by unfold zct; rw [hoff, if_neg (by simp), hc]; rfl
   by_cases h1 : b < 0
   · rw [zT h1, zC, hbrk (by unfold canEra; rw [zF (show ¬ 0 <= b by omega)]; simp)]
   · rw [zF h1, zD]; by_cases h2 : (c.blocks.length : Int) <= b
     · rw [zT h2, zC, hbrk (by unfold canEra; rw [zF (show ¬ b < c.blocks.length by omega)]; simp)]
     · rw [zF h2, zD, zT (show 0 <= b by omega), zT (show b < c.blocks.length by omega)]; simp only [zC]; cases hbd : (c.blocks.getD b.toNat default).bad with
       | true => rw [zC, hbrk (by unfold canEra; rw [hbd]; simp)]
       | false =>
         rw [zD]; by_cases hk1 : f.kind < 0
         · rw [zT hk1, zC, hbrk (by unfold canEra; rw [zF (show ¬ 0 <= f.kind by omega)]; simp)]
         · rw [zF hk1, zD]; by_cases hk2 : 2 < f.kind
           · rw [zT hk2, zC, hbrk (by unfold canEra; rw [zF (show ¬ f.kind <= 2 by omega)]; simp)]
           · rw [zF hk2, zD]; have hc : canEra c b f = true := by
              unfold canEra; rw [hbd, zT (show 0 <= b by omega), zT (show b < c.blocks.length by omega), zT (show 0 <= f.kind by omega), zT (show f.kind <= 2 by omega)]; rfl
             have := ztz h hoff hc (M := N) (fun b hb => by have := h.2 b hb; omega) c.blocks.length N 0 0 (by omega) rfl hN1; rw [List.take_zero] at this; exact this
def zChip : Chip := ⟨[], false, false, 0⟩
def newL (n : Int) : List Int -> List Block -> Chip × Int
 | [], bs => (⟨bs, false, false, 0⟩, 0)
 | x :: l, bs => if x < 0 \/ n <= x then (zChip, 1) else newL n l (za2 bs x.toNat true)
def newT (blocks pages : Int) (bad : List Int) : Chip × Int :=
 if blocks < 1 \/ 32 < blocks \/ pages < 1 \/ 16 < pages then (zChip, 1) else newL blocks bad (List.replicate blocks.toNat ⟨List.replicate pages.toNat z5b, 0, 0, false⟩)
theorem z021 {n : Int} {bad : List Int} (hb : bad.length < 4294967296) : ∀ (l : List Int) (N k : Nat) (i : Int) (bs : List Block), bad.drop k = l -> i = k -> (bs.length : Int) = n -> l.length < N -> zf z82 N (n, bad, i, false, false, 0, bs) = some (newL n l bs)
 | l, 0, _, _, _, _, _, _, h => by omega
 | [], N + 1, k, i, bs, h1, h2, h3, _ => by
   have := z0c h1; rw [z6, z8p]; unfold z4k; simp only [newL]; rw [zF (by omega), zD]
 | x :: l, N + 1, k, i, bs, h1, h2, h3, h4 => by
   obtain ⟨g1, g2, g3⟩ := zu h1; subst h2; rw [z6, z8p]; unfold z4k; simp only [Int.toNat_natCast, g2, newL]; rw [zT (show (k : Int) < bad.length by omega), zT (show (0 : Int) <= k by omega)]; simp only [zC]; by_cases c1 : x < 0
   · rw [zT c1, zC, if_pos (.inl c1)]; rfl
   · rw [zF c1, zD]; by_cases c2 : n <= x
     · rw [zT c2, zC, if_pos (.inr c2)]; rfl
     · rw [zF c2, zD, if_neg (by omega), zT (show 0 <= x by omega), zC, zT (show x < (bs.length : Int) by omega), zC, zT (show x.toNat < bs.length by omega), zC]; exact z021 hb l N (k + 1) _ _ g3 (by rw [zg (by omega) (by omega)]; omega) (by unfold za2; simpa using h3) (by simp at h4; omega)
theorem z022 {n p : Int} {bad : List Int} (hb : bad.length < 4294967296) (hn : n <= 32) (hp : 1 <= p) (hp2 : p <= 16) {M : Nat} (hM : bad.length < M) : ∀ (m N k : Nat) (i : Int), (k : Int) + m = n -> i = k -> m < N -> zf (z83 M) N (n, p, bad, i, false, false, 0, List.replicate k ⟨List.replicate p.toNat z5b, 0, 0, false⟩) = some (newL n bad (List.replicate n.toNat ⟨List.replicate p.toNat z5b, 0, 0, false⟩))
 | m, 0, _, _, _, _, h => by omega
 | 0, N + 1, k, i, h1, h2, _ => by
   rw [z6, z8q]; unfold z4l; simp only; rw [zF (by omega), zD, show n.toNat = k by omega]; exact z021 hb bad M 0 0 _ rfl rfl (by simp; omega) hM
 | m + 1, N + 1, k, i, h1, h2, h3 => by
   subst h2; rw [z6, z8q]; unfold z4l; simp only [zlj]; simp only [List.length_replicate]; rw [zT (show (k : Int) < n by omega), zT (show 0 <= p by omega), zT (show p <= p by omega), zT (show p * 40 <= 70368744177664 by omega), zT (show p <= 70368744177664 by omega), zT (show (k + 1) * 48 <= 70368744177664 by omega), zT (show k + 1 <= 70368744177664 by omega)]; simp only [zC]; have e : List.replicate k (Block.mk (List.replicate p.toNat z5b) 0 0 false) ++ [⟨List.replicate p.toNat (default : Page), 0, 0, false⟩] = List.replicate (k + 1) ⟨List.replicate p.toNat z5b, 0, 0, false⟩ := by
    rw [List.replicate_succ']; rfl
   rw [e]; exact z022 hb hn hp hp2 hM m N (k + 1) _ (by omega) (by rw [zg (by omega) (by omega)]; omega) (by omega)
theorem zsk {n p : Int} {bad : List Int} (hb : bad.length < 4294967296) : zd8 (n, p, bad) = some (newT n p bad) := by
 refine z10 (bad.length + 34) fun N hN => ?_
 show z9e N n p bad = _; unfold z9e newT; by_cases c1 : n < 1
 · rw [zT c1, zC, if_pos (.inl c1)]; rfl
 · rw [zF c1, zD]; by_cases c2 : 32 < n
   · rw [zT c2, zC, if_pos (.inr (.inl c2))]; rfl
   · rw [zF c2, zD]; by_cases c3 : p < 1
     · rw [zT c3, zC, if_pos (.inr (.inr (.inl c3)))]; rfl
     · rw [zF c3, zD]; by_cases c4 : 16 < p
       · rw [zT c4, zC, if_pos (.inr (.inr (.inr c4)))]; rfl
       · rw [zF c4, zD, if_neg (by omega)]; exact z022 hb (by omega) (by omega) (by omega) (M := N) (by omega) n.toNat N 0 0 (by omega) rfl (by omega)
end Clk
namespace Clk
open Go
def z2n (b p : Int) : Int := if b < 0 \/ 32 <= b \/ p < 0 \/ 16 <= p then -1 else b * 16 + p
theorem zno (b p : Int) : zmt (b, p) = some (z2n b p) := by
 show z9c b p = _; unfold z9c z2n; by_cases c1 : b < 0
 · rw [zT c1, zC, if_pos (.inl c1)]
 · rw [zF c1, zD]; by_cases c2 : 32 <= b
   · rw [zT c2, zC, if_pos (.inr (.inl c2))]
   · rw [zF c2, zD]; by_cases c3 : p < 0
     · rw [zT c3, zC, if_pos (.inr (.inr (.inl c3)))]
     · rw [zF c3, zD]; by_cases c4 : 16 <= p
       · rw [zT c4, zC, if_pos (.inr (.inr (.inr c4)))]
       · rw [zF c4, zD, if_neg (by omega), zg (n := b * 16) (by omega) (by omega), zg (by omega) (by omega)]
theorem zqb (b p : Int) : zb3 (b, p) = some (z2n b p) := zno b p
def aheadT (a b : Found) : Bool := decide (a.record.seq < b.record.seq) || (decide (a.record.seq = b.record.seq) && decide (a.place < b.place))
def zds : List Found -> Found -> List Found
 | [], f => [f]
 | x :: l, f => if aheadT f x = true then f :: x :: l else x :: zds l f
theorem zu1 : ∀ (l : List Found) (f : Found), (zds l f).length = l.length + 1
 | [], f => rfl
 | x :: l, f => by
   unfold zds; split
   · rfl
   · simp [zu1 l f]
def pagesT (b : Nat) : Nat -> List Page -> List Found -> List Found
 | _, [], out => out
 | p, pg :: l, out => pagesT b (p + 1) l (if (z6u pg).1 = 1 /\ 0 <= z2n b p then zds out ⟨z2n b p, (z6u pg).2⟩ else out)
def blocksT : Nat -> List Block -> List Found -> List Found
 | _, [], out => out
 | b, x :: l, out => blocksT (b + 1) l (pagesT b 0 x.pages out)
def allT (c : Chip) : List Found := blocksT 0 c.blocks []
def PagesOk (c : Chip) : Prop := ∀ b ∈ c.blocks, ∀ p ∈ b.pages, PageOk p
theorem zlm (b : Nat) : ∀ (l : List Page) (p : Nat) (out : List Found), out.length <= min (16 * b + min p 16) 512 -> (pagesT b p l out).length <= min (16 * (b + 1)) 512
 | [], p, out, h => by
   unfold pagesT; omega
 | pg :: l, p, out, h => by
   unfold pagesT; refine zlm b l (p + 1) _ ?_; split
   · rename_i hc; have h2 := hc.2; unfold z2n at h2; split at h2
     · omega
     · rw [zu1]; omega
   · omega
theorem z00y {b p : Nat} (h : 0 <= z2n b p) : b < 32 /\ p < 16 := by
 unfold z2n at h; split at h <;> omega
theorem zjq : ∀ (l : List Block) (b : Nat) (out : List Found), out.length <= min (16 * b) 512 -> (blocksT b l out).length <= 512
 | [], b, out, h => by unfold blocksT; omega
 | x :: l, b, out, h => by
   unfold blocksT; exact zjq l (b + 1) _ (zlm b _ 0 out (by omega))
theorem z00z (c : Chip) : (allT c).length <= 512 := zjq _ 0 [] (by simp)
def tabT (n : Int) : Table := ⟨List.replicate (min n.toNat 64) (-1), List.replicate (min n.toNat 64) (-1)⟩
def TabOk (t : Table) : Prop := t.map.length < 4294967296 /\ t.by_.length < 4294967296
def app1 (f : Found) (i : Nat) (k : Int) (t : Table) : Table :=
 if 0 <= k /\ k < t.map.length /\ k < t.by_.length then
  if f.record.kind = 1 then ⟨t.map.set k.toNat f.place, t.by_.set k.toNat f.place⟩
  else if f.record.kind = 2 /\ i < f.record.values.length then ⟨t.map.set k.toNat (f.record.values.getD i 0), t.by_.set k.toNat f.place⟩
  else t
 else t
def appL (f : Found) : Nat -> List Int -> Table -> Table
 | _, [], t => t
 | i, k :: l, t => appL f (i + 1) l (app1 f i k t)
def applyT (t : Table) (f : Found) : Table := appL f 0 f.record.keys t
theorem zu2 (f : Found) (i : Nat) (k : Int) (t : Table) : (app1 f i k t).map.length = t.map.length /\ (app1 f i k t).by_.length = t.by_.length := by
 unfold app1; split
 · split
   · simp
   · split <;> simp
 · simp
theorem zu3 (f : Found) : ∀ (l : List Int) (i : Nat) (t : Table), (appL f i l t).map.length = t.map.length /\ (appL f i l t).by_.length = t.by_.length
 | [], i, t => ⟨rfl, rfl⟩
 | k :: l, i, t => by
   unfold appL; obtain ⟨h1, h2⟩ := zu3 f l (i + 1) (app1 f i k t); obtain ⟨h3, h4⟩ := zu2 f i k t; exact ⟨h1.trans h3, h2.trans h4⟩
theorem zce (t : Table) (f : Found) : (applyT t f).map.length = t.map.length /\ (applyT t f).by_.length = t.by_.length := zu3 f _ 0 t
theorem zqc {f : Found} (hk : f.record.keys.length < 4294967296) (hv : f.record.values.length < 4294967296) : ∀ (l : List Int) (N i : Nat) (ii : Int) (t : Table), f.record.keys.drop i = l -> ii = i -> TabOk t -> l.length < N -> zf z0r N (f.record.keys, (f.record.keys.length : Int), ii, f, t.map, t.by_) = some (appL f i l t)
 | l, 0, _, _, _, _, _, _, h => by omega
 | [], N + 1, i, ii, t, h1, h2, h3, _ => by
   have h4 := z0c h1; rw [z6, z5d]; unfold z2e; simp only [appL]; rw [zF (by omega), zD]
 | k :: l, N + 1, i, ii, t, h1, h2, h3, h4 => by
   obtain ⟨g1, g2, g3⟩ := zu h1; subst h2; have e1 : w64 ((i : Int) + 1) = ((i + 1 : Nat) : Int) := by rw [zg (by omega) (by omega)]; rfl
   have ih := fun t' h => zqc hk hv l N (i + 1) _ t' g3 rfl h (by simp at h4; omega)
   have ihs := ih t h3; have hval : z87 (f, (i : Int)) = some (if f.record.kind = 1 then (f.place, true) else if f.record.kind = 2 /\ i < f.record.values.length then (f.record.values.getD i 0, true) else (-1, false)) := by
    show z4p f i = _; unfold z4p; by_cases c4 : f.record.kind = 1
    · rw [zT c4, zC, if_pos c4]
    · rw [zF c4, zD, if_neg c4]; by_cases c5 : f.record.kind = 2
      · rw [zT c5, zC]; by_cases c6 : i < f.record.values.length
        · rw [zT (show (i : Int) < f.record.values.length by omega), zC, if_pos ⟨c5, c6⟩, zT (show (0 : Int) <= i by omega), zC, zC, Int.toNat_natCast]
        · rw [zF (show ¬ (i : Int) < f.record.values.length by omega), zD, if_neg (fun h => c6 h.2)]
      · rw [zF c5, zD, if_neg (fun h => c5 h.1)]
   rw [z6, z5d]; unfold z2e; simp only [Int.toNat_natCast, g2, e1, appL, hval, z7]; rw [zT (show (i : Int) < f.record.keys.length by omega), zT (show (0 : Int) <= i by omega)]; simp only [zC]; have hin : ∀ (v : Int) (X : Table), (0 <= k /\ k < t.map.length /\ k < t.by_.length -> X = ⟨t.map.set k.toNat v, t.by_.set k.toNat f.place⟩) -> (¬ (0 <= k /\ k < t.map.length /\ k < t.by_.length) -> X = t) ->
    (cond (decide (k < 0)) (zf z0r N (f.record.keys, (f.record.keys.length : Int), ((i + 1 : Nat) : Int), f, t.map, t.by_))
    (cond (decide ((min (t.map.length : Int) (t.by_.length : Int)) <= k)) (zf z0r N (f.record.keys, (f.record.keys.length : Int), ((i + 1 : Nat) : Int), f, t.map, t.by_))
      (cond (decide (0 <= k)) (cond (decide (k < (t.map.length : Int))) (cond (decide (k.toNat < t.map.length)) (cond (decide (0 <= k)) (cond (decide (k < (t.by_.length : Int))) (cond (decide (k.toNat < t.by_.length)) (zf z0r N (f.record.keys, (f.record.keys.length : Int), ((i + 1 : Nat) : Int), f, t.map.set k.toNat v, t.by_.set k.toNat f.place)) none) none) none) none) none) none))) = some (appL f (i + 1) l X) := by
    intro v X hX1 hX2; by_cases c1 : k < 0
    · rw [zT c1, zC, hX2 (by omega)]; exact ihs
    · rw [zF c1, zD]; by_cases c2 : min (t.map.length : Int) (t.by_.length : Int) <= k
      · rw [zT c2, zC, hX2 (by omega)]; exact ihs
      · rw [zF c2, zD, zT (show 0 <= k by omega), zT (show k < t.map.length by omega), zT (show k.toNat < t.map.length by omega), zT (show k < t.by_.length by omega), zT (show k.toNat < t.by_.length by omega)]; simp only [zC]; rw [hX1 (by omega)]; exact ih ⟨t.map.set k.toNat v, t.by_.set k.toNat f.place⟩ ⟨by simpa using h3.1, by simpa using h3.2⟩
   by_cases c4 : f.record.kind = 1
   · rw [if_pos c4, Bool.not_true, zD]; exact hin f.place _ (fun h => by unfold app1; rw [if_pos h, if_pos c4]) (fun h => by unfold app1; rw [if_neg h])
   · rw [if_neg c4]; by_cases c5 : f.record.kind = 2 /\ i < f.record.values.length
     · rw [if_pos c5, Bool.not_true, zD]; exact hin (f.record.values.getD i 0) _ (fun h => by unfold app1; rw [if_pos h, if_neg c4, if_pos c5]) (fun h => by unfold app1; rw [if_neg h])
     · rw [if_neg c5, Bool.not_false, zC]; have : app1 f i k t = t := by
        unfold app1; split
        · first | rfl | rw [if_neg c4, if_neg c5]
        · rfl
       rw [this]; exact ihs
theorem z8d {t : Table} {f : Found} (ht : TabOk t) (hr : RecOk f.record) : z2u (t, f) = some (applyT t f) := by
 have h1 := ht.1; have h2 := ht.2; have h3 := hr.1; refine z10 4294967297 fun N hN => ?_
 show z4q N t f = _; unfold z4q; rw [zT (by omega), zC, zT (by omega), zC, zT (by omega), zC, zT (by omega), zC]; exact zqc h3 hr.2 _ N 0 0 t rfl rfl ht (by omega)
end Clk
namespace Clk
open Go
def repL : List Found -> Table -> Int -> Table × Int
 | [], t, s => (t, s)
 | f :: l, t, s => repL l (applyT t f) (max s (w64 (f.record.seq + 1)))
def zo (c : Chip) (n : Int) : Table × Int := repL (allT c) (tabT n) 0
def z7u (l : List Found) : Prop := ∀ f ∈ l, RecOk f.record
theorem zbu {s : Str} (h : s.length < 4294967296) : (zd s).1.length < 4294967296 /\ (zd s).2.1.length < 4294967296 := by
 have := z37 s; omega
theorem z03n {tag data : Str} (h : tag.length < 4294967296) : RecOk (decT tag data).1 := by
 obtain ⟨h1, h2⟩ := zbu h; obtain ⟨h3, h4⟩ := zbu h2; obtain ⟨h5, h6⟩ := zbu h4; unfold decT; split
 · exact ⟨by simp [zRec], by simp [zRec]⟩
 · split
   · exact ⟨by simp [zRec], by simp [zRec]⟩
   · exact ⟨h3, by simp only [mvT, List.length_map]; exact h5⟩
theorem z010 {p : Page} (h : PageOk p) : RecOk (z6u p).2 := by
 unfold z6u; split
 · exact ⟨by simp [zRec], by simp [zRec]⟩
 · split
   · exact ⟨by simp [zRec], by simp [zRec]⟩
   · exact z03n h.1
theorem zyv : ∀ {l : List Found} {f : Found}, z7u l -> RecOk f.record -> z7u (zds l f)
 | [], f, _, h => by intro g hg; simp [zds] at hg; subst hg; exact h
 | x :: l, f, h1, h2 => by
   unfold zds; split
   · intro g hg; rcases List.mem_cons.1 hg with rfl | hg
     · exact h2
     · exact h1 g hg
   · intro g hg; rcases List.mem_cons.1 hg with rfl | hg
     · exact h1 _ List.mem_cons_self
     · exact zyv (fun g hg => h1 g (List.mem_cons_of_mem _ hg)) h2 g hg
theorem zqd (b : Nat) : ∀ (l : List Page) (p : Nat) (out : List Found), (∀ pg ∈ l, PageOk pg) -> z7u out -> z7u (pagesT b p l out)
 | [], p, out, _, h => h
 | pg :: l, p, out, h1, h2 => by
   unfold pagesT; refine zqd b l (p + 1) _ (fun q hq => h1 q (List.mem_cons_of_mem _ hq)) ?_; split
   · exact zyv h2 (z010 (h1 pg List.mem_cons_self))
   · exact h2
theorem zln : ∀ (l : List Block) (b : Nat) (out : List Found), (∀ x ∈ l, ∀ p ∈ x.pages, PageOk p) -> z7u out -> z7u (blocksT b l out)
 | [], b, out, _, h => h
 | x :: l, b, out, h1, h2 => by
   unfold blocksT; exact zln l (b + 1) _ (fun y hy => h1 y (List.mem_cons_of_mem _ hy)) (zqd b _ 0 out (h1 x List.mem_cons_self) h2)
theorem z03o {c : Chip} (h : PagesOk c) : z7u (allT c) := zln _ 0 [] h (fun _ h => by cases h)
theorem zu4 : ∀ (l : List Found) (t : Table) (s : Int), (repL l t s).1.map.length = t.map.length /\ (repL l t s).1.by_.length = t.by_.length
 | [], t, s => ⟨rfl, rfl⟩
 | f :: l, t, s => by
   unfold repL; obtain ⟨h1, h2⟩ := zu4 l (applyT t f) (max s (w64 (f.record.seq + 1))); obtain ⟨h3, h4⟩ := zce t f; exact ⟨h1.trans h3, h2.trans h4⟩
theorem zyw (n : Int) : TabOk (tabT n) := ⟨by simp [tabT]; omega, by simp [tabT]; omega⟩
def tSameT (a b : Table) : Bool := decide (a.map = b.map) && decide (a.by_ = b.by_)
theorem zgy {a b : Table} (ha : TabOk a) : z7p (a, b) = some (tSameT a b) := by
 show z7o a b = _; unfold z7o tSameT; rw [zgu ha.1, z7]; cases decide (a.map = b.map) with
 | false => rfl
 | true => rw [zC, zgu ha.2, z7, Bool.true_and]
def anyW : List Page -> Bool
 | [] => false
 | p :: l => p.written || anyW l
def fcT (bl : Block) (l : List Page) : Int := cond (anyW l) 2 (if bl.next = 0 then 0 else 2)
def stateT (c : Chip) (opn b : Int) : Int :=
 if b < 0 \/ (c.blocks.length : Int) <= b then 3
 else if (c.blocks.getD b.toNat default).bad = true then 3
 else if b = opn /\ 0 <= (c.blocks.getD b.toNat default).next /\ (c.blocks.getD b.toNat default).next < (c.blocks.getD b.toNat default).pages.length then 1
 else fcT (c.blocks.getD b.toNat default) (c.blocks.getD b.toNat default).pages
theorem zsl {n : Int} {m : Nat} : ∀ (l : List Int) (bs : List Block), (∀ b ∈ bs, b.pages.length <= 16 /\ ∀ p ∈ b.pages, p = z5b) -> bs.length = m -> (∀ b ∈ (newL n l bs).1.blocks, b.pages.length <= 16 /\ ∀ p ∈ b.pages, p = z5b) /\ ((newL n l bs).1.blocks.length = m \/ (newL n l bs).1.blocks.length = 0)
 | [], bs, h1, h2 => ⟨h1, .inl h2⟩
 | x :: l, bs, h1, h2 => by
   unfold newL; split
   · exact ⟨fun b hb => by simp [zChip] at hb, .inr rfl⟩
   · refine zsl l _ (fun b hb => ?_) (by unfold za2; simpa using h2); unfold za2 at hb; by_cases hx : x.toNat < bs.length
     · rcases List.mem_or_eq_of_mem_set hb with h | rfl
       · exact h1 b h
       · exact h1 (bs.getD x.toNat default) (z0d hx)
     · rw [List.set_eq_of_length_le (by omega)] at hb; exact h1 b hb
theorem z03p (n p : Int) (bad : List Int) : z12 (newT n p bad).1 /\ PagesOk (newT n p bad).1 := by
 unfold newT; split
 · exact ⟨⟨by simp [zChip], fun b hb => by simp [zChip] at hb⟩, fun b hb => by simp [zChip] at hb⟩
 · rename_i h; obtain ⟨h1, h2⟩ := zsl (n := n) (m := n.toNat) bad (List.replicate n.toNat ⟨List.replicate p.toNat z5b, 0, 0, false⟩) (fun b hb => by
    obtain ⟨_, rfl⟩ := List.mem_replicate.1 hb; exact ⟨by simp; omega, fun q hq => (List.mem_replicate.1 hq).2⟩) (by simp)
   refine ⟨⟨by omega, fun b hb => by have := (h1 b hb).1; omega⟩, fun b hb q hq => ?_⟩; rw [(h1 b hb).2 q hq]; exact ⟨by simp [z5b], by simp [z5b]⟩
end Clk
namespace Clk
open Go
def z0k : Fate := ⟨0, [], [], 0⟩
def nextOf (c : Chip) (o : Int) : Int := (c.blocks.getD o.toNat default).next
theorem zu5 {c : Chip} (h : z12 c) (b p : Int) (page : Page) (f : Fate) : z12 (z1q c b p page f).1 := by
 unfold z1q; split
 · exact h
 · split
   · rename_i hc; obtain ⟨h1, h2, _⟩ := z1f.1 hc; refine ⟨by simpa using h.1, fun x hx => ?_⟩; rcases List.mem_or_eq_of_mem_set hx with h3 | rfl
     · exact h.2 x h3
     · have := h.get (show b.toNat < c.blocks.length by omega) default; simpa [z2f] using this
   · exact h
theorem zqe (c : Chip) (b p : Int) (page : Page) (f : Fate) : (z1q c b p page f).1.blocks.length = c.blocks.length := by
 unfold z1q; split
 · rfl
 · split
   · simp
   · rfl
end Clk
namespace Clk
open Go
def pk (l : List Int) (i : Nat) (n : Int) : Int := l.getD i 0 % n
def mkL (l : List Int) (kind : Int) : Nat -> Nat -> Int -> List Int × List Int
 | 0, _, _ => ([], [])
 | n + 1, at_, key => if key < 64 then
    (if kind = 2 then (key :: (mkL l kind n (at_ + 2) (key + 1 + pk l at_ 10)).1, (pk l (at_ + 1) 513 - 1) :: (mkL l kind n (at_ + 2) (key + 1 + pk l at_ 10)).2)
     else (key :: (mkL l kind n (at_ + 1) (key + 1 + pk l at_ 10)).1, (mkL l kind n (at_ + 1) (key + 1 + pk l at_ 10)).2))
   else ([], [])
def madeT (l : List Int) : Record :=
 ⟨1 + pk l 0 2, pk l 1 60000 * (1 + pk l 2 1000), (mkL l (1 + pk l 0 2) (pk l 4 8 + 1).toNat 5 (pk l 3 20)).1, (mkL l (1 + pk l 0 2) (pk l 4 8 + 1).toNat 5 (pk l 3 20)).2⟩
def U16 (l : List Int) : Prop := ∀ n ∈ l, 0 <= n /\ n < 65536
theorem U16.get {l : List Int} (h : U16 l) (i : Nat) : 0 <= l.getD i 0 /\ l.getD i 0 < 65536 := by
 by_cases hi : i < l.length
 · exact h _ (z0d hi)
 · rw [zI, List.getElem?_eq_none (by omega)]; exact ⟨Int.le_refl 0, show (0 : Int) < 65536 by omega⟩
theorem z1g {l : List Int} {i : Nat} (h : l.length <= i) (n : Int) : pk l i n = 0 := by
 unfold pk; rw [zI, List.getElem?_eq_none h]; simp
theorem z2g {l : List Int} (h : U16 l) (i : Nat) {n : Int} (hn : 0 < n) : 0 <= pk l i n /\ pk l i n < n := ⟨Int.emod_nonneg _ (by omega), Int.emod_lt_of_pos _ hn⟩
theorem zyx {l : List Int} (h : U16 l) (i : Nat) (n : Int) : Int.tmod (w64 (l.getD i 0)) n = pk l i n := by
 have := h.get i; rw [zg (by omega) (by omega), Int.tmod_eq_emod_of_nonneg this.1]; rfl
theorem zyy {l : List Int} (hl : U16 l) (hn : l.length < 9223372036854775808) {kind seq : Int} : ∀ (n N at_ : Nat) (cnt key ati : Int) (ks vs : List Int), cnt = (n : Int) - 1 -> ati = at_ -> n <= 9 -> at_ + 2 * n <= 4294967296 -> 0 <= key -> key <= 100 -> ks.length + n <= 100 -> vs.length + n <= 100 -> n < N ->
 zf z8 N (key, cnt, l, kind, seq, ati, ks, vs) = some ⟨kind, seq, ks ++ (mkL l kind n at_ key).1, vs ++ (mkL l kind n at_ key).2⟩
 | n, 0, _, _, _, _, _, _, _, _, _, _, _, _, _, _, h => by omega
 | 0, N + 1, at_, cnt, key, ati, ks, vs, h1, h2, _, _, _, _, _, _, _ => by
   rw [z6, z7b]; unfold z3p; simp only [mkL, List.append_nil]; rw [zF (by omega), zD]
 | n + 1, N + 1, at_, cnt, key, ati, ks, vs, h1, h2, h3, h4, h5, h6, h7, h8, h9 => by
   subst h2; rw [z6, z7b]; unfold z3p; simp only [mkL]; rw [zT (show 0 <= cnt by omega), zC]; by_cases hk : key < 64
   · have p1 := z2g hl at_ (n := 10) (by omega); have p2 := z2g hl (at_ + 1) (n := 513) (by omega); have ih := fun (a : Nat) (ha : a + 2 * n <= 4294967296) (k' : Int) (hk' : 0 <= k' /\ k' <= 100) (ks' vs' : List Int) (hks : ks'.length + n <= 100) (hvs : vs'.length + n <= 100) => zyy hl hn (kind := kind) (seq := seq) n N a (w64 (cnt - 1)) k' (a : Int) ks' vs' (by rw [zg (by omega) (by omega)]; omega) rfl (by omega) ha hk'.1 hk'.2 hks hvs (by omega)
     rw [zT hk, zC, if_pos hk, zT (by simp only [List.length_singleton]; omega), zC, zT (by simp only [List.length_singleton]; omega), zC]; have w1 : w64 ((at_ : Int) + 1) = ((at_ + 1 : Nat) : Int) := by rw [zg (by omega) (by omega)]; rfl
     have w2 : w64 (((at_ + 1 : Nat) : Int) + 1) = ((at_ + 2 : Nat) : Int) := by rw [zg (by omega) (by omega)]; rfl
     have w3 : w64 (((at_ + 1 : Nat) : Int) - 1) = (at_ : Int) := by rw [zg (by omega) (by omega)]; omega
     have w4 : w64 (((at_ + 2 : Nat) : Int) - 1) = ((at_ + 1 : Nat) : Int) := by rw [zg (by omega) (by omega)]; omega
     have w5 : w64 (key + 1) = key + 1 := zg (by omega) (by omega); have w6 : w64 (key + 1 + pk l at_ 10) = key + 1 + pk l at_ 10 := zg (by omega) (by omega); have w7 : w64 (pk l (at_ + 1) 513 - 1) = pk l (at_ + 1) 513 - 1 := zg (by omega) (by omega); simp only [w1, w2, w3, w4, w5, Int.toNat_natCast, zyx hl, w6, w7]; have v1 : [key].length = 1 := rfl; by_cases c2 : kind = 2
     · simp only [zT c2, zC, if_pos c2]; by_cases c1 : l.length < at_ + 1
       · have z := z1g (show l.length <= at_ by omega) 10; have z2 := z1g (show l.length <= at_ + 1 by omega) 513; rw [zT (show (l.length : Int) < ((at_ + 1 : Nat) : Int) by omega), zC, zT (show (l.length : Int) < ((at_ + 2 : Nat) : Int) by omega), zC, zT (by simp only [List.length_singleton]; omega), zC, zT (by simp only [List.length_singleton]; omega), zC, z, z2, zg (n := key + 1 + 0) (by omega) (by omega)]; rw [ih (at_ + 2) (by omega) _ (by omega) _ _ (by simp only [List.length_append, List.length_singleton]; omega) (by simp only [List.length_append, List.length_singleton]; omega)]; simp
       · rw [zF (show ¬ (l.length : Int) < ((at_ + 1 : Nat) : Int) by omega), zD, zT (show (0 : Int) <= (at_ : Int) by omega), zC, zT (show (at_ : Int) < l.length by omega), zC]; by_cases c3 : l.length < at_ + 2
         · have z2 := z1g (show l.length <= at_ + 1 by omega) 513; rw [zT (show (l.length : Int) < ((at_ + 2 : Nat) : Int) by omega), zC, zT (by simp only [List.length_singleton]; omega), zC, zT (by simp only [List.length_singleton]; omega), zC, z2]; rw [ih (at_ + 2) (by omega) _ (by omega) _ _ (by simp only [List.length_append, List.length_singleton]; omega) (by simp only [List.length_append, List.length_singleton]; omega)]; simp
         · rw [zF (show ¬ (l.length : Int) < ((at_ + 2 : Nat) : Int) by omega), zD, zT (show (0 : Int) <= ((at_ + 1 : Nat) : Int) by omega), zC, zT (show ((at_ + 1 : Nat) : Int) < l.length by omega), zC, zT (by simp only [List.length_singleton]; omega), zC, zT (by simp only [List.length_singleton]; omega), zC]; rw [ih (at_ + 2) (by omega) _ (by omega) _ _ (by simp only [List.length_append, List.length_singleton]; omega) (by simp only [List.length_append, List.length_singleton]; omega)]; simp
     · simp only [zF c2, zD, if_neg c2]; by_cases c1 : l.length < at_ + 1
       · have z := z1g (show l.length <= at_ by omega) 10; rw [zT (show (l.length : Int) < ((at_ + 1 : Nat) : Int) by omega), zC, z, zg (n := key + 1 + 0) (by omega) (by omega)]; rw [ih (at_ + 1) (by omega) _ (by omega) _ _ (by simp only [List.length_append, List.length_singleton]; omega) (by omega)]; simp
       · rw [zF (show ¬ (l.length : Int) < ((at_ + 1 : Nat) : Int) by omega), zD, zT (show (0 : Int) <= (at_ : Int) by omega), zC, zT (show (at_ : Int) < l.length by omega), zC]; rw [ih (at_ + 1) (by omega) _ (by omega) _ _ (by simp only [List.length_append, List.length_singleton]; omega) (by omega)]; simp
   · rw [zF hk, zD, if_neg hk]; simp
theorem zqf {l : List Int} (hl : U16 l) (hn : l.length < 9223372036854775808) : zay l = some (madeT l) := by
 refine z10 10 fun N hN => ?_
 have q0 := z2g hl 0 (n := 2) (by omega); have q1 := z2g hl 1 (n := 60000) (by omega); have q2 := z2g hl 2 (n := 1000) (by omega); have q3 := z2g hl 3 (n := 20) (by omega); have q4 := z2g hl 4 (n := 8) (by omega); have key := fun kind seq => zyy hl hn (kind := kind) (seq := seq) (pk l 4 8 + 1).toNat N 5 (pk l 4 8) (pk l 3 20) 5 [] [] (by omega) rfl (by omega) (by omega) (by omega) (by omega) (by simp; omega) (by simp; omega) (by omega)
 simp only [List.nil_append] at key; have hm : 0 <= pk l 1 60000 * (1 + pk l 2 1000) /\ pk l 1 60000 * (1 + pk l 2 1000) <= 60000 * 1001 := by
  refine ⟨Int.mul_nonneg q1.1 (by omega), Int.mul_le_mul (by omega) (by omega) (by omega) (by omega)⟩
 have w0 : w64 (1 + pk l 0 2) = 1 + pk l 0 2 := zg (by omega) (by omega); have w1 : w64 (1 + pk l 2 1000) = 1 + pk l 2 1000 := zg (by omega) (by omega); have w2 : w64 (pk l 1 60000 * (1 + pk l 2 1000)) = pk l 1 60000 * (1 + pk l 2 1000) := zg (by omega) (by omega); unfold zax madeT; simp only [zyx hl, w0, w1, w2]; by_cases c1 : l.length < 1
 · simp only [z1g (show l.length <= 0 by omega), z1g (show l.length <= 1 by omega), z1g (show l.length <= 2 by omega), z1g (show l.length <= 3 by omega), z1g (show l.length <= 4 by omega)] at key ⊢; rw [zT (show (l.length : Int) < 1 by omega), zC, zT (show (l.length : Int) < 2 by omega), zC, zT (show (l.length : Int) < 3 by omega), zC, zT (show (l.length : Int) < 4 by omega), zC, zT (show (l.length : Int) < 5 by omega), zC]; exact key 1 0
 · rw [zF (show ¬ (l.length : Int) < 1 by omega), zD, zT (show (0 : Int) < l.length by omega), zC]; by_cases c2 : l.length < 2
   · simp only [z1g (show l.length <= 1 by omega), z1g (show l.length <= 2 by omega), z1g (show l.length <= 3 by omega), z1g (show l.length <= 4 by omega)] at key ⊢; rw [zT (show (l.length : Int) < 2 by omega), zC, zT (show (l.length : Int) < 3 by omega), zC, zT (show (l.length : Int) < 4 by omega), zC, zT (show (l.length : Int) < 5 by omega), zC]; exact key _ 0
   · rw [zF (show ¬ (l.length : Int) < 2 by omega), zD, zT (show (1 : Int) < l.length by omega), zC]; by_cases c3 : l.length < 3
     · simp only [z1g (show l.length <= 2 by omega), z1g (show l.length <= 3 by omega), z1g (show l.length <= 4 by omega)] at key ⊢; rw [zT (show (l.length : Int) < 3 by omega), zC, zT (show (l.length : Int) < 4 by omega), zC, zT (show (l.length : Int) < 5 by omega), zC, zg (n := pk l 1 60000 * 1) (by omega) (by omega)]; exact key _ _
     · rw [zF (show ¬ (l.length : Int) < 3 by omega), zD, zT (show (2 : Int) < l.length by omega), zC]; by_cases c4 : l.length < 4
       · simp only [z1g (show l.length <= 3 by omega), z1g (show l.length <= 4 by omega)] at key ⊢; rw [zT (show (l.length : Int) < 4 by omega), zC, zT (show (l.length : Int) < 5 by omega), zC]; exact key _ _
       · rw [zF (show ¬ (l.length : Int) < 4 by omega), zD, zT (show (3 : Int) < l.length by omega), zC]; by_cases c5 : l.length < 5
         · simp only [z1g (show l.length <= 4 by omega)] at key ⊢; rw [zT (show (l.length : Int) < 5 by omega), zC]; exact key _ _
         · rw [zF (show ¬ (l.length : Int) < 5 by omega), zD, zT (show (4 : Int) < l.length by omega), zC]; exact key _ _
theorem zsm (l : List Int) (kind : Int) : ∀ (n a : Nat) (key : Int), (mkL l kind n a key).1.length <= n /\ (mkL l kind n a key).2.length <= n
 | 0, a, key => by simp [mkL]
 | n + 1, a, key => by
   unfold mkL; split
   · split
     · have := zsm l kind n (a + 2) (key + 1 + pk l a 10); simp only [List.length_cons]; omega
     · have := zsm l kind n (a + 1) (key + 1 + pk l a 10); simp only [List.length_cons]; omega
   · simp
theorem zu6 {l : List Int} (hl : U16 l) : RecOk (madeT l) /\ (madeT l).keys.length <= 8 := by
 have q4 := z2g hl 4 (n := 8) (by omega); have := zsm l (1 + pk l 0 2) (pk l 4 8 + 1).toNat 5 (pk l 3 20); unfold madeT RecOk; simp only; omega
end Clk
