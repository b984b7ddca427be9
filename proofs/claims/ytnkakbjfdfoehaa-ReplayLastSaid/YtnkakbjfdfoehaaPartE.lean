/- A part of the proof of ReplayLast: an evaluator of the program's code that the kernel runs, its soundness, what the functions compute. -/
import Derived.Test.YtnkakbjfdfoehaaPartD
import Derived.Test.YtnkakbjfdfoehaaProg
import Derived.KernelRfl
import Derived.IntWalk
import Derived.ChangeSlices
set_option linter.unusedVariables false
set_option linter.unusedSimpArgs false
namespace Go.Proofs.Ytnkakbjfdfoehaa
open Clk Go.Proofs
set_option maxRecDepth 1000000
noncomputable def tiL : List (Option TI) := [
  none,
  some ⟨1, 8, .func, .nilFunc⟩,
  some ⟨1, 8, (.int .i64), (.int .i64 0)⟩,
  some ⟨1, 8, (.int .i64), (.int .i64 0)⟩,
  some ⟨1, 1, .bool, (.bool false)⟩,
  some ⟨1, 1, (.int .u8), (.int .u8 0)⟩,
  some ⟨1, 1, (.int .u8), (.int .u8 0)⟩,
  some ⟨4, 24, (.struct [(0, 2), (1, 3), (2, 4), (3, 6)]), (.agg [(.int .i64 0), (.int .i64 0), (.bool false), (.int .u8 0)])⟩,
  some ⟨4, 24, (.struct [(0, 2), (1, 3), (2, 4), (3, 6)]), (.agg [(.int .i64 0), (.int .i64 0), (.bool false), (.int .u8 0)])⟩,
  some ⟨1, 16, .string, (.str ⟨#[]⟩)⟩,
  some ⟨1, 16, .string, (.str ⟨#[]⟩)⟩,
  some ⟨1, 16, .string, (.str ⟨#[]⟩)⟩,
  some ⟨1, 8, (.int .u64), (.int .u64 0)⟩,
  some ⟨2, 24, (.struct [(0, 9), (1, 12)]), (.agg [(.str ⟨#[]⟩), (.int .u64 0)])⟩,
  some ⟨2, 24, (.struct [(0, 9), (1, 12)]), (.agg [(.str ⟨#[]⟩), (.int .u64 0)])⟩,
  some ⟨1, 8, (.pointer 154), .nilPtr⟩,
  some ⟨1, 8, (.pointer 157), .nilPtr⟩,
  some ⟨1, 8, (.pointer 166), .nilPtr⟩,
  some ⟨1, 8, (.struct [(0, 17)]), (.agg [.nilPtr])⟩,
  some ⟨1, 8, (.struct [(0, 17)]), (.agg [.nilPtr])⟩,
  some ⟨1, 16, .iface, .nilIface⟩,
  some ⟨1, 4, (.int .i32), (.int .i32 0)⟩,
  some ⟨1, 8, .func, .nilFunc⟩,
  some ⟨1, 8, .func, .nilFunc⟩,
  some ⟨1, 24, (.slice 3), (.crows [])⟩,
  some ⟨2, 48, (.struct [(0, 24), (1, 24)]), (.agg [(.crows []), (.crows [])])⟩,
  some ⟨2, 48, (.struct [(0, 24), (1, 24)]), (.agg [(.crows []), (.crows [])])⟩,
  some ⟨1, 8, .func, .nilFunc⟩,
  some ⟨1, 8, .func, .nilFunc⟩,
  some ⟨4, 64, (.struct [(0, 3), (1, 3), (2, 24), (3, 24)]), (.agg [(.int .i64 0), (.int .i64 0), (.crows []), (.crows [])])⟩,
  some ⟨4, 64, (.struct [(0, 3), (1, 3), (2, 24), (3, 24)]), (.agg [(.int .i64 0), (.int .i64 0), (.crows []), (.crows [])])⟩,
  some ⟨5, 72, (.struct [(0, 3), (1, 30)]), (.agg [(.int .i64 0), (.int .i64 0), (.int .i64 0), (.crows []), (.crows [])])⟩,
  some ⟨5, 72, (.struct [(0, 3), (1, 30)]), (.agg [(.int .i64 0), (.int .i64 0), (.int .i64 0), (.crows []), (.crows [])])⟩,
  some ⟨1, 8, .func, .nilFunc⟩,
  some ⟨1, 8, .func, .nilFunc⟩,
  some ⟨1, 24, (.slice 39), (.crows [])⟩,
  some ⟨1, 24, (.slice 32), (.crows [])⟩,
  some ⟨1, 8, .func, .nilFunc⟩,
  some ⟨1, 8, .func, .nilFunc⟩,
  some ⟨1, 24, (.slice 66), (.crows [])⟩,
  some ⟨1, 24, (.slice 52), (.crows [])⟩,
  some ⟨4, 40, (.struct [(0, 40), (1, 4), (2, 4), (3, 3)]), (.agg [(.crows []), (.bool false), (.bool false), (.int .i64 0)])⟩,
  some ⟨4, 40, (.struct [(0, 40), (1, 4), (2, 4), (3, 3)]), (.agg [(.crows []), (.bool false), (.bool false), (.int .i64 0)])⟩,
  some ⟨1, 8, .func, .nilFunc⟩,
  none,
  some ⟨1, 8, .func, .nilFunc⟩,
  some ⟨1, 8, .func, .nilFunc⟩,
  some ⟨1, 8, (.int .i64), (.int .i64 0)⟩,
  none,
  some ⟨1, 8, .func, .nilFunc⟩,
  some ⟨1, 24, (.slice 54), (.crows [])⟩,
  some ⟨4, 48, (.struct [(0, 50), (1, 3), (2, 3), (3, 4)]), (.agg [(.crows []), (.int .i64 0), (.int .i64 0), (.bool false)])⟩,
  some ⟨4, 48, (.struct [(0, 50), (1, 3), (2, 3), (3, 4)]), (.agg [(.crows []), (.int .i64 0), (.int .i64 0), (.bool false)])⟩,
  some ⟨3, 40, (.struct [(0, 4), (1, 9), (2, 9)]), (.agg [(.bool false), (.str ⟨#[]⟩), (.str ⟨#[]⟩)])⟩,
  some ⟨3, 40, (.struct [(0, 4), (1, 9), (2, 9)]), (.agg [(.bool false), (.str ⟨#[]⟩), (.str ⟨#[]⟩)])⟩,
  some ⟨1, 8, .func, .nilFunc⟩,
  some ⟨4, 48, (.struct [(0, 3), (1, 9), (2, 9), (3, 3)]), (.agg [(.int .i64 0), (.str ⟨#[]⟩), (.str ⟨#[]⟩), (.int .i64 0)])⟩,
  some ⟨4, 48, (.struct [(0, 3), (1, 9), (2, 9), (3, 3)]), (.agg [(.int .i64 0), (.str ⟨#[]⟩), (.str ⟨#[]⟩), (.int .i64 0)])⟩,
  some ⟨1, 8, .func, .nilFunc⟩,
  some ⟨1, 8, .func, .nilFunc⟩,
  some ⟨1, 8, .func, .nilFunc⟩,
  some ⟨1, 8, .func, .nilFunc⟩,
  none,
  some ⟨1, 8, .func, .nilFunc⟩,
  some ⟨1, 8, .func, .nilFunc⟩,
  some ⟨1, 8, .func, .nilFunc⟩,
  some ⟨1, 2, (.int .u16), (.int .u16 0)⟩,
  some ⟨1, 8, .func, .nilFunc⟩,
  some ⟨1, 8, .func, .nilFunc⟩,
  some ⟨1, 8, .func, .nilFunc⟩,
  some ⟨1, 8, .func, .nilFunc⟩,
  some ⟨1, 8, .func, .nilFunc⟩,
  some ⟨1, 8, .func, .nilFunc⟩,
  some ⟨1, 8, .func, .nilFunc⟩,
  some ⟨1, 8, .func, .nilFunc⟩,
  some ⟨1, 8, .func, .nilFunc⟩,
  none,
  some ⟨1, 8, .func, .nilFunc⟩,
  some ⟨5, 80, (.struct [(0, 9), (1, 30)]), (.agg [(.str ⟨#[]⟩), (.int .i64 0), (.int .i64 0), (.crows []), (.crows [])])⟩,
  some ⟨5, 80, (.struct [(0, 9), (1, 30)]), (.agg [(.str ⟨#[]⟩), (.int .i64 0), (.int .i64 0), (.crows []), (.crows [])])⟩,
  some ⟨1, 8, (.int .u64), (.int .u64 0)⟩,
  none,
  some ⟨1, 8, .func, .nilFunc⟩,
  some ⟨1, 8, .func, .nilFunc⟩,
  some ⟨1, 8, (.pointer 52), .nilPtr⟩,
  some ⟨1, 8, .func, .nilFunc⟩,
  some ⟨1, 8, .func, .nilFunc⟩,
  some ⟨1, 8, .func, .nilFunc⟩,
  none,
  some ⟨1, 8, .func, .nilFunc⟩,
  some ⟨1, 8, .func, .nilFunc⟩,
  some ⟨1, 8, .func, .nilFunc⟩,
  some ⟨1, 8, .func, .nilFunc⟩,
  some ⟨1, 8, .func, .nilFunc⟩,
  some ⟨1, 8, .func, .nilFunc⟩,
  none,
  some ⟨1, 8, .func, .nilFunc⟩,
  some ⟨1, 4, (.int .u32), (.int .u32 0)⟩,
  none,
  some ⟨1, 8, .func, .nilFunc⟩,
  some ⟨1, 8, (.int .u64), (.int .u64 0)⟩,
  none,
  some ⟨1, 8, .func, .nilFunc⟩,
  some ⟨1, 8, .func, .nilFunc⟩,
  none,
  some ⟨1, 8, .func, .nilFunc⟩,
  some ⟨1, 8, .func, .nilFunc⟩,
  some ⟨1, 8, .func, .nilFunc⟩,
  some ⟨1, 8, .func, .nilFunc⟩,
  some ⟨1, 8, .func, .nilFunc⟩,
  some ⟨1, 8, .func, .nilFunc⟩,
  some ⟨1, 8, .func, .nilFunc⟩,
  some ⟨1, 8, .func, .nilFunc⟩,
  some ⟨1, 8, .func, .nilFunc⟩,
  some ⟨1, 8, .func, .nilFunc⟩,
  some ⟨1, 8, (.int .i64), (.int .i64 0)⟩,
  none,
  some ⟨1, 8, .func, .nilFunc⟩,
  some ⟨1, 8, .func, .nilFunc⟩,
  some ⟨1, 8, .func, .nilFunc⟩,
  some ⟨1, 8, .func, .nilFunc⟩,
  some ⟨1, 8, .func, .nilFunc⟩,
  some ⟨1, 8, .func, .nilFunc⟩,
  none,
  some ⟨1, 8, .func, .nilFunc⟩,
  some ⟨1, 8, .func, .nilFunc⟩,
  some ⟨1, 8, .func, .nilFunc⟩,
  some ⟨1, 24, (.slice 5), (.crows [])⟩,
  some ⟨1, 8, .func, .nilFunc⟩,
  some ⟨1, 8, (.pointer 30), .nilPtr⟩,
  some ⟨1, 8, (.pointer 47), .nilPtr⟩,
  some ⟨1, 8, (.pointer 133), .nilPtr⟩,
  some ⟨1, 16, (.struct [(0, 9)]), (.agg [(.str ⟨#[]⟩)])⟩,
  some ⟨1, 16, (.struct [(0, 9)]), (.agg [(.str ⟨#[]⟩)])⟩,
  some ⟨1, 8, .func, .nilFunc⟩,
  some ⟨3, 72, (.array 3 24), (.agg [(.crows []), (.crows []), (.crows [])])⟩,
  some ⟨1, 8, (.int .u64), (.int .u64 0)⟩,
  some ⟨1, 8, .func, .nilFunc⟩,
  some ⟨1, 8, .func, .nilFunc⟩,
  some ⟨1, 8, .func, .nilFunc⟩,
  some ⟨1, 8, (.pointer 3), .nilPtr⟩,
  some ⟨1, 8, .func, .nilFunc⟩,
  none,
  some ⟨1, 8, .func, .nilFunc⟩,
  some ⟨1, 8, .func, .nilFunc⟩,
  some ⟨4, 4, (.array 4 5), (.agg [(.int .u8 0), (.int .u8 0), (.int .u8 0), (.int .u8 0)])⟩,
  some ⟨1, 8, (.pointer 136), .nilPtr⟩,
  none,
  some ⟨1, 8, .func, .nilFunc⟩,
  some ⟨1, 8, .func, .nilFunc⟩,
  some ⟨1, 8, .func, .nilFunc⟩,
  some ⟨1, 8, .func, .nilFunc⟩,
  some ⟨1, 8, .func, .nilFunc⟩,
  some ⟨4, 40, (.struct [(0, 17), (1, 17), (2, 17), (3, 9)]), (.agg [.nilPtr, .nilPtr, .nilPtr, (.str ⟨#[]⟩)])⟩,
  some ⟨4, 40, (.struct [(0, 17), (1, 17), (2, 17), (3, 9)]), (.agg [.nilPtr, .nilPtr, .nilPtr, (.str ⟨#[]⟩)])⟩,
  none,
  none,
  none,
  some ⟨1, 8, .func, .nilFunc⟩,
  some ⟨1, 1, (.int .u8), (.int .u8 0)⟩,
  some ⟨1, 1, (.int .u8), (.int .u8 0)⟩,
  some ⟨1, 8, .func, .nilFunc⟩,
  some ⟨1, 8, (.pointer 5), .nilPtr⟩,
  some ⟨1, 4, (.int .i32), (.int .i32 0)⟩,
  some ⟨1, 4, (.int .i32), (.int .i32 0)⟩,
  some ⟨11, 48, (.struct [(0, 12), (1, 12), (2, 97), (3, 159), (4, 5), (5, 5), (6, 160), (7, 161), (8, 162), (9, 163), (10, 164)]), (.agg [(.int .u64 0), (.int .u64 0), (.int .u32 0), (.int .u8 0), (.int .u8 0), (.int .u8 0), (.int .u8 0), .nilFunc, .nilPtr, (.int .i32 0), (.int .i32 0)])⟩,
  some ⟨11, 48, (.struct [(0, 12), (1, 12), (2, 97), (3, 159), (4, 5), (5, 5), (6, 160), (7, 161), (8, 162), (9, 163), (10, 164)]), (.agg [(.int .u64 0), (.int .u64 0), (.int .u32 0), (.int .u8 0), (.int .u8 0), (.int .u8 0), (.int .u8 0), .nilFunc, .nilPtr, (.int .i32 0), (.int .i32 0)])⟩,
  none]
noncomputable def zL : List (Option (List SV)) := [
  none,
  some [.nilFunc],
  some [.int .i64 0],
  some [.int .i64 0],
  some [.bool false],
  some [.int .u8 0],
  some [.int .u8 0],
  some [.int .i64 0, .int .i64 0, .bool false, .int .u8 0],
  some [.int .i64 0, .int .i64 0, .bool false, .int .u8 0],
  some [.str []],
  some [.str []],
  some [.str []],
  some [.int .u64 0],
  some [.str [], .int .u64 0],
  some [.str [], .int .u64 0],
  some [.nilPtr],
  some [.nilPtr],
  some [.nilPtr],
  some [.nilPtr],
  some [.nilPtr],
  some [.nilIface],
  some [.int .i32 0],
  some [.nilFunc],
  some [.nilFunc],
  some [.lst true .i []],
  some [.lst true .i [], .lst true .i []],
  some [.lst true .i [], .lst true .i []],
  some [.nilFunc],
  some [.nilFunc],
  some [.int .i64 0, .int .i64 0, .lst true .i [], .lst true .i []],
  some [.int .i64 0, .int .i64 0, .lst true .i [], .lst true .i []],
  some [.int .i64 0, .int .i64 0, .int .i64 0, .lst true .i [], .lst true .i []],
  some [.int .i64 0, .int .i64 0, .int .i64 0, .lst true .i [], .lst true .i []],
  some [.nilFunc],
  some [.nilFunc],
  some [.lst true (.list (.int .u16)) []],
  some [.lst true .found []],
  some [.nilFunc],
  some [.nilFunc],
  some [.lst true (.int .u16) []],
  some [.lst true .block []],
  some [.lst true .block [], .bool false, .bool false, .int .i64 0],
  some [.lst true .block [], .bool false, .bool false, .int .i64 0],
  some [.nilFunc],
  none,
  some [.nilFunc],
  some [.nilFunc],
  some [.int .i64 0],
  none,
  some [.nilFunc],
  some [.lst true .page []],
  some [.lst true .page [], .int .i64 0, .int .i64 0, .bool false],
  some [.lst true .page [], .int .i64 0, .int .i64 0, .bool false],
  some [.bool false, .str [], .str []],
  some [.bool false, .str [], .str []],
  some [.nilFunc],
  some [.int .i64 0, .str [], .str [], .int .i64 0],
  some [.int .i64 0, .str [], .str [], .int .i64 0],
  some [.nilFunc],
  some [.nilFunc],
  some [.nilFunc],
  some [.nilFunc],
  none,
  some [.nilFunc],
  some [.nilFunc],
  some [.nilFunc],
  some [.int .u16 0],
  some [.nilFunc],
  some [.nilFunc],
  some [.nilFunc],
  some [.nilFunc],
  some [.nilFunc],
  some [.nilFunc],
  some [.nilFunc],
  some [.nilFunc],
  some [.nilFunc],
  none,
  some [.nilFunc],
  some [.str [], .int .i64 0, .int .i64 0, .lst true .i [], .lst true .i []],
  some [.str [], .int .i64 0, .int .i64 0, .lst true .i [], .lst true .i []],
  some [.int .u64 0],
  none,
  some [.nilFunc],
  some [.nilFunc],
  some [.nilPtr],
  some [.nilFunc],
  some [.nilFunc],
  some [.nilFunc],
  none,
  some [.nilFunc],
  some [.nilFunc],
  some [.nilFunc],
  some [.nilFunc],
  some [.nilFunc],
  some [.nilFunc],
  none,
  some [.nilFunc],
  some [.int .u32 0],
  none,
  some [.nilFunc],
  some [.int .u64 0],
  none,
  some [.nilFunc],
  some [.nilFunc],
  none,
  some [.nilFunc],
  some [.nilFunc],
  some [.nilFunc],
  some [.nilFunc],
  some [.nilFunc],
  some [.nilFunc],
  some [.nilFunc],
  some [.nilFunc],
  some [.nilFunc],
  some [.nilFunc],
  some [.int .i64 0],
  none,
  some [.nilFunc],
  some [.nilFunc],
  some [.nilFunc],
  some [.nilFunc],
  some [.nilFunc],
  some [.nilFunc],
  none,
  some [.nilFunc],
  some [.nilFunc],
  some [.nilFunc],
  some [.lst true (.int .u8) []],
  some [.nilFunc],
  some [.nilPtr],
  some [.nilPtr],
  some [.nilPtr],
  some [.str []],
  some [.str []],
  some [.nilFunc],
  some [.lst true .i [], .lst true .i [], .lst true .i []],
  some [.int .u64 0],
  some [.nilFunc],
  some [.nilFunc],
  some [.nilFunc],
  some [.nilPtr],
  some [.nilFunc],
  none,
  some [.nilFunc],
  some [.nilFunc],
  some [.int .u8 0, .int .u8 0, .int .u8 0, .int .u8 0],
  some [.nilPtr],
  none,
  some [.nilFunc],
  some [.nilFunc],
  some [.nilFunc],
  some [.nilFunc],
  some [.nilFunc],
  some [.nilPtr, .nilPtr, .nilPtr, .str []],
  some [.nilPtr, .nilPtr, .nilPtr, .str []],
  none,
  none,
  none,
  some [.nilFunc],
  some [.int .u8 0],
  some [.int .u8 0],
  some [.nilFunc],
  some [.nilPtr],
  some [.int .i32 0],
  some [.int .i32 0],
  some [.int .u64 0, .int .u64 0, .int .u32 0, .int .u8 0, .int .u8 0, .int .u8 0, .int .u8 0, .nilFunc, .nilPtr, .int .i32 0, .int .i32 0],
  some [.int .u64 0, .int .u64 0, .int .u32 0, .int .u8 0, .int .u8 0, .int .u8 0, .int .u8 0, .nilFunc, .nilPtr, .int .i32 0, .int .i32 0],
  none]
noncomputable def ecL : List (Option TC) := [
  none,
  none,
  some .i,
  some .i,
  some .bool,
  some (.int .u8),
  some (.int .u8),
  none,
  none,
  some .str,
  some .str,
  some .str,
  some (.int .u64),
  none,
  none,
  none,
  none,
  none,
  none,
  none,
  none,
  some (.int .i32),
  none,
  none,
  some (.list .i),
  none,
  some .table,
  none,
  none,
  none,
  some .record,
  none,
  some .found,
  none,
  none,
  some (.list (.list (.int .u16))),
  some (.list .found),
  none,
  none,
  some (.list (.int .u16)),
  some (.list .block),
  none,
  some .chip,
  none,
  none,
  none,
  none,
  some .i,
  none,
  none,
  some (.list .page),
  none,
  some .block,
  none,
  some .page,
  none,
  none,
  some .fate,
  none,
  none,
  none,
  none,
  none,
  none,
  none,
  none,
  some (.int .u16),
  none,
  none,
  none,
  none,
  none,
  none,
  none,
  none,
  none,
  none,
  none,
  none,
  some .write,
  some (.int .u64),
  none,
  none,
  none,
  none,
  none,
  none,
  none,
  none,
  none,
  none,
  none,
  none,
  none,
  none,
  none,
  none,
  some (.int .u32),
  none,
  none,
  some (.int .u64),
  none,
  none,
  none,
  none,
  none,
  none,
  none,
  none,
  none,
  none,
  none,
  none,
  none,
  none,
  some .i,
  none,
  none,
  none,
  none,
  none,
  none,
  none,
  none,
  none,
  none,
  none,
  some (.list (.int .u8)),
  none,
  none,
  none,
  none,
  none,
  none,
  none,
  none,
  some (.int .u64),
  none,
  none,
  none,
  none,
  none,
  none,
  none,
  none,
  none,
  none,
  none,
  none,
  none,
  none,
  none,
  none,
  none,
  none,
  none,
  none,
  none,
  none,
  some (.int .u8),
  some (.int .u8),
  none,
  none,
  some (.int .i32),
  some (.int .i32),
  none,
  none,
  none]
noncomputable def eqL : List Bool := [false, false, false, false, false, false, false, true, true, false, false, false, false, false, false, false, false, false, false, false, false, false, false, false, false, true, true, false, false, true, true, true, true, false, false, false, false, false, false, false, false, true, true, false, false, false, false, false, false, false, false, true, true, true, true, false, true, true, false, false, false, false, false, false, false, false, false, false, false, false, false, false, false, false, false, false, false, false, true, true, false, false, false, false, false, false, false, false, false, false, false, false, false, false, false, false, false, false, false, false, false, false, false, false, false, false, false, false, false, false, false, false, false, false, false, false, false, false, false, false, false, false, false, false, false, false, false, false, false, false, false, false, true, true, false, false, false, false, false, false, false, false, false, false, false, false, false, false, false, false, false, false, false, false, false, false, false, false, false, false, false, false, false, false, false, false, false, false]
noncomputable def fnL : List (Option Go.Func) := [none, none, none, some Try.f3, some Try.f4, some Try.f5, some Try.f6, some Try.f7, some Try.f8, some Try.f9, some Try.f10, some Try.f11, some Try.f12, some Try.f13, some Try.f14, some Try.f15, some Try.f16, some Try.f17, some Try.f18, some Try.f19, some Try.f20, some Try.f21, some Try.f22, some Try.f23, some Try.f24, some Try.f25, some Try.f26, some Try.f27, some Try.f28, some Try.f29, some Try.f30, some Try.f31, some Try.f32, some Try.f33, some Try.f34, some Try.f35, some Try.f36, some Try.f37, some Try.f38, some Try.f39, some Try.f40, some Try.f41, some Try.f42, some Try.f43, some Try.f44, some Try.f45, some Try.f46, some Try.f47, some Try.f48, some Try.f49, some Try.f50, some Try.f51, some Try.f52, some Try.f53, some Try.f54, some Try.f55, some Try.f56, some Try.f57, some Try.f58, some Try.f59, some Try.f60, some Try.f61, some Try.f62, some Try.f63, some Try.f64, some Try.f65, some Try.f66, some Try.f67, some Try.f68, some Try.f69, some Try.f70, some Try.f71, some Try.f72, some Try.f73, some Try.f74, some Try.f75, some Try.f76, some Try.f77, some Try.f78, some Try.f79, some Try.f80, some Try.f81, some Try.f82, some Try.f83, some Try.f84, some Try.f85, some Try.f86, some Try.f87, some Try.f88, some Try.f89, some Try.f90, some Try.f91, some Try.f92, some Try.f93, some Try.f94, some Try.f95, some Try.f96, some Try.f97, some Try.f98, some Try.f99, some Try.f100, some Try.f101, some Try.f102, some Try.f103, some Try.f104, some Try.f105, some Try.f106, none, none, none, none, none, none, none, none, none, none, none, none, none, none, none, none]
noncomputable def inlL : List Bool := [false, false, false, false, false, false, false, false, false, false, false, false, false, false, false, false, false, false, false, false, false, false, false, false, false, false, false, false, false, false, true, true, true, false, true, false, false, false, false, true, true, false, true, true, false, false, false, false, false, false, false, false, true, false, false, true, false, false, false, false, false, false, false, false, false, false, true, true, true, true, true, true, true, true, false, false, false, false, false, false, false, false, false, false, false, false, false, true, false, false, true, true, false, false, false, true, false, true, false, true, false, true, false, true, true, false, false, false, false, false, false, false, false, false, false, false, false, false, false, false, false, false, false]
noncomputable def clL : List (Option (TC × Nat)) := [none, none, none, none, none, none, none, none, none, none, none, none, none, none, none, none, none, none, none, none, none, none, none, some (.i, 8), none, none, none, none, none, none, none, none, none, none, none, none, none, none, none, none, none, none, none, none, none, none, none, none, none, none, none, none, none, none, none, none, none, none, none, none, none, none, none, none, none, none, none, none, none, none, none, none, none, none, none, none, none, none, none, none, none, none, none, none, none, none, none, none, none, none, none, none, none, none, none, none, none, none, none, none, none, none, none, none, none, none, none, none, none, none, none, none, none, none, none, none, none, none, none, none, none, none, none]
noncomputable def seat : Seat := ⟨tiL, zL, ecL, eqL, fnL, inlL, clL⟩
theorem seat_ok : seat.Ok Try.prog where
  ti := by kernel_rfl
  zero := by kernel_rfl
  zs := by kernel_rfl
  ec := by kernel_rfl
  eci := by kernel_rfl
  flds := by kernel_rfl
  eq := by kernel_rfl
  fn := by kernel_rfl
theorem sseat : SeatOk Try.prog seat.inlF seat.prim seat.mk' := seat_ok.seatOk
end Go.Proofs.Ytnkakbjfdfoehaa
namespace Go.Proofs.Ytnkakbjfdfoehaa
open Go Go.Proofs Clk
theorem ti0 : ti Try.prog 0 = some ⟨1, 0, .other, (.tup [])⟩ := by kernel_rfl
theorem ti1 : ti Try.prog 1 = some ⟨1, 8, .func, .nilFunc⟩ := by kernel_rfl
theorem ti2 : ti Try.prog 2 = some ⟨1, 8, (.int .i64), (.int .i64 0)⟩ := by kernel_rfl
theorem ti3 : ti Try.prog 3 = some ⟨1, 8, (.int .i64), (.int .i64 0)⟩ := by kernel_rfl
theorem ti4 : ti Try.prog 4 = some ⟨1, 1, .bool, (.bool false)⟩ := by kernel_rfl
theorem ti5 : ti Try.prog 5 = some ⟨1, 1, (.int .u8), (.int .u8 0)⟩ := by kernel_rfl
theorem ti6 : ti Try.prog 6 = some ⟨1, 1, (.int .u8), (.int .u8 0)⟩ := by kernel_rfl
theorem ti7 : ti Try.prog 7 = some ⟨4, 24, (.struct [(0, 2), (1, 3), (2, 4), (3, 6)]), (.agg [(.int .i64 0), (.int .i64 0), (.bool false), (.int .u8 0)])⟩ := by kernel_rfl
theorem ti8 : ti Try.prog 8 = some ⟨4, 24, (.struct [(0, 2), (1, 3), (2, 4), (3, 6)]), (.agg [(.int .i64 0), (.int .i64 0), (.bool false), (.int .u8 0)])⟩ := by kernel_rfl
theorem ti9 : ti Try.prog 9 = some ⟨1, 16, .string, (.str ⟨#[]⟩)⟩ := by kernel_rfl
theorem ti10 : ti Try.prog 10 = some ⟨1, 16, .string, (.str ⟨#[]⟩)⟩ := by kernel_rfl
theorem ti11 : ti Try.prog 11 = some ⟨1, 16, .string, (.str ⟨#[]⟩)⟩ := by kernel_rfl
theorem ti12 : ti Try.prog 12 = some ⟨1, 8, (.int .u64), (.int .u64 0)⟩ := by kernel_rfl
theorem ti13 : ti Try.prog 13 = some ⟨2, 24, (.struct [(0, 9), (1, 12)]), (.agg [(.str ⟨#[]⟩), (.int .u64 0)])⟩ := by kernel_rfl
theorem ti14 : ti Try.prog 14 = some ⟨2, 24, (.struct [(0, 9), (1, 12)]), (.agg [(.str ⟨#[]⟩), (.int .u64 0)])⟩ := by kernel_rfl
theorem ti15 : ti Try.prog 15 = some ⟨1, 8, (.pointer 154), .nilPtr⟩ := by kernel_rfl
theorem ti16 : ti Try.prog 16 = some ⟨1, 8, (.pointer 157), .nilPtr⟩ := by kernel_rfl
theorem ti17 : ti Try.prog 17 = some ⟨1, 8, (.pointer 166), .nilPtr⟩ := by kernel_rfl
theorem ti18 : ti Try.prog 18 = some ⟨1, 8, (.struct [(0, 17)]), (.agg [.nilPtr])⟩ := by kernel_rfl
theorem ti19 : ti Try.prog 19 = some ⟨1, 8, (.struct [(0, 17)]), (.agg [.nilPtr])⟩ := by kernel_rfl
theorem ti20 : ti Try.prog 20 = some ⟨1, 16, .iface, .nilIface⟩ := by kernel_rfl
theorem ti21 : ti Try.prog 21 = some ⟨1, 4, (.int .i32), (.int .i32 0)⟩ := by kernel_rfl
theorem ti22 : ti Try.prog 22 = some ⟨1, 8, .func, .nilFunc⟩ := by kernel_rfl
theorem ti23 : ti Try.prog 23 = some ⟨1, 8, .func, .nilFunc⟩ := by kernel_rfl
theorem ti24 : ti Try.prog 24 = some ⟨1, 24, (.slice 3), (.crows [])⟩ := by kernel_rfl
theorem ti25 : ti Try.prog 25 = some ⟨2, 48, (.struct [(0, 24), (1, 24)]), (.agg [(.crows []), (.crows [])])⟩ := by kernel_rfl
theorem ti26 : ti Try.prog 26 = some ⟨2, 48, (.struct [(0, 24), (1, 24)]), (.agg [(.crows []), (.crows [])])⟩ := by kernel_rfl
theorem ti27 : ti Try.prog 27 = some ⟨1, 8, .func, .nilFunc⟩ := by kernel_rfl
theorem ti28 : ti Try.prog 28 = some ⟨1, 8, .func, .nilFunc⟩ := by kernel_rfl
theorem ti29 : ti Try.prog 29 = some ⟨4, 64, (.struct [(0, 3), (1, 3), (2, 24), (3, 24)]), (.agg [(.int .i64 0), (.int .i64 0), (.crows []), (.crows [])])⟩ := by kernel_rfl
theorem ti30 : ti Try.prog 30 = some ⟨4, 64, (.struct [(0, 3), (1, 3), (2, 24), (3, 24)]), (.agg [(.int .i64 0), (.int .i64 0), (.crows []), (.crows [])])⟩ := by kernel_rfl
theorem ti31 : ti Try.prog 31 = some ⟨5, 72, (.struct [(0, 3), (1, 30)]), (.agg [(.int .i64 0), (.int .i64 0), (.int .i64 0), (.crows []), (.crows [])])⟩ := by kernel_rfl
theorem ti32 : ti Try.prog 32 = some ⟨5, 72, (.struct [(0, 3), (1, 30)]), (.agg [(.int .i64 0), (.int .i64 0), (.int .i64 0), (.crows []), (.crows [])])⟩ := by kernel_rfl
theorem ti33 : ti Try.prog 33 = some ⟨1, 8, .func, .nilFunc⟩ := by kernel_rfl
theorem ti34 : ti Try.prog 34 = some ⟨1, 8, .func, .nilFunc⟩ := by kernel_rfl
theorem ti35 : ti Try.prog 35 = some ⟨1, 24, (.slice 39), (.crows [])⟩ := by kernel_rfl
theorem ti36 : ti Try.prog 36 = some ⟨1, 24, (.slice 32), (.crows [])⟩ := by kernel_rfl
theorem ti37 : ti Try.prog 37 = some ⟨1, 8, .func, .nilFunc⟩ := by kernel_rfl
theorem ti38 : ti Try.prog 38 = some ⟨1, 8, .func, .nilFunc⟩ := by kernel_rfl
theorem ti39 : ti Try.prog 39 = some ⟨1, 24, (.slice 66), (.crows [])⟩ := by kernel_rfl
theorem ti40 : ti Try.prog 40 = some ⟨1, 24, (.slice 52), (.crows [])⟩ := by kernel_rfl
theorem ti41 : ti Try.prog 41 = some ⟨4, 40, (.struct [(0, 40), (1, 4), (2, 4), (3, 3)]), (.agg [(.crows []), (.bool false), (.bool false), (.int .i64 0)])⟩ := by kernel_rfl
theorem ti42 : ti Try.prog 42 = some ⟨4, 40, (.struct [(0, 40), (1, 4), (2, 4), (3, 3)]), (.agg [(.crows []), (.bool false), (.bool false), (.int .i64 0)])⟩ := by kernel_rfl
theorem ti43 : ti Try.prog 43 = some ⟨1, 8, .func, .nilFunc⟩ := by kernel_rfl
theorem ti44 : ti Try.prog 44 = some ⟨1, 0, .other, .undef⟩ := by kernel_rfl
theorem ti45 : ti Try.prog 45 = some ⟨1, 8, .func, .nilFunc⟩ := by kernel_rfl
theorem ti46 : ti Try.prog 46 = some ⟨1, 8, .func, .nilFunc⟩ := by kernel_rfl
theorem ti47 : ti Try.prog 47 = some ⟨1, 8, (.int .i64), (.int .i64 0)⟩ := by kernel_rfl
theorem ti48 : ti Try.prog 48 = some ⟨1, 0, .other, .undef⟩ := by kernel_rfl
theorem ti49 : ti Try.prog 49 = some ⟨1, 8, .func, .nilFunc⟩ := by kernel_rfl
theorem ti50 : ti Try.prog 50 = some ⟨1, 24, (.slice 54), (.crows [])⟩ := by kernel_rfl
theorem ti51 : ti Try.prog 51 = some ⟨4, 48, (.struct [(0, 50), (1, 3), (2, 3), (3, 4)]), (.agg [(.crows []), (.int .i64 0), (.int .i64 0), (.bool false)])⟩ := by kernel_rfl
theorem ti52 : ti Try.prog 52 = some ⟨4, 48, (.struct [(0, 50), (1, 3), (2, 3), (3, 4)]), (.agg [(.crows []), (.int .i64 0), (.int .i64 0), (.bool false)])⟩ := by kernel_rfl
theorem ti53 : ti Try.prog 53 = some ⟨3, 40, (.struct [(0, 4), (1, 9), (2, 9)]), (.agg [(.bool false), (.str ⟨#[]⟩), (.str ⟨#[]⟩)])⟩ := by kernel_rfl
theorem ti54 : ti Try.prog 54 = some ⟨3, 40, (.struct [(0, 4), (1, 9), (2, 9)]), (.agg [(.bool false), (.str ⟨#[]⟩), (.str ⟨#[]⟩)])⟩ := by kernel_rfl
theorem ti55 : ti Try.prog 55 = some ⟨1, 8, .func, .nilFunc⟩ := by kernel_rfl
theorem ti56 : ti Try.prog 56 = some ⟨4, 48, (.struct [(0, 3), (1, 9), (2, 9), (3, 3)]), (.agg [(.int .i64 0), (.str ⟨#[]⟩), (.str ⟨#[]⟩), (.int .i64 0)])⟩ := by kernel_rfl
theorem ti57 : ti Try.prog 57 = some ⟨4, 48, (.struct [(0, 3), (1, 9), (2, 9), (3, 3)]), (.agg [(.int .i64 0), (.str ⟨#[]⟩), (.str ⟨#[]⟩), (.int .i64 0)])⟩ := by kernel_rfl
theorem ti58 : ti Try.prog 58 = some ⟨1, 8, .func, .nilFunc⟩ := by kernel_rfl
theorem ti59 : ti Try.prog 59 = some ⟨1, 8, .func, .nilFunc⟩ := by kernel_rfl
theorem ti60 : ti Try.prog 60 = some ⟨1, 8, .func, .nilFunc⟩ := by kernel_rfl
theorem ti61 : ti Try.prog 61 = some ⟨1, 8, .func, .nilFunc⟩ := by kernel_rfl
theorem ti62 : ti Try.prog 62 = some ⟨1, 0, .other, .undef⟩ := by kernel_rfl
theorem ti63 : ti Try.prog 63 = some ⟨1, 8, .func, .nilFunc⟩ := by kernel_rfl
theorem ti64 : ti Try.prog 64 = some ⟨1, 8, .func, .nilFunc⟩ := by kernel_rfl
theorem ti65 : ti Try.prog 65 = some ⟨1, 8, .func, .nilFunc⟩ := by kernel_rfl
theorem ti66 : ti Try.prog 66 = some ⟨1, 2, (.int .u16), (.int .u16 0)⟩ := by kernel_rfl
theorem ti67 : ti Try.prog 67 = some ⟨1, 8, .func, .nilFunc⟩ := by kernel_rfl
theorem ti68 : ti Try.prog 68 = some ⟨1, 8, .func, .nilFunc⟩ := by kernel_rfl
theorem ti69 : ti Try.prog 69 = some ⟨1, 8, .func, .nilFunc⟩ := by kernel_rfl
theorem ti70 : ti Try.prog 70 = some ⟨1, 8, .func, .nilFunc⟩ := by kernel_rfl
theorem ti71 : ti Try.prog 71 = some ⟨1, 8, .func, .nilFunc⟩ := by kernel_rfl
theorem ti72 : ti Try.prog 72 = some ⟨1, 8, .func, .nilFunc⟩ := by kernel_rfl
theorem ti73 : ti Try.prog 73 = some ⟨1, 8, .func, .nilFunc⟩ := by kernel_rfl
theorem ti74 : ti Try.prog 74 = some ⟨1, 8, .func, .nilFunc⟩ := by kernel_rfl
theorem ti75 : ti Try.prog 75 = some ⟨1, 8, .func, .nilFunc⟩ := by kernel_rfl
theorem ti76 : ti Try.prog 76 = some ⟨1, 0, .other, .undef⟩ := by kernel_rfl
theorem ti77 : ti Try.prog 77 = some ⟨1, 8, .func, .nilFunc⟩ := by kernel_rfl
theorem ti78 : ti Try.prog 78 = some ⟨5, 80, (.struct [(0, 9), (1, 30)]), (.agg [(.str ⟨#[]⟩), (.int .i64 0), (.int .i64 0), (.crows []), (.crows [])])⟩ := by kernel_rfl
theorem ti79 : ti Try.prog 79 = some ⟨5, 80, (.struct [(0, 9), (1, 30)]), (.agg [(.str ⟨#[]⟩), (.int .i64 0), (.int .i64 0), (.crows []), (.crows [])])⟩ := by kernel_rfl
theorem ti80 : ti Try.prog 80 = some ⟨1, 8, (.int .u64), (.int .u64 0)⟩ := by kernel_rfl
theorem ti81 : ti Try.prog 81 = some ⟨1, 0, .other, .undef⟩ := by kernel_rfl
theorem ti82 : ti Try.prog 82 = some ⟨1, 8, .func, .nilFunc⟩ := by kernel_rfl
theorem ti83 : ti Try.prog 83 = some ⟨1, 8, .func, .nilFunc⟩ := by kernel_rfl
theorem ti84 : ti Try.prog 84 = some ⟨1, 8, (.pointer 52), .nilPtr⟩ := by kernel_rfl
theorem ti85 : ti Try.prog 85 = some ⟨1, 8, .func, .nilFunc⟩ := by kernel_rfl
theorem ti86 : ti Try.prog 86 = some ⟨1, 8, .func, .nilFunc⟩ := by kernel_rfl
theorem ti87 : ti Try.prog 87 = some ⟨1, 8, .func, .nilFunc⟩ := by kernel_rfl
theorem ti88 : ti Try.prog 88 = some ⟨1, 0, .other, .undef⟩ := by kernel_rfl
theorem ti89 : ti Try.prog 89 = some ⟨1, 8, .func, .nilFunc⟩ := by kernel_rfl
theorem ti90 : ti Try.prog 90 = some ⟨1, 8, .func, .nilFunc⟩ := by kernel_rfl
theorem ti91 : ti Try.prog 91 = some ⟨1, 8, .func, .nilFunc⟩ := by kernel_rfl
theorem ti92 : ti Try.prog 92 = some ⟨1, 8, .func, .nilFunc⟩ := by kernel_rfl
theorem ti93 : ti Try.prog 93 = some ⟨1, 8, .func, .nilFunc⟩ := by kernel_rfl
theorem ti94 : ti Try.prog 94 = some ⟨1, 8, .func, .nilFunc⟩ := by kernel_rfl
theorem ti95 : ti Try.prog 95 = some ⟨1, 0, .other, .undef⟩ := by kernel_rfl
theorem ti96 : ti Try.prog 96 = some ⟨1, 8, .func, .nilFunc⟩ := by kernel_rfl
theorem ti97 : ti Try.prog 97 = some ⟨1, 4, (.int .u32), (.int .u32 0)⟩ := by kernel_rfl
theorem ti98 : ti Try.prog 98 = some ⟨1, 0, .other, .undef⟩ := by kernel_rfl
theorem ti99 : ti Try.prog 99 = some ⟨1, 8, .func, .nilFunc⟩ := by kernel_rfl
theorem ti100 : ti Try.prog 100 = some ⟨1, 8, (.int .u64), (.int .u64 0)⟩ := by kernel_rfl
theorem ti101 : ti Try.prog 101 = some ⟨1, 0, .other, .undef⟩ := by kernel_rfl
theorem ti102 : ti Try.prog 102 = some ⟨1, 8, .func, .nilFunc⟩ := by kernel_rfl
theorem ti103 : ti Try.prog 103 = some ⟨1, 8, .func, .nilFunc⟩ := by kernel_rfl
theorem ti104 : ti Try.prog 104 = some ⟨1, 0, .other, .undef⟩ := by kernel_rfl
theorem ti105 : ti Try.prog 105 = some ⟨1, 8, .func, .nilFunc⟩ := by kernel_rfl
theorem ti106 : ti Try.prog 106 = some ⟨1, 8, .func, .nilFunc⟩ := by kernel_rfl
theorem ti107 : ti Try.prog 107 = some ⟨1, 8, .func, .nilFunc⟩ := by kernel_rfl
theorem ti108 : ti Try.prog 108 = some ⟨1, 8, .func, .nilFunc⟩ := by kernel_rfl
theorem ti109 : ti Try.prog 109 = some ⟨1, 8, .func, .nilFunc⟩ := by kernel_rfl
theorem ti110 : ti Try.prog 110 = some ⟨1, 8, .func, .nilFunc⟩ := by kernel_rfl
theorem ti111 : ti Try.prog 111 = some ⟨1, 8, .func, .nilFunc⟩ := by kernel_rfl
theorem ti112 : ti Try.prog 112 = some ⟨1, 8, .func, .nilFunc⟩ := by kernel_rfl
theorem ti113 : ti Try.prog 113 = some ⟨1, 8, .func, .nilFunc⟩ := by kernel_rfl
theorem ti114 : ti Try.prog 114 = some ⟨1, 8, .func, .nilFunc⟩ := by kernel_rfl
theorem ti115 : ti Try.prog 115 = some ⟨1, 8, (.int .i64), (.int .i64 0)⟩ := by kernel_rfl
theorem ti116 : ti Try.prog 116 = some ⟨1, 0, .other, .undef⟩ := by kernel_rfl
theorem ti117 : ti Try.prog 117 = some ⟨1, 8, .func, .nilFunc⟩ := by kernel_rfl
theorem ti118 : ti Try.prog 118 = some ⟨1, 8, .func, .nilFunc⟩ := by kernel_rfl
theorem ti119 : ti Try.prog 119 = some ⟨1, 8, .func, .nilFunc⟩ := by kernel_rfl
theorem ti120 : ti Try.prog 120 = some ⟨1, 8, .func, .nilFunc⟩ := by kernel_rfl
theorem ti121 : ti Try.prog 121 = some ⟨1, 8, .func, .nilFunc⟩ := by kernel_rfl
theorem ti122 : ti Try.prog 122 = some ⟨1, 8, .func, .nilFunc⟩ := by kernel_rfl
theorem ti123 : ti Try.prog 123 = some ⟨1, 0, .other, .undef⟩ := by kernel_rfl
theorem ti124 : ti Try.prog 124 = some ⟨1, 8, .func, .nilFunc⟩ := by kernel_rfl
theorem ti125 : ti Try.prog 125 = some ⟨1, 8, .func, .nilFunc⟩ := by kernel_rfl
theorem ti126 : ti Try.prog 126 = some ⟨1, 8, .func, .nilFunc⟩ := by kernel_rfl
theorem ti127 : ti Try.prog 127 = some ⟨1, 24, (.slice 5), (.crows [])⟩ := by kernel_rfl
theorem ti128 : ti Try.prog 128 = some ⟨1, 8, .func, .nilFunc⟩ := by kernel_rfl
theorem ti129 : ti Try.prog 129 = some ⟨1, 8, (.pointer 30), .nilPtr⟩ := by kernel_rfl
theorem ti130 : ti Try.prog 130 = some ⟨1, 8, (.pointer 47), .nilPtr⟩ := by kernel_rfl
theorem ti131 : ti Try.prog 131 = some ⟨1, 8, (.pointer 133), .nilPtr⟩ := by kernel_rfl
theorem ti132 : ti Try.prog 132 = some ⟨1, 16, (.struct [(0, 9)]), (.agg [(.str ⟨#[]⟩)])⟩ := by kernel_rfl
theorem ti133 : ti Try.prog 133 = some ⟨1, 16, (.struct [(0, 9)]), (.agg [(.str ⟨#[]⟩)])⟩ := by kernel_rfl
theorem ti134 : ti Try.prog 134 = some ⟨1, 8, .func, .nilFunc⟩ := by kernel_rfl
theorem ti135 : ti Try.prog 135 = some ⟨3, 72, (.array 3 24), (.agg [(.crows []), (.crows []), (.crows [])])⟩ := by kernel_rfl
theorem ti136 : ti Try.prog 136 = some ⟨1, 8, (.int .u64), (.int .u64 0)⟩ := by kernel_rfl
theorem ti137 : ti Try.prog 137 = some ⟨1, 8, .func, .nilFunc⟩ := by kernel_rfl
theorem ti138 : ti Try.prog 138 = some ⟨1, 8, .func, .nilFunc⟩ := by kernel_rfl
theorem ti139 : ti Try.prog 139 = some ⟨1, 8, .func, .nilFunc⟩ := by kernel_rfl
theorem ti140 : ti Try.prog 140 = some ⟨1, 8, (.pointer 3), .nilPtr⟩ := by kernel_rfl
theorem ti141 : ti Try.prog 141 = some ⟨1, 8, .func, .nilFunc⟩ := by kernel_rfl
theorem ti142 : ti Try.prog 142 = some ⟨1, 0, .other, .undef⟩ := by kernel_rfl
theorem ti143 : ti Try.prog 143 = some ⟨1, 8, .func, .nilFunc⟩ := by kernel_rfl
theorem ti144 : ti Try.prog 144 = some ⟨1, 8, .func, .nilFunc⟩ := by kernel_rfl
theorem ti145 : ti Try.prog 145 = some ⟨4, 4, (.array 4 5), (.agg [(.int .u8 0), (.int .u8 0), (.int .u8 0), (.int .u8 0)])⟩ := by kernel_rfl
theorem ti146 : ti Try.prog 146 = some ⟨1, 8, (.pointer 136), .nilPtr⟩ := by kernel_rfl
theorem ti147 : ti Try.prog 147 = some ⟨1, 0, .other, .undef⟩ := by kernel_rfl
theorem ti148 : ti Try.prog 148 = some ⟨1, 8, .func, .nilFunc⟩ := by kernel_rfl
theorem ti149 : ti Try.prog 149 = some ⟨1, 8, .func, .nilFunc⟩ := by kernel_rfl
theorem ti150 : ti Try.prog 150 = some ⟨1, 8, .func, .nilFunc⟩ := by kernel_rfl
theorem ti151 : ti Try.prog 151 = some ⟨1, 8, .func, .nilFunc⟩ := by kernel_rfl
theorem ti152 : ti Try.prog 152 = some ⟨1, 8, .func, .nilFunc⟩ := by kernel_rfl
theorem ti153 : ti Try.prog 153 = some ⟨4, 40, (.struct [(0, 17), (1, 17), (2, 17), (3, 9)]), (.agg [.nilPtr, .nilPtr, .nilPtr, (.str ⟨#[]⟩)])⟩ := by kernel_rfl
theorem ti154 : ti Try.prog 154 = some ⟨4, 40, (.struct [(0, 17), (1, 17), (2, 17), (3, 9)]), (.agg [.nilPtr, .nilPtr, .nilPtr, (.str ⟨#[]⟩)])⟩ := by kernel_rfl
theorem ti155 : ti Try.prog 155 = some ⟨0, 0, (.array 0 16), (.agg [])⟩ := by kernel_rfl
theorem ti156 : ti Try.prog 156 = some ⟨0, 0, (.struct [(0, 155)]), (.agg [])⟩ := by kernel_rfl
theorem ti157 : ti Try.prog 157 = some ⟨0, 0, (.struct [(0, 155)]), (.agg [])⟩ := by kernel_rfl
theorem ti158 : ti Try.prog 158 = some ⟨1, 8, .func, .nilFunc⟩ := by kernel_rfl
theorem ti159 : ti Try.prog 159 = some ⟨1, 1, (.int .u8), (.int .u8 0)⟩ := by kernel_rfl
theorem ti160 : ti Try.prog 160 = some ⟨1, 1, (.int .u8), (.int .u8 0)⟩ := by kernel_rfl
theorem ti161 : ti Try.prog 161 = some ⟨1, 8, .func, .nilFunc⟩ := by kernel_rfl
theorem ti162 : ti Try.prog 162 = some ⟨1, 8, (.pointer 5), .nilPtr⟩ := by kernel_rfl
theorem ti163 : ti Try.prog 163 = some ⟨1, 4, (.int .i32), (.int .i32 0)⟩ := by kernel_rfl
theorem ti164 : ti Try.prog 164 = some ⟨1, 4, (.int .i32), (.int .i32 0)⟩ := by kernel_rfl
theorem ti165 : ti Try.prog 165 = some ⟨11, 48, (.struct [(0, 12), (1, 12), (2, 97), (3, 159), (4, 5), (5, 5), (6, 160), (7, 161), (8, 162), (9, 163), (10, 164)]), (.agg [(.int .u64 0), (.int .u64 0), (.int .u32 0), (.int .u8 0), (.int .u8 0), (.int .u8 0), (.int .u8 0), .nilFunc, .nilPtr, (.int .i32 0), (.int .i32 0)])⟩ := by kernel_rfl
theorem ti166 : ti Try.prog 166 = some ⟨11, 48, (.struct [(0, 12), (1, 12), (2, 97), (3, 159), (4, 5), (5, 5), (6, 160), (7, 161), (8, 162), (9, 163), (10, 164)]), (.agg [(.int .u64 0), (.int .u64 0), (.int .u32 0), (.int .u8 0), (.int .u8 0), (.int .u8 0), (.int .u8 0), .nilFunc, .nilPtr, (.int .i32 0), (.int .i32 0)])⟩ := by kernel_rfl
theorem ti167 : ti Try.prog 167 = some ⟨1, 8, .other, .nilPtr⟩ := by kernel_rfl
attribute [go_sem] ti0 ti1 ti2 ti3 ti4 ti5 ti6 ti7 ti8 ti9 ti10 ti11 ti12 ti13 ti14 ti15 ti16 ti17 ti18 ti19 ti20 ti21 ti22 ti23 ti24 ti25 ti26 ti27 ti28 ti29 ti30 ti31 ti32 ti33 ti34 ti35 ti36 ti37 ti38 ti39 ti40 ti41 ti42 ti43 ti44 ti45 ti46 ti47 ti48 ti49 ti50 ti51 ti52 ti53 ti54 ti55 ti56 ti57 ti58 ti59 ti60 ti61 ti62 ti63 ti64 ti65 ti66 ti67 ti68 ti69 ti70 ti71 ti72 ti73 ti74 ti75 ti76 ti77 ti78 ti79 ti80 ti81 ti82 ti83 ti84 ti85 ti86 ti87 ti88 ti89 ti90 ti91 ti92 ti93 ti94 ti95 ti96 ti97 ti98 ti99 ti100 ti101 ti102 ti103 ti104 ti105 ti106 ti107 ti108 ti109 ti110 ti111 ti112 ti113 ti114 ti115 ti116 ti117 ti118 ti119 ti120 ti121 ti122 ti123 ti124 ti125 ti126 ti127 ti128 ti129 ti130 ti131 ti132 ti133 ti134 ti135 ti136 ti137 ti138 ti139 ti140 ti141 ti142 ti143 ti144 ti145 ti146 ti147 ti148 ti149 ti150 ti151 ti152 ti153 ti154 ti155 ti156 ti157 ti158 ti159 ti160 ti161 ti162 ti163 ti164 ti165 ti166 ti167
end Go.Proofs.Ytnkakbjfdfoehaa
namespace Go.Proofs.Ytnkakbjfdfoehaa
open Go Go.Proofs Clk
set_option maxRecDepth 100000
theorem newRows_of {H : List AO} {te : TI} {x : AV} {rs : List (List AV)} (h : rowsOf H x = some rs) : newRows H te x = some rs := by
  cases x <;> first | exact h | (simp [rowsOf] at h)
theorem good : Clk.Good Try.prog := ⟨by kernel_rfl, fun f fn h hn => by
  have : Try.prog.funcs.all (fun fn => fn.name != "runtime.NumGoroutine") = true := by kernel_rfl
  rw [Array.all_eq_true] at this
  obtain ⟨hi, h'⟩ := Array.getElem?_eq_some_iff.1 h
  have := this f hi
  rw [h', hn] at this
  simp at this⟩
theorem clone23 : ∀ args H v ch, cloneA 1 8 H.length args H = some (v, ch) → ∀ (w : World) (X : Nat → Prop) (β : Beta) (vs : Array Value), HRel w X β H → ARel w (NN X β H) β args vs → CallsIn (WF none) 0 Try.prog 23 vs w (Clk.Ends w X β H v (applyCh H ch)) := by
  refine clone_gen good Try.func23 (by rfl) (by rfl) (by rfl) (by rfl) (by rfl) (by rfl) (by rfl) (by rfl) (by rfl) Try.underlying24 (fun x H => ⟨20, ?_⟩) (fun x H => ⟨20, ?_⟩) (fun x H v ch h => ?_)
  · simp (config := {dsimp := false}) only [go_sem]
  · simp (config := {dsimp := false}) only [go_sem]
  · unfold cloneA at h
    simp only at h
    split at h
    · rename_i hrs
      cases h
      have hnr : ∀ te, newRows H te x = some [] := fun te => newRows_of hrs
      refine ⟨20, ?_⟩
      simp (config := {dsimp := false}) only [go_sem, hnr, reduceIte, Nat.reduceEqDiff, reduceCtorEq, Nat.zero_mul, Nat.not_lt_zero, gt_iff_lt, or_self, Nat.zero_le]
      refine ⟨_, rfl, ?_⟩
      rfl
    · rename_i rs hne hrs
      split at h
      · rename_i hc
        cases h
        simp only [Bool.and_eq_true, decide_eq_true_eq] at hc
        have hnr : ∀ te, newRows H te x = some rs := fun te => newRows_of hrs
        have h1 : ¬ (maxBytes < rs.length * 8) := Nat.not_lt.2 hc.1.2
        have h2 : ¬ (maxBytes < rs.length) := Nat.not_lt.2 hc.2
        have h3 : rs.all (fun r => r.length == 1) = true := hc.1.1
        have h4 : rs.length ≠ 0 := fun e => hne (List.eq_nil_of_length_eq_zero e)
        refine ⟨20, ?_⟩
        simp (config := {dsimp := false}) only [go_sem, hnr, reduceIte, Nat.reduceEqDiff, reduceCtorEq, gt_iff_lt, h1, h2, h3, h4, or_self, Bool.and_self]
        refine ⟨_, rfl, ?_⟩
        rfl
      · cases h
    · cases h
def primW : FuncId → Option (Nat → List AV → List AO → Res) := fun f => if f = 23 then some (cloneA 1 8) else none
theorem primW_ok : PrimOk Try.prog primW := by
  intro f h e
  unfold primW at e
  split at e
  · rename_i hf; subst hf; cases e
    exact ⟨⟨_, Try.func23, by rfl⟩, clone23⟩
  · cases e
end Go.Proofs.Ytnkakbjfdfoehaa
namespace Go.Proofs.Ytnkakbjfdfoehaa
open Clk Go.Proofs
theorem prim_eq : seat.prim = primW := by
  funext f
  by_cases h : f < 123
  · have key : (List.range 123).map seat.prim = (List.range 123).map primW := by kernel_rfl
    have := congrArg (fun l => l[f]?) key
    simp only [List.getElem?_map, List.getElem?_range h, Option.map_some] at this
    exact Option.some.inj this
  · have h' : 123 ≤ f := Nat.le_of_not_lt h
    have hl : seat.cl.length = 123 := by kernel_rfl
    have h1 : seat.cl.length ≤ f := Nat.le_trans (Nat.le_of_eq hl) h'
    have n1 : f ≠ 23 := fun e => absurd (e ▸ h') (by decide)
    unfold Seat.prim primW
    rw [List.getD_eq_getElem?_getD, List.getElem?_eq_none h1, if_neg n1]
    rfl
theorem primOk : PrimOk Try.prog seat.prim := by rw [prim_eq]; exact primW_ok
end Go.Proofs.Ytnkakbjfdfoehaa
namespace Clk.Ytnkakbjfdfoehaa
open Go Go.Proofs Go.Proofs.Ytnkakbjfdfoehaa
set_option maxRecDepth 1000000
set_option linter.unusedVariables false
noncomputable def LN : List (FuncId × Spec) := []
theorem ok_N : OrcOk Try.prog (orcOf LN) := specs_nil
noncomputable def tm_ref02_Same : Nat → Option Tmpl := fun cx => cond (Nat.beq cx 6) (some ⟨[], [], 26, [], [.var (.list .i), .var (.list .i), J, J, J, .var .i, J, J, J, J, J, J, J, J, J, J, J, J, J, J, J, J, J, J, J, J], [], []⟩) <| none
noncomputable def gh_ref02_Same : Nat → Nat → Option (Nat × Nat) := fun _ _ => none
theorem t_ref02_Same (N : Nat) (a0 : (List Int)) (a1 : (List Int)) : symF (seat.mk' (spOf LN) tm_ref02_Same gh_ref02_Same) N 400 21 [(.list .i), (.list .i)] [.bool] (a0, a1) = G_ref02_Same N a0 a1 := by kernel_rfl
noncomputable def L_ref02_Same : List (FuncId × Spec) := (21, ⟨[(.list .i), (.list .i)], [.bool], S_ref02_Same⟩) :: LN
theorem ok_ref02_Same : OrcOk Try.prog (orcOf L_ref02_Same) := specs_cons sseat good primOk ok_N (by kernel_rfl) ⟨_, Try.func21, by rfl⟩ (tm := tm_ref02_Same) (gh := gh_ref02_Same) fun x y h => by obtain ⟨N, h⟩ := lim_spec h; exact ⟨N, 400, (t_ref02_Same N x.1 x.2).trans h⟩
noncomputable def tm_ref07_Same : Nat → Option Tmpl := fun _ => none
noncomputable def gh_ref07_Same : Nat → Nat → Option (Nat × Nat) := fun _ _ => none
theorem t_ref07_Same (N : Nat) (a0 : Table) (a1 : Table) : symF (seat.mk' (spOf L_ref02_Same) tm_ref07_Same gh_ref07_Same) N 400 10 [.table, .table] [.bool] (a0, a1) = G_ref07_Same a0 a1 := by kernel_rfl
noncomputable def L_ref07_Same : List (FuncId × Spec) := (10, ⟨[.table, .table], [.bool], S_ref07_Same⟩) :: L_ref02_Same
theorem ok_ref07_Same : OrcOk Try.prog (orcOf L_ref07_Same) := specs_cons sseat good primOk ok_ref02_Same (by kernel_rfl) ⟨_, Try.func10, by rfl⟩ (tm := tm_ref07_Same) (gh := gh_ref07_Same) fun x y h => ⟨0, 400, (t_ref07_Same 0 x.1 x.2).trans h⟩
noncomputable def tm_math_bits_Mul64 : Nat → Option Tmpl := fun _ => none
noncomputable def gh_math_bits_Mul64 : Nat → Nat → Option (Nat × Nat) := fun _ _ => none
theorem t_math_bits_Mul64 (N : Nat) (a0 : Int) (a1 : Int) : symF (seat.mk' (spOf L_ref07_Same) tm_math_bits_Mul64 gh_math_bits_Mul64) N 400 51 [(.int .u64), (.int .u64)] [(.int .u64), (.int .u64)] (a0, a1) = G_math_bits_Mul64 a0 a1 := by kernel_rfl
noncomputable def L_math_bits_Mul64 : List (FuncId × Spec) := (51, ⟨[(.int .u64), (.int .u64)], [(.int .u64), (.int .u64)], S_math_bits_Mul64⟩) :: L_ref07_Same
theorem ok_math_bits_Mul64 : OrcOk Try.prog (orcOf L_math_bits_Mul64) := specs_cons sseat good primOk ok_ref07_Same (by kernel_rfl) ⟨_, Try.func51, by rfl⟩ (tm := tm_math_bits_Mul64) (gh := gh_math_bits_Mul64) fun x y h => ⟨0, 400, (t_math_bits_Mul64 0 x.1 x.2).trans h⟩
noncomputable def tm_math_bits_Mul : Nat → Option Tmpl := fun _ => none
noncomputable def gh_math_bits_Mul : Nat → Nat → Option (Nat × Nat) := fun _ _ => none
theorem t_math_bits_Mul (N : Nat) (a0 : Int) (a1 : Int) : symF (seat.mk' (spOf L_math_bits_Mul64) tm_math_bits_Mul gh_math_bits_Mul) N 400 38 [(.int .u64), (.int .u64)] [(.int .u64), (.int .u64)] (a0, a1) = G_math_bits_Mul a0 a1 := by kernel_rfl
noncomputable def L_math_bits_Mul : List (FuncId × Spec) := (38, ⟨[(.int .u64), (.int .u64)], [(.int .u64), (.int .u64)], S_math_bits_Mul⟩) :: L_math_bits_Mul64
theorem ok_math_bits_Mul : OrcOk Try.prog (orcOf L_math_bits_Mul) := specs_cons sseat good primOk ok_math_bits_Mul64 (by kernel_rfl) ⟨_, Try.func38, by rfl⟩ (tm := tm_math_bits_Mul) (gh := gh_math_bits_Mul) fun x y h => ⟨0, 400, (t_math_bits_Mul 0 x.1 x.2).trans h⟩
noncomputable def tm_slices_Repeat : Nat → Option Tmpl := fun cx => cond (Nat.beq cx 26) (some ⟨[], [], 48, [.blk .i 0 false], [J, J, J, J, J, J, J, .fix (.bref 0 0), .var .i, J, J, J, J, J, J, J, J, J, J, J, J, J, J, J, J, J, J, J, J, J, .fix (.bref 0 0), .fix (.bref 0 0), J, J, J, J, J, J, J, J, J, J, J, J, J, J, J, J, .var (.list .i)], [], []⟩) <| none
noncomputable def gh_slices_Repeat : Nat → Nat → Option (Nat × Nat) := fun _ _ => none
theorem t_slices_Repeat (N : Nat) (a0 : (List Int)) (a1 : Int) : symF (seat.mk' (spOf L_math_bits_Mul) tm_slices_Repeat gh_slices_Repeat) N 400 22 [(.list .i), .i] [(.list .i)] (a0, a1) = G_slices_Repeat N a0 a1 := by kernel_rfl
noncomputable def L_slices_Repeat : List (FuncId × Spec) := (22, ⟨[(.list .i), .i], [(.list .i)], S_slices_Repeat⟩) :: L_math_bits_Mul
theorem ok_slices_Repeat : OrcOk Try.prog (orcOf L_slices_Repeat) := specs_cons sseat good primOk ok_math_bits_Mul (by kernel_rfl) ⟨_, Try.func22, by rfl⟩ (tm := tm_slices_Repeat) (gh := gh_slices_Repeat) fun x y h => by obtain ⟨N, h⟩ := lim_spec h; exact ⟨N, 400, (t_slices_Repeat N x.1 x.2).trans h⟩
noncomputable def tm_replay_New : Nat → Option Tmpl := fun _ => none
noncomputable def gh_replay_New : Nat → Nat → Option (Nat × Nat) := fun _ _ => none
theorem t_replay_New (N : Nat) (a0 : Int) : symF (seat.mk' (spOf L_slices_Repeat) tm_replay_New gh_replay_New) N 400 11 [.i] [.table] a0 = G_replay_New a0 := by kernel_rfl
noncomputable def L_replay_New : List (FuncId × Spec) := (11, ⟨[.i], [.table], S_replay_New⟩) :: L_slices_Repeat
theorem ok_replay_New : OrcOk Try.prog (orcOf L_replay_New) := specs_cons sseat good primOk ok_slices_Repeat (by kernel_rfl) ⟨_, Try.func11, by rfl⟩ (tm := tm_replay_New) (gh := gh_replay_New) fun x y h => ⟨0, 400, (t_replay_New 0 x).trans h⟩
noncomputable def tm_replay_value : Nat → Option Tmpl := fun _ => none
noncomputable def gh_replay_value : Nat → Nat → Option (Nat × Nat) := fun _ _ => none
theorem t_replay_value (N : Nat) (a0 : Found) (a1 : Int) : symF (seat.mk' (spOf L_replay_New) tm_replay_value gh_replay_value) N 400 24 [.found, .i] [.i, .bool] (a0, a1) = G_replay_value a0 a1 := by kernel_rfl
noncomputable def L_replay_value : List (FuncId × Spec) := (24, ⟨[.found, .i], [.i, .bool], S_replay_value⟩) :: L_replay_New
theorem ok_replay_value : OrcOk Try.prog (orcOf L_replay_value) := specs_cons sseat good primOk ok_replay_New (by kernel_rfl) ⟨_, Try.func24, by rfl⟩ (tm := tm_replay_value) (gh := gh_replay_value) fun x y h => ⟨0, 400, (t_replay_value 0 x.1 x.2).trans h⟩
noncomputable def tm_replay_Apply : Nat → Option Tmpl := fun cx => cond (Nat.beq cx 1) (some ⟨[], [], 62, [.raw 2 1, .st .found, .raw 2 1, .dead, .dead, .dead, .dead, .dead, .dead, .dead, .dead, .dead, .dead, .blk .i 0 false, .blk .i 0 false], [J, J, .fix (.ptr 0 0 0 0), .fix (.ptr 1 0 0 0), .fix (.ptr 2 0 0 0), J, J, J, J, .fix (.ptr 0 0 0 0), J, .fix (.bref 13 0), .fix (.ptr 0 0 0 1), J, .fix (.bref 14 0), .fix (.ptr 0 0 0 0), .fix (.ptr 0 0 0 1), .fix (.ptr 1 0 0 1), .fix (.ptr 1 0 0 3), .var (.list .i), .var .i, .var .i, J, J, J, J, J, J, J, J, J, J, J, J, J, J, J, J, J, J, J, J, J, J, J, J, J, J, J, J, J, J, J, J, J, J, J, J, J, J, J, J, .fix (.bref 13 0), .fix (.bref 14 0), .agg .found, J, J, .var (.list .i), .var (.list .i)], [], []⟩) <| none
noncomputable def gh_replay_Apply : Nat → Nat → Option (Nat × Nat) := fun _ _ => none
theorem t_replay_Apply (N : Nat) (a0 : Table) (a1 : Found) : symF (seat.mk' (spOf L_replay_value) tm_replay_Apply gh_replay_Apply) N 400 13 [.table, .found] [.table] (a0, a1) = G_replay_Apply N a0 a1 := by kernel_rfl
noncomputable def L_replay_Apply : List (FuncId × Spec) := (13, ⟨[.table, .found], [.table], S_replay_Apply⟩) :: L_replay_value
theorem ok_replay_Apply : OrcOk Try.prog (orcOf L_replay_Apply) := specs_cons sseat good primOk ok_replay_value (by kernel_rfl) ⟨_, Try.func13, by rfl⟩ (tm := tm_replay_Apply) (gh := gh_replay_Apply) fun x y h => by obtain ⟨N, h⟩ := lim_spec h; exact ⟨N, 400, (t_replay_Apply N x.1 x.2).trans h⟩
theorem t_math_bits_Len64 : symF (seat.mk' (spOf L_replay_Apply) (fun _ => none) (fun _ _ => none)) 0 400 75 [(.int .u64)] [.i] (0 : Int) = some (0 : Int) := by kernel_rfl
noncomputable def L_math_bits_Len64 : List (FuncId × Spec) := (75, ⟨[(.int .u64)], [.i], S_math_bits_Len64⟩) :: L_replay_Apply
theorem ok_math_bits_Len64 : OrcOk Try.prog (orcOf L_math_bits_Len64) := specs_cons sseat good primOk ok_replay_Apply (by kernel_rfl) ⟨_, Try.func75, by rfl⟩ (tm := fun _ => none) (gh := fun _ _ => none) fun (x : Int) y (h : S_math_bits_Len64 x = some y) => by
  unfold S_math_bits_Len64 at h
  by_cases hx : x = 0
  · subst hx; rw [decide_eq_true rfl, cond_true] at h; cases h; exact ⟨0, 400, t_math_bits_Len64⟩
  · rw [decide_eq_false hx, cond_false] at h; cases h
theorem t_math_bits_Len : symF (seat.mk' (spOf L_math_bits_Len64) (fun _ => none) (fun _ _ => none)) 0 400 56 [(.int .u64)] [.i] (0 : Int) = some (0 : Int) := by kernel_rfl
noncomputable def L_math_bits_Len : List (FuncId × Spec) := (56, ⟨[(.int .u64)], [.i], S_math_bits_Len⟩) :: L_math_bits_Len64
theorem ok_math_bits_Len : OrcOk Try.prog (orcOf L_math_bits_Len) := specs_cons sseat good primOk ok_math_bits_Len64 (by kernel_rfl) ⟨_, Try.func56, by rfl⟩ (tm := fun _ => none) (gh := fun _ _ => none) fun (x : Int) y (h : S_math_bits_Len x = some y) => by
  unfold S_math_bits_Len at h
  by_cases hx : x = 0
  · subst hx; rw [decide_eq_true rfl, cond_true] at h; cases h; exact ⟨0, 400, t_math_bits_Len⟩
  · rw [decide_eq_false hx, cond_false] at h; cases h
theorem t_scan_All (b o : Bool) (n : Int) : symF (seat.mk' (spOf L_math_bits_Len) (fun _ => none) (fun _ _ => none)) 0 400 29 [.chip] [(.list .found)] ⟨[], b, o, n⟩ = some [] := by kernel_rfl
noncomputable def L_scan_All : List (FuncId × Spec) := (29, ⟨[.chip], [(.list .found)], S_scan_All⟩) :: L_math_bits_Len
theorem ok_scan_All : OrcOk Try.prog (orcOf L_scan_All) := specs_cons sseat good primOk ok_math_bits_Len (by kernel_rfl) ⟨_, Try.func29, by rfl⟩ (tm := fun _ => none) (gh := fun _ _ => none) fun x y h => by
  obtain ⟨bs, b, o, n⟩ := x
  cases bs with
  | nil => cases h; exact ⟨0, 400, t_scan_All b o n⟩
  | cons => cases h
noncomputable def tm_replay_Replay : Nat → Option Tmpl := fun cx => cond (Nat.beq cx 1) (some ⟨[], [], 21, [.raw 4 1, .raw 2 1, .st .table, .raw 2 1], [J, J, .fix (.fn 13 [] []), J, .fix (.ptr 2 0 0 0), J, .fix (.ptr 3 0 0 0), J, J, .var (.list .found), .var .i, .var .i, J, J, J, J, J, J, J, J, J, J, J, J, J, J, J, .agg .table, J, J], [], []⟩) <| cond (Nat.beq cx 30) (some ⟨[], [], 21, [.raw 4 1, .raw 2 1, .raw 2 1, .raw 2 1], [J, .var .i, .fix (.fn 30 [] []), J, J, J, J, J, J, .var (.list .found), .var .i, .var .i, J, J, J, J, J, J, J, J, J, J, J, J, J, J, J, J, J, J, J], [], []⟩) <| none
noncomputable def gh_replay_Replay : Nat → Nat → Option (Nat × Nat) := fun _ _ => none
theorem t_replay_Replay (N : Nat) (a0 : Chip) (a1 : Int) : symF (seat.mk' (spOf L_scan_All) tm_replay_Replay gh_replay_Replay) N 400 17 [.chip, .i] [.table, .i] (a0, a1) = G_replay_Replay N a0 a1 := by kernel_rfl
noncomputable def L_replay_Replay : List (FuncId × Spec) := (17, ⟨[.chip, .i], [.table, .i], S_replay_Replay⟩) :: L_scan_All
theorem ok_replay_Replay : OrcOk Try.prog (orcOf L_replay_Replay) := specs_cons sseat good primOk ok_scan_All (by kernel_rfl) ⟨_, Try.func17, by rfl⟩ (tm := tm_replay_Replay) (gh := gh_replay_Replay) fun x y h => by obtain ⟨N, h⟩ := lim_spec h; exact ⟨N, 400, (t_replay_Replay N x.1 x.2).trans h⟩
noncomputable def tm_law07_awake : Nat → Option Tmpl := fun _ => none
noncomputable def gh_law07_awake : Nat → Nat → Option (Nat × Nat) := fun _ _ => none
theorem t_law07_awake (N : Nat) : symF (seat.mk' (spOf L_replay_Replay) tm_law07_awake gh_law07_awake) N 400 9 [] [.bool] () = G_law07_awake := by kernel_rfl
noncomputable def L_law07_awake : List (FuncId × Spec) := (9, ⟨[], [.bool], S_law07_awake⟩) :: L_replay_Replay
theorem ok_law07_awake : OrcOk Try.prog (orcOf L_law07_awake) := specs_cons sseat good primOk ok_replay_Replay (by kernel_rfl) ⟨_, Try.func9, by rfl⟩ (tm := tm_law07_awake) (gh := gh_law07_awake) fun x y h => ⟨0, 400, (t_law07_awake 0 ).trans h⟩
noncomputable def tm_law03_Made : Nat → Option Tmpl := fun cx => cond (Nat.beq cx 1365) (some ⟨[.cell 2 0 2 .i, .cell 2 0 3 .i], [(4, .i), (5, .i)], 55, [.raw 1 1, .raw 4 1, .raw 4 1, .raw 1 1, .dead, .dead, .blk .i 0 true, .blk .i 0 true], [J, .fix (.ptr 0 0 0 0), .fix (.ptr 1 0 0 0), .fix (.ptr 2 0 0 0), .fix (.ptr 3 0 0 0), .fix (.fn 39 [] [(.ptr 3 0 0 0), (.ptr 0 0 0 0)]), .var .i, .var .i, .fix (.fn 39 [] [(.ptr 3 0 0 0), (.ptr 0 0 0 0)]), .fix (.fn 39 [] [(.ptr 3 0 0 0), (.ptr 0 0 0 0)]), J, J, .fix (.ptr 2 0 0 0), .fix (.fn 39 [] [(.ptr 3 0 0 0), (.ptr 0 0 0 0)]), J, .fix (.fn 39 [] [(.ptr 3 0 0 0), (.ptr 0 0 0 0)]), J, J, J, .fix (.ptr 2 0 0 1), .fix (.fn 39 [] [(.ptr 3 0 0 0), (.ptr 0 0 0 0)]), J, .fix (.fn 39 [] [(.ptr 3 0 0 0), (.ptr 0 0 0 0)]), J, J, J, J, J, J, J, J, J, J, J, J, J, J, J, J, J, J, J, J, J, J, J, J, J, J, J, J, J, J, J, J, .var (.list (.int .u16)), J, J, J, J, .var .i, .var .i, .fix (.bref 6 0), .fix (.bref 7 0), .var .i, .var (.list .i), .var (.list .i)], [], []⟩) <| cond (Nat.beq cx 1366) (some ⟨[.cell 2 0 2 .i, .cell 2 0 3 .i], [(4, .i), (5, .i)], 55, [.raw 1 1, .raw 4 1, .raw 4 1, .raw 1 1, .dead, .dead, .blk .i 0 true, .blk .i 0 true], [J, .fix (.ptr 0 0 0 0), .fix (.ptr 1 0 0 0), .fix (.ptr 2 0 0 0), .fix (.ptr 3 0 0 0), .fix (.fn 39 [] [(.ptr 3 0 0 0), (.ptr 0 0 0 0)]), .var .i, .var .i, .fix (.fn 39 [] [(.ptr 3 0 0 0), (.ptr 0 0 0 0)]), .fix (.fn 39 [] [(.ptr 3 0 0 0), (.ptr 0 0 0 0)]), J, J, .fix (.ptr 2 0 0 0), .fix (.fn 39 [] [(.ptr 3 0 0 0), (.ptr 0 0 0 0)]), J, .fix (.fn 39 [] [(.ptr 3 0 0 0), (.ptr 0 0 0 0)]), J, J, J, .fix (.ptr 2 0 0 1), .fix (.fn 39 [] [(.ptr 3 0 0 0), (.ptr 0 0 0 0)]), J, .fix (.fn 39 [] [(.ptr 3 0 0 0), (.ptr 0 0 0 0)]), J, J, J, J, J, J, J, J, J, J, J, J, J, J, J, J, J, J, J, J, J, J, J, J, J, J, J, J, J, J, J, J, .var (.list (.int .u16)), J, J, J, J, .var .i, .var .i, .fix (.bref 6 0), .fix (.bref 7 0), .var .i, .var (.list .i), .var (.list .i)], [], []⟩) <| cond (Nat.beq cx 1369) (some ⟨[.cell 2 0 2 .i, .cell 2 0 3 .i], [(4, .i), (5, .i)], 55, [.raw 1 1, .raw 4 1, .raw 4 1, .raw 1 1, .dead, .dead, .blk .i 0 true, .blk .i 0 true], [J, .fix (.ptr 0 0 0 0), .fix (.ptr 1 0 0 0), .fix (.ptr 2 0 0 0), .fix (.ptr 3 0 0 0), .fix (.fn 39 [] [(.ptr 3 0 0 0), (.ptr 0 0 0 0)]), .var .i, .var .i, .fix (.fn 39 [] [(.ptr 3 0 0 0), (.ptr 0 0 0 0)]), .fix (.fn 39 [] [(.ptr 3 0 0 0), (.ptr 0 0 0 0)]), J, J, .fix (.ptr 2 0 0 0), .fix (.fn 39 [] [(.ptr 3 0 0 0), (.ptr 0 0 0 0)]), J, .fix (.fn 39 [] [(.ptr 3 0 0 0), (.ptr 0 0 0 0)]), J, J, J, .fix (.ptr 2 0 0 1), .fix (.fn 39 [] [(.ptr 3 0 0 0), (.ptr 0 0 0 0)]), J, .fix (.fn 39 [] [(.ptr 3 0 0 0), (.ptr 0 0 0 0)]), J, J, J, J, J, J, J, J, J, J, J, J, J, J, J, J, J, J, J, J, J, J, J, J, J, J, J, J, J, J, J, J, .var (.list (.int .u16)), J, J, J, J, .var .i, .var .i, .fix (.bref 6 0), .fix (.bref 7 0), .var .i, .var (.list .i), .var (.list .i)], [], []⟩) <| cond (Nat.beq cx 1370) (some ⟨[.cell 2 0 2 .i, .cell 2 0 3 .i], [(4, .i), (5, .i)], 55, [.raw 1 1, .raw 4 1, .raw 4 1, .raw 1 1, .dead, .dead, .blk .i 0 true, .blk .i 0 true], [J, .fix (.ptr 0 0 0 0), .fix (.ptr 1 0 0 0), .fix (.ptr 2 0 0 0), .fix (.ptr 3 0 0 0), .fix (.fn 39 [] [(.ptr 3 0 0 0), (.ptr 0 0 0 0)]), .var .i, .var .i, .fix (.fn 39 [] [(.ptr 3 0 0 0), (.ptr 0 0 0 0)]), .fix (.fn 39 [] [(.ptr 3 0 0 0), (.ptr 0 0 0 0)]), J, J, .fix (.ptr 2 0 0 0), .fix (.fn 39 [] [(.ptr 3 0 0 0), (.ptr 0 0 0 0)]), J, .fix (.fn 39 [] [(.ptr 3 0 0 0), (.ptr 0 0 0 0)]), J, J, J, .fix (.ptr 2 0 0 1), .fix (.fn 39 [] [(.ptr 3 0 0 0), (.ptr 0 0 0 0)]), J, .fix (.fn 39 [] [(.ptr 3 0 0 0), (.ptr 0 0 0 0)]), J, J, J, J, J, J, J, J, J, J, J, J, J, J, J, J, J, J, J, J, J, J, J, J, J, J, J, J, J, J, J, J, .var (.list (.int .u16)), J, J, J, J, .var .i, .var .i, .fix (.bref 6 0), .fix (.bref 7 0), .var .i, .var (.list .i), .var (.list .i)], [], []⟩) <| cond (Nat.beq cx 1381) (some ⟨[.cell 2 0 2 .i, .cell 2 0 3 .i], [(4, .i), (5, .i)], 55, [.raw 1 1, .raw 4 1, .raw 4 1, .raw 1 1, .dead, .dead, .blk .i 0 true, .blk .i 0 true], [J, .fix (.ptr 0 0 0 0), .fix (.ptr 1 0 0 0), .fix (.ptr 2 0 0 0), .fix (.ptr 3 0 0 0), .fix (.fn 39 [] [(.ptr 3 0 0 0), (.ptr 0 0 0 0)]), .var .i, .var .i, .fix (.fn 39 [] [(.ptr 3 0 0 0), (.ptr 0 0 0 0)]), .fix (.fn 39 [] [(.ptr 3 0 0 0), (.ptr 0 0 0 0)]), J, J, .fix (.ptr 2 0 0 0), .fix (.fn 39 [] [(.ptr 3 0 0 0), (.ptr 0 0 0 0)]), J, .fix (.fn 39 [] [(.ptr 3 0 0 0), (.ptr 0 0 0 0)]), J, J, J, .fix (.ptr 2 0 0 1), .fix (.fn 39 [] [(.ptr 3 0 0 0), (.ptr 0 0 0 0)]), J, .fix (.fn 39 [] [(.ptr 3 0 0 0), (.ptr 0 0 0 0)]), J, J, J, J, J, J, J, J, J, J, J, J, J, J, J, J, J, J, J, J, J, J, J, J, J, J, J, J, J, J, J, J, .var (.list (.int .u16)), J, J, J, J, .var .i, .var .i, .fix (.bref 6 0), .fix (.bref 7 0), .var .i, .var (.list .i), .var (.list .i)], [], []⟩) <| cond (Nat.beq cx 1382) (some ⟨[.cell 2 0 2 .i, .cell 2 0 3 .i], [(4, .i), (5, .i)], 55, [.raw 1 1, .raw 4 1, .raw 4 1, .raw 1 1, .dead, .dead, .blk .i 0 true, .blk .i 0 true], [J, .fix (.ptr 0 0 0 0), .fix (.ptr 1 0 0 0), .fix (.ptr 2 0 0 0), .fix (.ptr 3 0 0 0), .fix (.fn 39 [] [(.ptr 3 0 0 0), (.ptr 0 0 0 0)]), .var .i, .var .i, .fix (.fn 39 [] [(.ptr 3 0 0 0), (.ptr 0 0 0 0)]), .fix (.fn 39 [] [(.ptr 3 0 0 0), (.ptr 0 0 0 0)]), J, J, .fix (.ptr 2 0 0 0), .fix (.fn 39 [] [(.ptr 3 0 0 0), (.ptr 0 0 0 0)]), J, .fix (.fn 39 [] [(.ptr 3 0 0 0), (.ptr 0 0 0 0)]), J, J, J, .fix (.ptr 2 0 0 1), .fix (.fn 39 [] [(.ptr 3 0 0 0), (.ptr 0 0 0 0)]), J, .fix (.fn 39 [] [(.ptr 3 0 0 0), (.ptr 0 0 0 0)]), J, J, J, J, J, J, J, J, J, J, J, J, J, J, J, J, J, J, J, J, J, J, J, J, J, J, J, J, J, J, J, J, .var (.list (.int .u16)), J, J, J, J, .var .i, .var .i, .fix (.bref 6 0), .fix (.bref 7 0), .var .i, .var (.list .i), .var (.list .i)], [], []⟩) <| cond (Nat.beq cx 1385) (some ⟨[.cell 2 0 2 .i, .cell 2 0 3 .i], [(4, .i), (5, .i)], 55, [.raw 1 1, .raw 4 1, .raw 4 1, .raw 1 1, .dead, .dead, .blk .i 0 true, .blk .i 0 true], [J, .fix (.ptr 0 0 0 0), .fix (.ptr 1 0 0 0), .fix (.ptr 2 0 0 0), .fix (.ptr 3 0 0 0), .fix (.fn 39 [] [(.ptr 3 0 0 0), (.ptr 0 0 0 0)]), .var .i, .var .i, .fix (.fn 39 [] [(.ptr 3 0 0 0), (.ptr 0 0 0 0)]), .fix (.fn 39 [] [(.ptr 3 0 0 0), (.ptr 0 0 0 0)]), J, J, .fix (.ptr 2 0 0 0), .fix (.fn 39 [] [(.ptr 3 0 0 0), (.ptr 0 0 0 0)]), J, .fix (.fn 39 [] [(.ptr 3 0 0 0), (.ptr 0 0 0 0)]), J, J, J, .fix (.ptr 2 0 0 1), .fix (.fn 39 [] [(.ptr 3 0 0 0), (.ptr 0 0 0 0)]), J, .fix (.fn 39 [] [(.ptr 3 0 0 0), (.ptr 0 0 0 0)]), J, J, J, J, J, J, J, J, J, J, J, J, J, J, J, J, J, J, J, J, J, J, J, J, J, J, J, J, J, J, J, J, .var (.list (.int .u16)), J, J, J, J, .var .i, .var .i, .fix (.bref 6 0), .fix (.bref 7 0), .var .i, .var (.list .i), .var (.list .i)], [], []⟩) <| cond (Nat.beq cx 1386) (some ⟨[.cell 2 0 2 .i, .cell 2 0 3 .i], [(4, .i), (5, .i)], 55, [.raw 1 1, .raw 4 1, .raw 4 1, .raw 1 1, .dead, .dead, .blk .i 0 true, .blk .i 0 true], [J, .fix (.ptr 0 0 0 0), .fix (.ptr 1 0 0 0), .fix (.ptr 2 0 0 0), .fix (.ptr 3 0 0 0), .fix (.fn 39 [] [(.ptr 3 0 0 0), (.ptr 0 0 0 0)]), .var .i, .var .i, .fix (.fn 39 [] [(.ptr 3 0 0 0), (.ptr 0 0 0 0)]), .fix (.fn 39 [] [(.ptr 3 0 0 0), (.ptr 0 0 0 0)]), J, J, .fix (.ptr 2 0 0 0), .fix (.fn 39 [] [(.ptr 3 0 0 0), (.ptr 0 0 0 0)]), J, .fix (.fn 39 [] [(.ptr 3 0 0 0), (.ptr 0 0 0 0)]), J, J, J, .fix (.ptr 2 0 0 1), .fix (.fn 39 [] [(.ptr 3 0 0 0), (.ptr 0 0 0 0)]), J, .fix (.fn 39 [] [(.ptr 3 0 0 0), (.ptr 0 0 0 0)]), J, J, J, J, J, J, J, J, J, J, J, J, J, J, J, J, J, J, J, J, J, J, J, J, J, J, J, J, J, J, J, J, .var (.list (.int .u16)), J, J, J, J, .var .i, .var .i, .fix (.bref 6 0), .fix (.bref 7 0), .var .i, .var (.list .i), .var (.list .i)], [], []⟩) <| cond (Nat.beq cx 1429) (some ⟨[.cell 2 0 2 .i, .cell 2 0 3 .i], [(4, .i), (5, .i)], 55, [.raw 1 1, .raw 4 1, .raw 4 1, .raw 1 1, .dead, .dead, .blk .i 0 true, .blk .i 0 true], [J, .fix (.ptr 0 0 0 0), .fix (.ptr 1 0 0 0), .fix (.ptr 2 0 0 0), .fix (.ptr 3 0 0 0), .fix (.fn 39 [] [(.ptr 3 0 0 0), (.ptr 0 0 0 0)]), .var .i, .var .i, .fix (.fn 39 [] [(.ptr 3 0 0 0), (.ptr 0 0 0 0)]), .fix (.fn 39 [] [(.ptr 3 0 0 0), (.ptr 0 0 0 0)]), J, J, .fix (.ptr 2 0 0 0), .fix (.fn 39 [] [(.ptr 3 0 0 0), (.ptr 0 0 0 0)]), J, .fix (.fn 39 [] [(.ptr 3 0 0 0), (.ptr 0 0 0 0)]), J, J, J, .fix (.ptr 2 0 0 1), .fix (.fn 39 [] [(.ptr 3 0 0 0), (.ptr 0 0 0 0)]), J, .fix (.fn 39 [] [(.ptr 3 0 0 0), (.ptr 0 0 0 0)]), J, J, J, J, J, J, J, J, J, J, J, J, J, J, J, J, J, J, J, J, J, J, J, J, J, J, J, J, J, J, J, J, .var (.list (.int .u16)), J, J, J, J, .var .i, .var .i, .fix (.bref 6 0), .fix (.bref 7 0), .var .i, .var (.list .i), .var (.list .i)], [], []⟩) <| cond (Nat.beq cx 1430) (some ⟨[.cell 2 0 2 .i, .cell 2 0 3 .i], [(4, .i), (5, .i)], 55, [.raw 1 1, .raw 4 1, .raw 4 1, .raw 1 1, .dead, .dead, .blk .i 0 true, .blk .i 0 true], [J, .fix (.ptr 0 0 0 0), .fix (.ptr 1 0 0 0), .fix (.ptr 2 0 0 0), .fix (.ptr 3 0 0 0), .fix (.fn 39 [] [(.ptr 3 0 0 0), (.ptr 0 0 0 0)]), .var .i, .var .i, .fix (.fn 39 [] [(.ptr 3 0 0 0), (.ptr 0 0 0 0)]), .fix (.fn 39 [] [(.ptr 3 0 0 0), (.ptr 0 0 0 0)]), J, J, .fix (.ptr 2 0 0 0), .fix (.fn 39 [] [(.ptr 3 0 0 0), (.ptr 0 0 0 0)]), J, .fix (.fn 39 [] [(.ptr 3 0 0 0), (.ptr 0 0 0 0)]), J, J, J, .fix (.ptr 2 0 0 1), .fix (.fn 39 [] [(.ptr 3 0 0 0), (.ptr 0 0 0 0)]), J, .fix (.fn 39 [] [(.ptr 3 0 0 0), (.ptr 0 0 0 0)]), J, J, J, J, J, J, J, J, J, J, J, J, J, J, J, J, J, J, J, J, J, J, J, J, J, J, J, J, J, J, J, J, .var (.list (.int .u16)), J, J, J, J, .var .i, .var .i, .fix (.bref 6 0), .fix (.bref 7 0), .var .i, .var (.list .i), .var (.list .i)], [], []⟩) <| cond (Nat.beq cx 1433) (some ⟨[.cell 2 0 2 .i, .cell 2 0 3 .i], [(4, .i), (5, .i)], 55, [.raw 1 1, .raw 4 1, .raw 4 1, .raw 1 1, .dead, .dead, .blk .i 0 true, .blk .i 0 true], [J, .fix (.ptr 0 0 0 0), .fix (.ptr 1 0 0 0), .fix (.ptr 2 0 0 0), .fix (.ptr 3 0 0 0), .fix (.fn 39 [] [(.ptr 3 0 0 0), (.ptr 0 0 0 0)]), .var .i, .var .i, .fix (.fn 39 [] [(.ptr 3 0 0 0), (.ptr 0 0 0 0)]), .fix (.fn 39 [] [(.ptr 3 0 0 0), (.ptr 0 0 0 0)]), J, J, .fix (.ptr 2 0 0 0), .fix (.fn 39 [] [(.ptr 3 0 0 0), (.ptr 0 0 0 0)]), J, .fix (.fn 39 [] [(.ptr 3 0 0 0), (.ptr 0 0 0 0)]), J, J, J, .fix (.ptr 2 0 0 1), .fix (.fn 39 [] [(.ptr 3 0 0 0), (.ptr 0 0 0 0)]), J, .fix (.fn 39 [] [(.ptr 3 0 0 0), (.ptr 0 0 0 0)]), J, J, J, J, J, J, J, J, J, J, J, J, J, J, J, J, J, J, J, J, J, J, J, J, J, J, J, J, J, J, J, J, .var (.list (.int .u16)), J, J, J, J, .var .i, .var .i, .fix (.bref 6 0), .fix (.bref 7 0), .var .i, .var (.list .i), .var (.list .i)], [], []⟩) <| cond (Nat.beq cx 1434) (some ⟨[.cell 2 0 2 .i, .cell 2 0 3 .i], [(4, .i), (5, .i)], 55, [.raw 1 1, .raw 4 1, .raw 4 1, .raw 1 1, .dead, .dead, .blk .i 0 true, .blk .i 0 true], [J, .fix (.ptr 0 0 0 0), .fix (.ptr 1 0 0 0), .fix (.ptr 2 0 0 0), .fix (.ptr 3 0 0 0), .fix (.fn 39 [] [(.ptr 3 0 0 0), (.ptr 0 0 0 0)]), .var .i, .var .i, .fix (.fn 39 [] [(.ptr 3 0 0 0), (.ptr 0 0 0 0)]), .fix (.fn 39 [] [(.ptr 3 0 0 0), (.ptr 0 0 0 0)]), J, J, .fix (.ptr 2 0 0 0), .fix (.fn 39 [] [(.ptr 3 0 0 0), (.ptr 0 0 0 0)]), J, .fix (.fn 39 [] [(.ptr 3 0 0 0), (.ptr 0 0 0 0)]), J, J, J, .fix (.ptr 2 0 0 1), .fix (.fn 39 [] [(.ptr 3 0 0 0), (.ptr 0 0 0 0)]), J, .fix (.fn 39 [] [(.ptr 3 0 0 0), (.ptr 0 0 0 0)]), J, J, J, J, J, J, J, J, J, J, J, J, J, J, J, J, J, J, J, J, J, J, J, J, J, J, J, J, J, J, J, J, .var (.list (.int .u16)), J, J, J, J, .var .i, .var .i, .fix (.bref 6 0), .fix (.bref 7 0), .var .i, .var (.list .i), .var (.list .i)], [], []⟩) <| cond (Nat.beq cx 1445) (some ⟨[.cell 2 0 2 .i, .cell 2 0 3 .i], [(4, .i), (5, .i)], 55, [.raw 1 1, .raw 4 1, .raw 4 1, .raw 1 1, .dead, .dead, .blk .i 0 true, .blk .i 0 true], [J, .fix (.ptr 0 0 0 0), .fix (.ptr 1 0 0 0), .fix (.ptr 2 0 0 0), .fix (.ptr 3 0 0 0), .fix (.fn 39 [] [(.ptr 3 0 0 0), (.ptr 0 0 0 0)]), .var .i, .var .i, .fix (.fn 39 [] [(.ptr 3 0 0 0), (.ptr 0 0 0 0)]), .fix (.fn 39 [] [(.ptr 3 0 0 0), (.ptr 0 0 0 0)]), J, J, .fix (.ptr 2 0 0 0), .fix (.fn 39 [] [(.ptr 3 0 0 0), (.ptr 0 0 0 0)]), J, .fix (.fn 39 [] [(.ptr 3 0 0 0), (.ptr 0 0 0 0)]), J, J, J, .fix (.ptr 2 0 0 1), .fix (.fn 39 [] [(.ptr 3 0 0 0), (.ptr 0 0 0 0)]), J, .fix (.fn 39 [] [(.ptr 3 0 0 0), (.ptr 0 0 0 0)]), J, J, J, J, J, J, J, J, J, J, J, J, J, J, J, J, J, J, J, J, J, J, J, J, J, J, J, J, J, J, J, J, .var (.list (.int .u16)), J, J, J, J, .var .i, .var .i, .fix (.bref 6 0), .fix (.bref 7 0), .var .i, .var (.list .i), .var (.list .i)], [], []⟩) <| cond (Nat.beq cx 1446) (some ⟨[.cell 2 0 2 .i, .cell 2 0 3 .i], [(4, .i), (5, .i)], 55, [.raw 1 1, .raw 4 1, .raw 4 1, .raw 1 1, .dead, .dead, .blk .i 0 true, .blk .i 0 true], [J, .fix (.ptr 0 0 0 0), .fix (.ptr 1 0 0 0), .fix (.ptr 2 0 0 0), .fix (.ptr 3 0 0 0), .fix (.fn 39 [] [(.ptr 3 0 0 0), (.ptr 0 0 0 0)]), .var .i, .var .i, .fix (.fn 39 [] [(.ptr 3 0 0 0), (.ptr 0 0 0 0)]), .fix (.fn 39 [] [(.ptr 3 0 0 0), (.ptr 0 0 0 0)]), J, J, .fix (.ptr 2 0 0 0), .fix (.fn 39 [] [(.ptr 3 0 0 0), (.ptr 0 0 0 0)]), J, .fix (.fn 39 [] [(.ptr 3 0 0 0), (.ptr 0 0 0 0)]), J, J, J, .fix (.ptr 2 0 0 1), .fix (.fn 39 [] [(.ptr 3 0 0 0), (.ptr 0 0 0 0)]), J, .fix (.fn 39 [] [(.ptr 3 0 0 0), (.ptr 0 0 0 0)]), J, J, J, J, J, J, J, J, J, J, J, J, J, J, J, J, J, J, J, J, J, J, J, J, J, J, J, J, J, J, J, J, .var (.list (.int .u16)), J, J, J, J, .var .i, .var .i, .fix (.bref 6 0), .fix (.bref 7 0), .var .i, .var (.list .i), .var (.list .i)], [], []⟩) <| cond (Nat.beq cx 1449) (some ⟨[.cell 2 0 2 .i, .cell 2 0 3 .i], [(4, .i), (5, .i)], 55, [.raw 1 1, .raw 4 1, .raw 4 1, .raw 1 1, .dead, .dead, .blk .i 0 true, .blk .i 0 true], [J, .fix (.ptr 0 0 0 0), .fix (.ptr 1 0 0 0), .fix (.ptr 2 0 0 0), .fix (.ptr 3 0 0 0), .fix (.fn 39 [] [(.ptr 3 0 0 0), (.ptr 0 0 0 0)]), .var .i, .var .i, .fix (.fn 39 [] [(.ptr 3 0 0 0), (.ptr 0 0 0 0)]), .fix (.fn 39 [] [(.ptr 3 0 0 0), (.ptr 0 0 0 0)]), J, J, .fix (.ptr 2 0 0 0), .fix (.fn 39 [] [(.ptr 3 0 0 0), (.ptr 0 0 0 0)]), J, .fix (.fn 39 [] [(.ptr 3 0 0 0), (.ptr 0 0 0 0)]), J, J, J, .fix (.ptr 2 0 0 1), .fix (.fn 39 [] [(.ptr 3 0 0 0), (.ptr 0 0 0 0)]), J, .fix (.fn 39 [] [(.ptr 3 0 0 0), (.ptr 0 0 0 0)]), J, J, J, J, J, J, J, J, J, J, J, J, J, J, J, J, J, J, J, J, J, J, J, J, J, J, J, J, J, J, J, J, .var (.list (.int .u16)), J, J, J, J, .var .i, .var .i, .fix (.bref 6 0), .fix (.bref 7 0), .var .i, .var (.list .i), .var (.list .i)], [], []⟩) <| cond (Nat.beq cx 1450) (some ⟨[.cell 2 0 2 .i, .cell 2 0 3 .i], [(4, .i), (5, .i)], 55, [.raw 1 1, .raw 4 1, .raw 4 1, .raw 1 1, .dead, .dead, .blk .i 0 true, .blk .i 0 true], [J, .fix (.ptr 0 0 0 0), .fix (.ptr 1 0 0 0), .fix (.ptr 2 0 0 0), .fix (.ptr 3 0 0 0), .fix (.fn 39 [] [(.ptr 3 0 0 0), (.ptr 0 0 0 0)]), .var .i, .var .i, .fix (.fn 39 [] [(.ptr 3 0 0 0), (.ptr 0 0 0 0)]), .fix (.fn 39 [] [(.ptr 3 0 0 0), (.ptr 0 0 0 0)]), J, J, .fix (.ptr 2 0 0 0), .fix (.fn 39 [] [(.ptr 3 0 0 0), (.ptr 0 0 0 0)]), J, .fix (.fn 39 [] [(.ptr 3 0 0 0), (.ptr 0 0 0 0)]), J, J, J, .fix (.ptr 2 0 0 1), .fix (.fn 39 [] [(.ptr 3 0 0 0), (.ptr 0 0 0 0)]), J, .fix (.fn 39 [] [(.ptr 3 0 0 0), (.ptr 0 0 0 0)]), J, J, J, J, J, J, J, J, J, J, J, J, J, J, J, J, J, J, J, J, J, J, J, J, J, J, J, J, J, J, J, J, .var (.list (.int .u16)), J, J, J, J, .var .i, .var .i, .fix (.bref 6 0), .fix (.bref 7 0), .var .i, .var (.list .i), .var (.list .i)], [], []⟩) <| cond (Nat.beq cx 1621) (some ⟨[.cell 2 0 2 .i, .cell 2 0 3 .i], [(4, .i), (5, .i)], 55, [.raw 1 1, .raw 4 1, .raw 4 1, .raw 1 1, .dead, .dead, .blk .i 0 true, .blk .i 0 true], [J, .fix (.ptr 0 0 0 0), .fix (.ptr 1 0 0 0), .fix (.ptr 2 0 0 0), .fix (.ptr 3 0 0 0), .fix (.fn 39 [] [(.ptr 3 0 0 0), (.ptr 0 0 0 0)]), .var .i, .var .i, .fix (.fn 39 [] [(.ptr 3 0 0 0), (.ptr 0 0 0 0)]), .fix (.fn 39 [] [(.ptr 3 0 0 0), (.ptr 0 0 0 0)]), J, J, .fix (.ptr 2 0 0 0), .fix (.fn 39 [] [(.ptr 3 0 0 0), (.ptr 0 0 0 0)]), J, .fix (.fn 39 [] [(.ptr 3 0 0 0), (.ptr 0 0 0 0)]), J, J, J, .fix (.ptr 2 0 0 1), .fix (.fn 39 [] [(.ptr 3 0 0 0), (.ptr 0 0 0 0)]), J, .fix (.fn 39 [] [(.ptr 3 0 0 0), (.ptr 0 0 0 0)]), J, J, J, J, J, J, J, J, J, J, J, J, J, J, J, J, J, J, J, J, J, J, J, J, J, J, J, J, J, J, J, J, .var (.list (.int .u16)), J, J, J, J, .var .i, .var .i, .fix (.bref 6 0), .fix (.bref 7 0), .var .i, .var (.list .i), .var (.list .i)], [], []⟩) <| cond (Nat.beq cx 1622) (some ⟨[.cell 2 0 2 .i, .cell 2 0 3 .i], [(4, .i), (5, .i)], 55, [.raw 1 1, .raw 4 1, .raw 4 1, .raw 1 1, .dead, .dead, .blk .i 0 true, .blk .i 0 true], [J, .fix (.ptr 0 0 0 0), .fix (.ptr 1 0 0 0), .fix (.ptr 2 0 0 0), .fix (.ptr 3 0 0 0), .fix (.fn 39 [] [(.ptr 3 0 0 0), (.ptr 0 0 0 0)]), .var .i, .var .i, .fix (.fn 39 [] [(.ptr 3 0 0 0), (.ptr 0 0 0 0)]), .fix (.fn 39 [] [(.ptr 3 0 0 0), (.ptr 0 0 0 0)]), J, J, .fix (.ptr 2 0 0 0), .fix (.fn 39 [] [(.ptr 3 0 0 0), (.ptr 0 0 0 0)]), J, .fix (.fn 39 [] [(.ptr 3 0 0 0), (.ptr 0 0 0 0)]), J, J, J, .fix (.ptr 2 0 0 1), .fix (.fn 39 [] [(.ptr 3 0 0 0), (.ptr 0 0 0 0)]), J, .fix (.fn 39 [] [(.ptr 3 0 0 0), (.ptr 0 0 0 0)]), J, J, J, J, J, J, J, J, J, J, J, J, J, J, J, J, J, J, J, J, J, J, J, J, J, J, J, J, J, J, J, J, .var (.list (.int .u16)), J, J, J, J, .var .i, .var .i, .fix (.bref 6 0), .fix (.bref 7 0), .var .i, .var (.list .i), .var (.list .i)], [], []⟩) <| cond (Nat.beq cx 1625) (some ⟨[.cell 2 0 2 .i, .cell 2 0 3 .i], [(4, .i), (5, .i)], 55, [.raw 1 1, .raw 4 1, .raw 4 1, .raw 1 1, .dead, .dead, .blk .i 0 true, .blk .i 0 true], [J, .fix (.ptr 0 0 0 0), .fix (.ptr 1 0 0 0), .fix (.ptr 2 0 0 0), .fix (.ptr 3 0 0 0), .fix (.fn 39 [] [(.ptr 3 0 0 0), (.ptr 0 0 0 0)]), .var .i, .var .i, .fix (.fn 39 [] [(.ptr 3 0 0 0), (.ptr 0 0 0 0)]), .fix (.fn 39 [] [(.ptr 3 0 0 0), (.ptr 0 0 0 0)]), J, J, .fix (.ptr 2 0 0 0), .fix (.fn 39 [] [(.ptr 3 0 0 0), (.ptr 0 0 0 0)]), J, .fix (.fn 39 [] [(.ptr 3 0 0 0), (.ptr 0 0 0 0)]), J, J, J, .fix (.ptr 2 0 0 1), .fix (.fn 39 [] [(.ptr 3 0 0 0), (.ptr 0 0 0 0)]), J, .fix (.fn 39 [] [(.ptr 3 0 0 0), (.ptr 0 0 0 0)]), J, J, J, J, J, J, J, J, J, J, J, J, J, J, J, J, J, J, J, J, J, J, J, J, J, J, J, J, J, J, J, J, .var (.list (.int .u16)), J, J, J, J, .var .i, .var .i, .fix (.bref 6 0), .fix (.bref 7 0), .var .i, .var (.list .i), .var (.list .i)], [], []⟩) <| cond (Nat.beq cx 1626) (some ⟨[.cell 2 0 2 .i, .cell 2 0 3 .i], [(4, .i), (5, .i)], 55, [.raw 1 1, .raw 4 1, .raw 4 1, .raw 1 1, .dead, .dead, .blk .i 0 true, .blk .i 0 true], [J, .fix (.ptr 0 0 0 0), .fix (.ptr 1 0 0 0), .fix (.ptr 2 0 0 0), .fix (.ptr 3 0 0 0), .fix (.fn 39 [] [(.ptr 3 0 0 0), (.ptr 0 0 0 0)]), .var .i, .var .i, .fix (.fn 39 [] [(.ptr 3 0 0 0), (.ptr 0 0 0 0)]), .fix (.fn 39 [] [(.ptr 3 0 0 0), (.ptr 0 0 0 0)]), J, J, .fix (.ptr 2 0 0 0), .fix (.fn 39 [] [(.ptr 3 0 0 0), (.ptr 0 0 0 0)]), J, .fix (.fn 39 [] [(.ptr 3 0 0 0), (.ptr 0 0 0 0)]), J, J, J, .fix (.ptr 2 0 0 1), .fix (.fn 39 [] [(.ptr 3 0 0 0), (.ptr 0 0 0 0)]), J, .fix (.fn 39 [] [(.ptr 3 0 0 0), (.ptr 0 0 0 0)]), J, J, J, J, J, J, J, J, J, J, J, J, J, J, J, J, J, J, J, J, J, J, J, J, J, J, J, J, J, J, J, J, .var (.list (.int .u16)), J, J, J, J, .var .i, .var .i, .fix (.bref 6 0), .fix (.bref 7 0), .var .i, .var (.list .i), .var (.list .i)], [], []⟩) <| cond (Nat.beq cx 1637) (some ⟨[.cell 2 0 2 .i, .cell 2 0 3 .i], [(4, .i), (5, .i)], 55, [.raw 1 1, .raw 4 1, .raw 4 1, .raw 1 1, .dead, .dead, .blk .i 0 true, .blk .i 0 true], [J, .fix (.ptr 0 0 0 0), .fix (.ptr 1 0 0 0), .fix (.ptr 2 0 0 0), .fix (.ptr 3 0 0 0), .fix (.fn 39 [] [(.ptr 3 0 0 0), (.ptr 0 0 0 0)]), .var .i, .var .i, .fix (.fn 39 [] [(.ptr 3 0 0 0), (.ptr 0 0 0 0)]), .fix (.fn 39 [] [(.ptr 3 0 0 0), (.ptr 0 0 0 0)]), J, J, .fix (.ptr 2 0 0 0), .fix (.fn 39 [] [(.ptr 3 0 0 0), (.ptr 0 0 0 0)]), J, .fix (.fn 39 [] [(.ptr 3 0 0 0), (.ptr 0 0 0 0)]), J, J, J, .fix (.ptr 2 0 0 1), .fix (.fn 39 [] [(.ptr 3 0 0 0), (.ptr 0 0 0 0)]), J, .fix (.fn 39 [] [(.ptr 3 0 0 0), (.ptr 0 0 0 0)]), J, J, J, J, J, J, J, J, J, J, J, J, J, J, J, J, J, J, J, J, J, J, J, J, J, J, J, J, J, J, J, J, .var (.list (.int .u16)), J, J, J, J, .var .i, .var .i, .fix (.bref 6 0), .fix (.bref 7 0), .var .i, .var (.list .i), .var (.list .i)], [], []⟩) <| cond (Nat.beq cx 1638) (some ⟨[.cell 2 0 2 .i, .cell 2 0 3 .i], [(4, .i), (5, .i)], 55, [.raw 1 1, .raw 4 1, .raw 4 1, .raw 1 1, .dead, .dead, .blk .i 0 true, .blk .i 0 true], [J, .fix (.ptr 0 0 0 0), .fix (.ptr 1 0 0 0), .fix (.ptr 2 0 0 0), .fix (.ptr 3 0 0 0), .fix (.fn 39 [] [(.ptr 3 0 0 0), (.ptr 0 0 0 0)]), .var .i, .var .i, .fix (.fn 39 [] [(.ptr 3 0 0 0), (.ptr 0 0 0 0)]), .fix (.fn 39 [] [(.ptr 3 0 0 0), (.ptr 0 0 0 0)]), J, J, .fix (.ptr 2 0 0 0), .fix (.fn 39 [] [(.ptr 3 0 0 0), (.ptr 0 0 0 0)]), J, .fix (.fn 39 [] [(.ptr 3 0 0 0), (.ptr 0 0 0 0)]), J, J, J, .fix (.ptr 2 0 0 1), .fix (.fn 39 [] [(.ptr 3 0 0 0), (.ptr 0 0 0 0)]), J, .fix (.fn 39 [] [(.ptr 3 0 0 0), (.ptr 0 0 0 0)]), J, J, J, J, J, J, J, J, J, J, J, J, J, J, J, J, J, J, J, J, J, J, J, J, J, J, J, J, J, J, J, J, .var (.list (.int .u16)), J, J, J, J, .var .i, .var .i, .fix (.bref 6 0), .fix (.bref 7 0), .var .i, .var (.list .i), .var (.list .i)], [], []⟩) <| cond (Nat.beq cx 1641) (some ⟨[.cell 2 0 2 .i, .cell 2 0 3 .i], [(4, .i), (5, .i)], 55, [.raw 1 1, .raw 4 1, .raw 4 1, .raw 1 1, .dead, .dead, .blk .i 0 true, .blk .i 0 true], [J, .fix (.ptr 0 0 0 0), .fix (.ptr 1 0 0 0), .fix (.ptr 2 0 0 0), .fix (.ptr 3 0 0 0), .fix (.fn 39 [] [(.ptr 3 0 0 0), (.ptr 0 0 0 0)]), .var .i, .var .i, .fix (.fn 39 [] [(.ptr 3 0 0 0), (.ptr 0 0 0 0)]), .fix (.fn 39 [] [(.ptr 3 0 0 0), (.ptr 0 0 0 0)]), J, J, .fix (.ptr 2 0 0 0), .fix (.fn 39 [] [(.ptr 3 0 0 0), (.ptr 0 0 0 0)]), J, .fix (.fn 39 [] [(.ptr 3 0 0 0), (.ptr 0 0 0 0)]), J, J, J, .fix (.ptr 2 0 0 1), .fix (.fn 39 [] [(.ptr 3 0 0 0), (.ptr 0 0 0 0)]), J, .fix (.fn 39 [] [(.ptr 3 0 0 0), (.ptr 0 0 0 0)]), J, J, J, J, J, J, J, J, J, J, J, J, J, J, J, J, J, J, J, J, J, J, J, J, J, J, J, J, J, J, J, J, .var (.list (.int .u16)), J, J, J, J, .var .i, .var .i, .fix (.bref 6 0), .fix (.bref 7 0), .var .i, .var (.list .i), .var (.list .i)], [], []⟩) <| cond (Nat.beq cx 1642) (some ⟨[.cell 2 0 2 .i, .cell 2 0 3 .i], [(4, .i), (5, .i)], 55, [.raw 1 1, .raw 4 1, .raw 4 1, .raw 1 1, .dead, .dead, .blk .i 0 true, .blk .i 0 true], [J, .fix (.ptr 0 0 0 0), .fix (.ptr 1 0 0 0), .fix (.ptr 2 0 0 0), .fix (.ptr 3 0 0 0), .fix (.fn 39 [] [(.ptr 3 0 0 0), (.ptr 0 0 0 0)]), .var .i, .var .i, .fix (.fn 39 [] [(.ptr 3 0 0 0), (.ptr 0 0 0 0)]), .fix (.fn 39 [] [(.ptr 3 0 0 0), (.ptr 0 0 0 0)]), J, J, .fix (.ptr 2 0 0 0), .fix (.fn 39 [] [(.ptr 3 0 0 0), (.ptr 0 0 0 0)]), J, .fix (.fn 39 [] [(.ptr 3 0 0 0), (.ptr 0 0 0 0)]), J, J, J, .fix (.ptr 2 0 0 1), .fix (.fn 39 [] [(.ptr 3 0 0 0), (.ptr 0 0 0 0)]), J, .fix (.fn 39 [] [(.ptr 3 0 0 0), (.ptr 0 0 0 0)]), J, J, J, J, J, J, J, J, J, J, J, J, J, J, J, J, J, J, J, J, J, J, J, J, J, J, J, J, J, J, J, J, .var (.list (.int .u16)), J, J, J, J, .var .i, .var .i, .fix (.bref 6 0), .fix (.bref 7 0), .var .i, .var (.list .i), .var (.list .i)], [], []⟩) <| cond (Nat.beq cx 1685) (some ⟨[.cell 2 0 2 .i, .cell 2 0 3 .i], [(4, .i), (5, .i)], 55, [.raw 1 1, .raw 4 1, .raw 4 1, .raw 1 1, .dead, .dead, .blk .i 0 true, .blk .i 0 true], [J, .fix (.ptr 0 0 0 0), .fix (.ptr 1 0 0 0), .fix (.ptr 2 0 0 0), .fix (.ptr 3 0 0 0), .fix (.fn 39 [] [(.ptr 3 0 0 0), (.ptr 0 0 0 0)]), .var .i, .var .i, .fix (.fn 39 [] [(.ptr 3 0 0 0), (.ptr 0 0 0 0)]), .fix (.fn 39 [] [(.ptr 3 0 0 0), (.ptr 0 0 0 0)]), J, J, .fix (.ptr 2 0 0 0), .fix (.fn 39 [] [(.ptr 3 0 0 0), (.ptr 0 0 0 0)]), J, .fix (.fn 39 [] [(.ptr 3 0 0 0), (.ptr 0 0 0 0)]), J, J, J, .fix (.ptr 2 0 0 1), .fix (.fn 39 [] [(.ptr 3 0 0 0), (.ptr 0 0 0 0)]), J, .fix (.fn 39 [] [(.ptr 3 0 0 0), (.ptr 0 0 0 0)]), J, J, J, J, J, J, J, J, J, J, J, J, J, J, J, J, J, J, J, J, J, J, J, J, J, J, J, J, J, J, J, J, .var (.list (.int .u16)), J, J, J, J, .var .i, .var .i, .fix (.bref 6 0), .fix (.bref 7 0), .var .i, .var (.list .i), .var (.list .i)], [], []⟩) <| cond (Nat.beq cx 1686) (some ⟨[.cell 2 0 2 .i, .cell 2 0 3 .i], [(4, .i), (5, .i)], 55, [.raw 1 1, .raw 4 1, .raw 4 1, .raw 1 1, .dead, .dead, .blk .i 0 true, .blk .i 0 true], [J, .fix (.ptr 0 0 0 0), .fix (.ptr 1 0 0 0), .fix (.ptr 2 0 0 0), .fix (.ptr 3 0 0 0), .fix (.fn 39 [] [(.ptr 3 0 0 0), (.ptr 0 0 0 0)]), .var .i, .var .i, .fix (.fn 39 [] [(.ptr 3 0 0 0), (.ptr 0 0 0 0)]), .fix (.fn 39 [] [(.ptr 3 0 0 0), (.ptr 0 0 0 0)]), J, J, .fix (.ptr 2 0 0 0), .fix (.fn 39 [] [(.ptr 3 0 0 0), (.ptr 0 0 0 0)]), J, .fix (.fn 39 [] [(.ptr 3 0 0 0), (.ptr 0 0 0 0)]), J, J, J, .fix (.ptr 2 0 0 1), .fix (.fn 39 [] [(.ptr 3 0 0 0), (.ptr 0 0 0 0)]), J, .fix (.fn 39 [] [(.ptr 3 0 0 0), (.ptr 0 0 0 0)]), J, J, J, J, J, J, J, J, J, J, J, J, J, J, J, J, J, J, J, J, J, J, J, J, J, J, J, J, J, J, J, J, .var (.list (.int .u16)), J, J, J, J, .var .i, .var .i, .fix (.bref 6 0), .fix (.bref 7 0), .var .i, .var (.list .i), .var (.list .i)], [], []⟩) <| cond (Nat.beq cx 1689) (some ⟨[.cell 2 0 2 .i, .cell 2 0 3 .i], [(4, .i), (5, .i)], 55, [.raw 1 1, .raw 4 1, .raw 4 1, .raw 1 1, .dead, .dead, .blk .i 0 true, .blk .i 0 true], [J, .fix (.ptr 0 0 0 0), .fix (.ptr 1 0 0 0), .fix (.ptr 2 0 0 0), .fix (.ptr 3 0 0 0), .fix (.fn 39 [] [(.ptr 3 0 0 0), (.ptr 0 0 0 0)]), .var .i, .var .i, .fix (.fn 39 [] [(.ptr 3 0 0 0), (.ptr 0 0 0 0)]), .fix (.fn 39 [] [(.ptr 3 0 0 0), (.ptr 0 0 0 0)]), J, J, .fix (.ptr 2 0 0 0), .fix (.fn 39 [] [(.ptr 3 0 0 0), (.ptr 0 0 0 0)]), J, .fix (.fn 39 [] [(.ptr 3 0 0 0), (.ptr 0 0 0 0)]), J, J, J, .fix (.ptr 2 0 0 1), .fix (.fn 39 [] [(.ptr 3 0 0 0), (.ptr 0 0 0 0)]), J, .fix (.fn 39 [] [(.ptr 3 0 0 0), (.ptr 0 0 0 0)]), J, J, J, J, J, J, J, J, J, J, J, J, J, J, J, J, J, J, J, J, J, J, J, J, J, J, J, J, J, J, J, J, .var (.list (.int .u16)), J, J, J, J, .var .i, .var .i, .fix (.bref 6 0), .fix (.bref 7 0), .var .i, .var (.list .i), .var (.list .i)], [], []⟩) <| cond (Nat.beq cx 1690) (some ⟨[.cell 2 0 2 .i, .cell 2 0 3 .i], [(4, .i), (5, .i)], 55, [.raw 1 1, .raw 4 1, .raw 4 1, .raw 1 1, .dead, .dead, .blk .i 0 true, .blk .i 0 true], [J, .fix (.ptr 0 0 0 0), .fix (.ptr 1 0 0 0), .fix (.ptr 2 0 0 0), .fix (.ptr 3 0 0 0), .fix (.fn 39 [] [(.ptr 3 0 0 0), (.ptr 0 0 0 0)]), .var .i, .var .i, .fix (.fn 39 [] [(.ptr 3 0 0 0), (.ptr 0 0 0 0)]), .fix (.fn 39 [] [(.ptr 3 0 0 0), (.ptr 0 0 0 0)]), J, J, .fix (.ptr 2 0 0 0), .fix (.fn 39 [] [(.ptr 3 0 0 0), (.ptr 0 0 0 0)]), J, .fix (.fn 39 [] [(.ptr 3 0 0 0), (.ptr 0 0 0 0)]), J, J, J, .fix (.ptr 2 0 0 1), .fix (.fn 39 [] [(.ptr 3 0 0 0), (.ptr 0 0 0 0)]), J, .fix (.fn 39 [] [(.ptr 3 0 0 0), (.ptr 0 0 0 0)]), J, J, J, J, J, J, J, J, J, J, J, J, J, J, J, J, J, J, J, J, J, J, J, J, J, J, J, J, J, J, J, J, .var (.list (.int .u16)), J, J, J, J, .var .i, .var .i, .fix (.bref 6 0), .fix (.bref 7 0), .var .i, .var (.list .i), .var (.list .i)], [], []⟩) <| cond (Nat.beq cx 1701) (some ⟨[.cell 2 0 2 .i, .cell 2 0 3 .i], [(4, .i), (5, .i)], 55, [.raw 1 1, .raw 4 1, .raw 4 1, .raw 1 1, .dead, .dead, .blk .i 0 true, .blk .i 0 true], [J, .fix (.ptr 0 0 0 0), .fix (.ptr 1 0 0 0), .fix (.ptr 2 0 0 0), .fix (.ptr 3 0 0 0), .fix (.fn 39 [] [(.ptr 3 0 0 0), (.ptr 0 0 0 0)]), .var .i, .var .i, .fix (.fn 39 [] [(.ptr 3 0 0 0), (.ptr 0 0 0 0)]), .fix (.fn 39 [] [(.ptr 3 0 0 0), (.ptr 0 0 0 0)]), J, J, .fix (.ptr 2 0 0 0), .fix (.fn 39 [] [(.ptr 3 0 0 0), (.ptr 0 0 0 0)]), J, .fix (.fn 39 [] [(.ptr 3 0 0 0), (.ptr 0 0 0 0)]), J, J, J, .fix (.ptr 2 0 0 1), .fix (.fn 39 [] [(.ptr 3 0 0 0), (.ptr 0 0 0 0)]), J, .fix (.fn 39 [] [(.ptr 3 0 0 0), (.ptr 0 0 0 0)]), J, J, J, J, J, J, J, J, J, J, J, J, J, J, J, J, J, J, J, J, J, J, J, J, J, J, J, J, J, J, J, J, .var (.list (.int .u16)), J, J, J, J, .var .i, .var .i, .fix (.bref 6 0), .fix (.bref 7 0), .var .i, .var (.list .i), .var (.list .i)], [], []⟩) <| cond (Nat.beq cx 1702) (some ⟨[.cell 2 0 2 .i, .cell 2 0 3 .i], [(4, .i), (5, .i)], 55, [.raw 1 1, .raw 4 1, .raw 4 1, .raw 1 1, .dead, .dead, .blk .i 0 true, .blk .i 0 true], [J, .fix (.ptr 0 0 0 0), .fix (.ptr 1 0 0 0), .fix (.ptr 2 0 0 0), .fix (.ptr 3 0 0 0), .fix (.fn 39 [] [(.ptr 3 0 0 0), (.ptr 0 0 0 0)]), .var .i, .var .i, .fix (.fn 39 [] [(.ptr 3 0 0 0), (.ptr 0 0 0 0)]), .fix (.fn 39 [] [(.ptr 3 0 0 0), (.ptr 0 0 0 0)]), J, J, .fix (.ptr 2 0 0 0), .fix (.fn 39 [] [(.ptr 3 0 0 0), (.ptr 0 0 0 0)]), J, .fix (.fn 39 [] [(.ptr 3 0 0 0), (.ptr 0 0 0 0)]), J, J, J, .fix (.ptr 2 0 0 1), .fix (.fn 39 [] [(.ptr 3 0 0 0), (.ptr 0 0 0 0)]), J, .fix (.fn 39 [] [(.ptr 3 0 0 0), (.ptr 0 0 0 0)]), J, J, J, J, J, J, J, J, J, J, J, J, J, J, J, J, J, J, J, J, J, J, J, J, J, J, J, J, J, J, J, J, .var (.list (.int .u16)), J, J, J, J, .var .i, .var .i, .fix (.bref 6 0), .fix (.bref 7 0), .var .i, .var (.list .i), .var (.list .i)], [], []⟩) <| cond (Nat.beq cx 1705) (some ⟨[.cell 2 0 2 .i, .cell 2 0 3 .i], [(4, .i), (5, .i)], 55, [.raw 1 1, .raw 4 1, .raw 4 1, .raw 1 1, .dead, .dead, .blk .i 0 true, .blk .i 0 true], [J, .fix (.ptr 0 0 0 0), .fix (.ptr 1 0 0 0), .fix (.ptr 2 0 0 0), .fix (.ptr 3 0 0 0), .fix (.fn 39 [] [(.ptr 3 0 0 0), (.ptr 0 0 0 0)]), .var .i, .var .i, .fix (.fn 39 [] [(.ptr 3 0 0 0), (.ptr 0 0 0 0)]), .fix (.fn 39 [] [(.ptr 3 0 0 0), (.ptr 0 0 0 0)]), J, J, .fix (.ptr 2 0 0 0), .fix (.fn 39 [] [(.ptr 3 0 0 0), (.ptr 0 0 0 0)]), J, .fix (.fn 39 [] [(.ptr 3 0 0 0), (.ptr 0 0 0 0)]), J, J, J, .fix (.ptr 2 0 0 1), .fix (.fn 39 [] [(.ptr 3 0 0 0), (.ptr 0 0 0 0)]), J, .fix (.fn 39 [] [(.ptr 3 0 0 0), (.ptr 0 0 0 0)]), J, J, J, J, J, J, J, J, J, J, J, J, J, J, J, J, J, J, J, J, J, J, J, J, J, J, J, J, J, J, J, J, .var (.list (.int .u16)), J, J, J, J, .var .i, .var .i, .fix (.bref 6 0), .fix (.bref 7 0), .var .i, .var (.list .i), .var (.list .i)], [], []⟩) <| cond (Nat.beq cx 1706) (some ⟨[.cell 2 0 2 .i, .cell 2 0 3 .i], [(4, .i), (5, .i)], 55, [.raw 1 1, .raw 4 1, .raw 4 1, .raw 1 1, .dead, .dead, .blk .i 0 true, .blk .i 0 true], [J, .fix (.ptr 0 0 0 0), .fix (.ptr 1 0 0 0), .fix (.ptr 2 0 0 0), .fix (.ptr 3 0 0 0), .fix (.fn 39 [] [(.ptr 3 0 0 0), (.ptr 0 0 0 0)]), .var .i, .var .i, .fix (.fn 39 [] [(.ptr 3 0 0 0), (.ptr 0 0 0 0)]), .fix (.fn 39 [] [(.ptr 3 0 0 0), (.ptr 0 0 0 0)]), J, J, .fix (.ptr 2 0 0 0), .fix (.fn 39 [] [(.ptr 3 0 0 0), (.ptr 0 0 0 0)]), J, .fix (.fn 39 [] [(.ptr 3 0 0 0), (.ptr 0 0 0 0)]), J, J, J, .fix (.ptr 2 0 0 1), .fix (.fn 39 [] [(.ptr 3 0 0 0), (.ptr 0 0 0 0)]), J, .fix (.fn 39 [] [(.ptr 3 0 0 0), (.ptr 0 0 0 0)]), J, J, J, J, J, J, J, J, J, J, J, J, J, J, J, J, J, J, J, J, J, J, J, J, J, J, J, J, J, J, J, J, .var (.list (.int .u16)), J, J, J, J, .var .i, .var .i, .fix (.bref 6 0), .fix (.bref 7 0), .var .i, .var (.list .i), .var (.list .i)], [], []⟩) <| none
noncomputable def gh_law03_Made : Nat → Nat → Option (Nat × Nat) := fun _ _ => none
theorem t_law03_Made (N : Nat) (a0 : (List Int)) : symF (seat.mk' (spOf L_law07_awake) tm_law03_Made gh_law03_Made) N 400 25 [(.list (.int .u16))] [.record] a0 = G_law03_Made N a0 := by kernel_rfl
noncomputable def L_law03_Made : List (FuncId × Spec) := (25, ⟨[(.list (.int .u16))], [.record], S_law03_Made⟩) :: L_law07_awake
theorem ok_law03_Made : OrcOk Try.prog (orcOf L_law03_Made) := specs_cons sseat good primOk ok_law07_awake (by kernel_rfl) ⟨_, Try.func25, by rfl⟩ (tm := tm_law03_Made) (gh := gh_law03_Made) fun x y h => by obtain ⟨N, h⟩ := lim_spec h; exact ⟨N, 400, (t_law03_Made N x).trans h⟩
noncomputable def tm_law07_founds : Nat → Option Tmpl := fun cx => cond (Nat.beq cx 1) (some ⟨[.tmp 3 .found], [(0, .found)], 38, [.dead, .blk .found 0 true], [.var (.list (.list (.int .u16))), J, J, .fix (.bref 1 0), .var .i, J, J, J, J, J, J, J, J, J, J, J, J, J, J, J, J, J, J, J, J, J, J, J, J, J, J, J, J, J, J, J, J, J, .var (.list .found)], [], []⟩) <| none
noncomputable def gh_law07_founds : Nat → Nat → Option (Nat × Nat) := fun _ _ => none
theorem t_law07_founds (N : Nat) (a0 : (List (List Int))) : symF (seat.mk' (spOf L_law03_Made) tm_law07_founds gh_law07_founds) N 400 15 [(.list (.list (.int .u16)))] [(.list .found)] a0 = G_law07_founds N a0 := by kernel_rfl
noncomputable def L_law07_founds : List (FuncId × Spec) := (15, ⟨[(.list (.list (.int .u16)))], [(.list .found)], S_law07_founds⟩) :: L_law03_Made
theorem ok_law07_founds : OrcOk Try.prog (orcOf L_law07_founds) := specs_cons sseat good primOk ok_law03_Made (by kernel_rfl) ⟨_, Try.func15, by rfl⟩ (tm := tm_law07_founds) (gh := gh_law07_founds) fun x y h => by obtain ⟨N, h⟩ := lim_spec h; exact ⟨N, 400, (t_law07_founds N x).trans h⟩
noncomputable def tm_law07_ReplayLast : Nat → Option Tmpl := fun cx => cond (Nat.beq cx 6) (some ⟨[], [], 115, [.st .table], [J, J, J, J, J, .var .bool, .var .i, .fix (.ptr 0 0 0 0), .var (.list .found), .var .i, J, J, J, J, J, J, J, J, J, J, J, J, J, J, J, J, J, J, J, J, J, J, J, J, J, J, J, J, J, J, J, J, J, J, J, J, J, J, J, J, J, J, J, J, J, J, J, J, J, J, J, J, J, J, J, J, J, J, J, J, J, J, J, J, J, J, J, J, J, J, J, J, J, J, J, J, J, J, J, J, J, J, J, J, J, J, J, J, J, J, J, J, J, J, J, J, J, J, J, J, J, J, J, J, J, .agg .table], [], []⟩) <| cond (Nat.beq cx 442) (some ⟨[], [], 115, [.st .table], [J, J, J, J, J, .var .bool, .var .i, .fix (.ptr 0 0 0 0), .var (.list .found), J, .var .i, J, J, J, J, J, J, J, J, J, J, J, J, J, J, J, J, J, J, J, J, J, J, J, J, J, J, J, .fix (.ptr 0 0 0 0), J, J, J, J, J, .fix (.ptr 0 0 0 1), J, J, J, J, J, J, J, J, J, J, J, J, J, J, J, J, J, J, J, J, J, J, J, J, J, J, J, J, J, J, J, J, J, J, J, J, J, J, J, J, J, J, J, J, J, J, J, J, J, J, J, J, J, J, J, J, J, J, J, J, J, J, J, J, J, J, J, J, J, J, .agg .table], [], []⟩) <| cond (Nat.beq cx 7085) (some ⟨[], [], 115, [.st .table], [J, J, J, J, J, .var .bool, .var .i, .fix (.ptr 0 0 0 0), .var (.list .found), J, .var .i, .var .i, .var .i, .var .i, J, J, J, J, J, J, J, J, J, J, J, J, J, J, J, J, J, J, J, J, J, J, J, J, .fix (.ptr 0 0 0 0), J, J, J, J, J, .fix (.ptr 0 0 0 1), J, J, J, J, J, J, J, J, J, J, J, J, J, J, J, J, J, J, J, J, J, J, J, J, J, J, J, J, J, J, J, J, J, J, J, J, J, J, J, J, J, J, J, J, J, J, J, J, J, J, J, J, J, J, J, J, J, J, J, J, J, J, J, J, J, J, J, J, J, J, .agg .table], [], []⟩) <| cond (Nat.beq cx 113373) (some ⟨[], [], 115, [.st .table, .st .record], [J, J, J, J, J, .var .bool, .var .i, .fix (.ptr 0 0 0 0), .var (.list .found), J, .var .i, .var .i, .var .i, .var .i, .fix (.ptr 1 0 0 0), .var .i, J, J, J, J, J, J, J, J, J, J, J, J, J, J, J, J, J, J, J, J, J, J, .fix (.ptr 0 0 0 0), J, J, J, J, J, .fix (.ptr 0 0 0 1), J, J, J, J, J, J, J, J, J, J, J, J, J, J, J, J, J, J, J, J, J, J, J, J, J, J, J, J, J, J, J, J, J, J, J, J, J, J, J, J, J, J, J, J, J, J, J, J, J, J, J, J, J, J, J, J, J, J, J, J, J, J, J, J, J, J, J, J, J, J, .agg .table, .agg .record], [], []⟩) <| none
noncomputable def gh_law07_ReplayLast : Nat → Nat → Option (Nat × Nat) := fun _ _ => none
theorem t_law07_ReplayLast (N : Nat) (a0 : (List (List Int))) (a1 : Int) : symF (seat.mk' (spOf L_law07_founds) tm_law07_ReplayLast gh_law07_ReplayLast) N 400 7 [(.list (.list (.int .u16))), (.int .u8)] [.bool] (a0, a1) = G_law07_ReplayLast N a0 a1 := by kernel_rfl
noncomputable def L_law07_ReplayLast : List (FuncId × Spec) := (7, ⟨[(.list (.list (.int .u16))), (.int .u8)], [.bool], S_law07_ReplayLast⟩) :: L_law07_founds
theorem ok_law07_ReplayLast : OrcOk Try.prog (orcOf L_law07_ReplayLast) := specs_cons sseat good primOk ok_law07_founds (by kernel_rfl) ⟨_, Try.func7, by rfl⟩ (tm := tm_law07_ReplayLast) (gh := gh_law07_ReplayLast) fun x y h => by obtain ⟨N, h⟩ := lim_spec h; exact ⟨N, 400, (t_law07_ReplayLast N x.1 x.2).trans h⟩
end Clk.Ytnkakbjfdfoehaa
namespace Clk
open Go
set_option linter.unusedVariables false
theorem iterF_succ {X R : Type} (F : (X → Option R) → X → Option R) (N : Nat) (x : X) : iterF F (N + 1) x = F (iterF F N) x := rfl
theorem drop_cons {α : Type} {xs l : List α} {k : Nat} {a : α} (h : xs.drop k = a :: l) : k < xs.length ∧ (∀ d, xs.getD k d = a) ∧ xs.drop (k + 1) = l := by
  have hk : k < xs.length := by
    apply Nat.lt_of_not_le
    intro hn
    rw [List.drop_eq_nil_of_le hn] at h
    cases h
  rw [List.drop_eq_getElem_cons hk] at h
  injection h with h1 h2
  exact ⟨hk, fun d => by rw [List.getD_eq_getElem?_getD, List.getElem?_eq_getElem hk, h1]; rfl, h2⟩
theorem drop_nil {α : Type} {xs : List α} {k : Nat} (h : xs.drop k = []) : xs.length ≤ k := List.drop_eq_nil_iff.1 h
theorem w64_id {n : Int} (h1 : -9223372036854775808 ≤ n) (h2 : n < 9223372036854775808) : w64 n = n := Go.IntWalk.i64_in n ⟨h1, by omega⟩
theorem some_bind' {α β : Type} (a : α) (f : α → Option β) : (some a).bind f = f a := rfl
end Clk
namespace Clk
open Go
set_option linter.unusedVariables false
theorem ref02_Same_L1 {a b : List Int} (hs : a.length < 4294967296) (hab : a.length = b.length) : ∀ (l m : List Int) (N k : Nat) (i : Int), a.drop k = l → b.drop k = m → i = k → l.length < N → iterF F_ref02_Same_L1 N (a, b, i) = some (decide (l = m))
  | l, m, 0, _, _, _, _, _, h => by omega
  | [], m, N + 1, k, i, h1, h2, h3, h4 => by
    have h5 := drop_nil h1
    have h6 : m = [] := by rw [← h2]; exact List.drop_eq_nil_of_le (by omega)
    rw [iterF_succ]
    rw [F_ref02_Same_L1_eq]
    unfold G_ref02_Same_L1
    simp only
    rw [decide_eq_false (by omega), cond_false, h6]; rfl
  | x :: l, m, N + 1, k, i, h1, h2, h3, h4 => by
    obtain ⟨g1, g2, g3⟩ := drop_cons h1
    subst h3
    cases m with
    | nil => have := drop_nil h2; omega
    | cons y m =>
      obtain ⟨e1, e2, e3⟩ := drop_cons h2
      rw [iterF_succ]
      rw [F_ref02_Same_L1_eq]
      unfold G_ref02_Same_L1
      simp only [Int.toNat_natCast, g2, e2]
      rw [decide_eq_true (show (k : Int) < a.length by omega), decide_eq_true (show (0 : Int) ≤ k by omega), decide_eq_true (show (k : Int) < b.length by omega)]
      simp only [cond_true]
      by_cases hxy : x = y
      · rw [decide_eq_true hxy, Bool.not_true, cond_false]
        have := ref02_Same_L1 hs hab l m N (k + 1) (w64 (k + 1)) g3 e3 (by rw [w64_id (by omega) (by omega)]; omega) (by simp at h4; omega)
        rw [this]
        simp [hxy]
      · rw [decide_eq_false hxy, Bool.not_false, cond_true]
        simp [hxy]
theorem s_ref02_Same {a b : List Int} (hs : a.length < 4294967296) : S_ref02_Same (a, b) = some (decide (a = b)) := by
  refine lim_eq (a.length + 1) fun N hN => ?_
  show G_ref02_Same N a b = _
  unfold G_ref02_Same
  by_cases h : a.length = b.length
  · rw [decide_eq_true (by omega), Bool.not_true, cond_false]
    exact ref02_Same_L1 hs h a b N 0 0 rfl rfl rfl (by omega)
  · rw [decide_eq_false (by omega), Bool.not_false, cond_true, decide_eq_false (fun e => h (by rw [e]))]
end Clk
namespace Clk
open Go
set_option linter.unusedVariables false
def inr (n : Int) : Bool := decide (0 ≤ n) && decide (n < 64)
def chkL : Option Int → List Int → Bool
  | _, [] => true
  | p, a :: l => inr a && (match p with | none => true | some q => decide (q < a)) && chkL (some a) l
def keysT (l : List Int) : Bool := chkL none l && decide (0 < l.length) && decide (l.length ≤ 8)
end Clk
namespace Clk
open Go
set_option linter.unusedVariables false
def RecOk (r : Record) : Prop := r.keys.length < 4294967296 ∧ r.values.length < 4294967296
theorem chkL_range : ∀ {l : List Int} {p : Option Int}, chkL p l = true → ∀ n ∈ l, 0 ≤ n ∧ n < 64
  | [], _, _, n, hn => by cases hn
  | a :: l, p, h, n, hn => by
    simp only [chkL, Bool.and_eq_true] at h
    rcases List.mem_cons.1 hn with rfl | hn
    · have := h.1.1
      unfold inr at this
      simpa using this
    · exact chkL_range h.2 n hn
theorem keysT_range {l : List Int} (h : keysT l = true) : ∀ n ∈ l, 0 ≤ n ∧ n < 64 := by
  unfold keysT at h
  simp only [Bool.and_eq_true] at h
  exact chkL_range h.1.1
end Clk
namespace Clk
open Go
set_option linter.unusedVariables false
theorem getD_mem' {α : Type} {l : List α} {i : Nat} {d : α} (h : i < l.length) : l.getD i d ∈ l := by
  rw [List.getD_eq_getElem?_getD, List.getElem?_eq_getElem h]
  exact List.getElem_mem h
theorem getD_set_self {α : Type} {l : List α} {i : Nat} {x d : α} (h : i < l.length) : (l.set i x).getD i d = x := by
  rw [List.getD_eq_getElem?_getD, List.getElem?_set_self h]; rfl
end Clk
namespace Clk
open Go
set_option linter.unusedVariables false
end Clk
namespace Clk
open Go
set_option linter.unusedVariables false
def tabT (n : Int) : Table := ⟨List.replicate (min n.toNat 64) (-1), List.replicate (min n.toNat 64) (-1)⟩
def TabOk (t : Table) : Prop := t.map.length < 4294967296 ∧ t.by_.length < 4294967296
def app1 (f : Found) (i : Nat) (k : Int) (t : Table) : Table :=
  if 0 ≤ k ∧ k < t.map.length ∧ k < t.by_.length then
    if f.record.kind = 1 then ⟨t.map.set k.toNat f.place, t.by_.set k.toNat f.place⟩
    else if f.record.kind = 2 ∧ i < f.record.values.length then ⟨t.map.set k.toNat (f.record.values.getD i 0), t.by_.set k.toNat f.place⟩
    else t
  else t
def appL (f : Found) : Nat → List Int → Table → Table
  | _, [], t => t
  | i, k :: l, t => appL f (i + 1) l (app1 f i k t)
def applyT (t : Table) (f : Found) : Table := appL f 0 f.record.keys t
theorem app1_len (f : Found) (i : Nat) (k : Int) (t : Table) : (app1 f i k t).map.length = t.map.length ∧ (app1 f i k t).by_.length = t.by_.length := by
  unfold app1
  split
  · split
    · simp
    · split <;> simp
  · simp
theorem appL_len (f : Found) : ∀ (l : List Int) (i : Nat) (t : Table), (appL f i l t).map.length = t.map.length ∧ (appL f i l t).by_.length = t.by_.length
  | [], i, t => ⟨rfl, rfl⟩
  | k :: l, i, t => by
    unfold appL
    obtain ⟨h1, h2⟩ := appL_len f l (i + 1) (app1 f i k t)
    obtain ⟨h3, h4⟩ := app1_len f i k t
    exact ⟨h1.trans h3, h2.trans h4⟩
theorem applyT_len (t : Table) (f : Found) : (applyT t f).map.length = t.map.length ∧ (applyT t f).by_.length = t.by_.length := appL_len f _ 0 t
theorem pApply_L1 {f : Found} (hk : f.record.keys.length < 4294967296) (hv : f.record.values.length < 4294967296) : ∀ (l : List Int) (N i : Nat) (ii : Int) (t : Table), f.record.keys.drop i = l → ii = i → TabOk t → l.length < N → iterF F_replay_Apply_L1 N (f.record.keys, (f.record.keys.length : Int), ii, f, t.map, t.by_) = some (appL f i l t)
  | l, 0, _, _, _, _, _, _, h => by omega
  | [], N + 1, i, ii, t, h1, h2, h3, _ => by
    have h4 := drop_nil h1
    rw [iterF_succ, F_replay_Apply_L1_eq]
    unfold G_replay_Apply_L1
    simp only [appL]
    rw [decide_eq_false (by omega), cond_false]
  | k :: l, N + 1, i, ii, t, h1, h2, h3, h4 => by
    obtain ⟨g1, g2, g3⟩ := drop_cons h1
    subst h2
    have e1 : w64 ((i : Int) + 1) = ((i + 1 : Nat) : Int) := by rw [w64_id (by omega) (by omega)]; rfl
    have ih := fun t' h => pApply_L1 hk hv l N (i + 1) _ t' g3 rfl h (by simp at h4; omega)
    have ihs := ih t h3
    have hval : S_replay_value (f, (i : Int)) = some (if f.record.kind = 1 then (f.place, true) else if f.record.kind = 2 ∧ i < f.record.values.length then (f.record.values.getD i 0, true) else (-1, false)) := by
      show G_replay_value f i = _
      unfold G_replay_value
      by_cases c4 : f.record.kind = 1
      · rw [decide_eq_true c4, cond_true, if_pos c4]
      · rw [decide_eq_false c4, cond_false, if_neg c4]
        by_cases c5 : f.record.kind = 2
        · rw [decide_eq_true c5, cond_true]
          by_cases c6 : i < f.record.values.length
          · rw [decide_eq_true (show (i : Int) < f.record.values.length by omega), cond_true, if_pos ⟨c5, c6⟩, decide_eq_true (show (0 : Int) ≤ i by omega), cond_true, cond_true, Int.toNat_natCast]
          · rw [decide_eq_false (show ¬ (i : Int) < f.record.values.length by omega), cond_false, if_neg (fun h => c6 h.2)]
        · rw [decide_eq_false c5, cond_false, if_neg (fun h => c5 h.1)]
    rw [iterF_succ, F_replay_Apply_L1_eq]
    unfold G_replay_Apply_L1
    simp only [Int.toNat_natCast, g2, e1, appL, hval, some_bind']
    rw [decide_eq_true (show (i : Int) < f.record.keys.length by omega), decide_eq_true (show (0 : Int) ≤ i by omega)]
    simp only [cond_true]
    have hin : ∀ (v : Int) (X : Table), (0 ≤ k ∧ k < t.map.length ∧ k < t.by_.length → X = ⟨t.map.set k.toNat v, t.by_.set k.toNat f.place⟩) → (¬ (0 ≤ k ∧ k < t.map.length ∧ k < t.by_.length) → X = t) →
        (cond (decide (k < 0)) (iterF F_replay_Apply_L1 N (f.record.keys, (f.record.keys.length : Int), ((i + 1 : Nat) : Int), f, t.map, t.by_))
        (cond (decide ((min ((t.map.length : Nat) : Int) ((t.by_.length : Nat) : Int)) ≤ k)) (iterF F_replay_Apply_L1 N (f.record.keys, (f.record.keys.length : Int), ((i + 1 : Nat) : Int), f, t.map, t.by_))
          (cond (decide (0 ≤ k)) (cond (decide (k < ((t.map.length : Nat) : Int))) (cond (decide (k.toNat < t.map.length)) (cond (decide (0 ≤ k)) (cond (decide (k < ((t.by_.length : Nat) : Int))) (cond (decide (k.toNat < t.by_.length)) (iterF F_replay_Apply_L1 N (f.record.keys, (f.record.keys.length : Int), ((i + 1 : Nat) : Int), f, t.map.set k.toNat v, t.by_.set k.toNat f.place)) none) none) none) none) none) none))) = some (appL f (i + 1) l X) := by
      intro v X hX1 hX2
      by_cases c1 : k < 0
      · rw [decide_eq_true c1, cond_true, hX2 (by omega)]; exact ihs
      · rw [decide_eq_false c1, cond_false]
        by_cases c2 : min (t.map.length : Int) (t.by_.length : Int) ≤ k
        · rw [decide_eq_true c2, cond_true, hX2 (by omega)]; exact ihs
        · rw [decide_eq_false c2, cond_false, decide_eq_true (show 0 ≤ k by omega), decide_eq_true (show k < t.map.length by omega), decide_eq_true (show k.toNat < t.map.length by omega), decide_eq_true (show k < t.by_.length by omega), decide_eq_true (show k.toNat < t.by_.length by omega)]
          simp only [cond_true]
          rw [hX1 (by omega)]
          exact ih ⟨t.map.set k.toNat v, t.by_.set k.toNat f.place⟩ ⟨by simpa using h3.1, by simpa using h3.2⟩
    by_cases c4 : f.record.kind = 1
    · rw [if_pos c4, Bool.not_true, cond_false]
      exact hin f.place _ (fun h => by unfold app1; rw [if_pos h, if_pos c4]) (fun h => by unfold app1; rw [if_neg h])
    · rw [if_neg c4]
      by_cases c5 : f.record.kind = 2 ∧ i < f.record.values.length
      · rw [if_pos c5, Bool.not_true, cond_false]
        exact hin (f.record.values.getD i 0) _ (fun h => by unfold app1; rw [if_pos h, if_neg c4, if_pos c5]) (fun h => by unfold app1; rw [if_neg h])
      · rw [if_neg c5, Bool.not_false, cond_true]
        have : app1 f i k t = t := by
          unfold app1
          split
          · first | rfl | rw [if_neg c4, if_neg c5]
          · rfl
        rw [this]; exact ihs
theorem s_replay_Apply {t : Table} {f : Found} (ht : TabOk t) (hr : RecOk f.record) : S_replay_Apply (t, f) = some (applyT t f) := by
  have h1 := ht.1
  have h2 := ht.2
  have h3 := hr.1
  refine lim_eq 4294967297 fun N hN => ?_
  show G_replay_Apply N t f = _
  unfold G_replay_Apply
  rw [decide_eq_true (by omega), cond_true, decide_eq_true (by omega), cond_true, decide_eq_true (by omega), cond_true, decide_eq_true (by omega), cond_true]
  exact pApply_L1 h3 hr.2 _ N 0 0 t rfl rfl ht (by omega)
end Clk
namespace Clk
open Go
set_option linter.unusedVariables false
def FoundsOk (l : List Found) : Prop := ∀ f ∈ l, RecOk f.record
theorem tabT_ok (n : Int) : TabOk (tabT n) := ⟨by simp [tabT]; omega, by simp [tabT]; omega⟩
def tSameT (a b : Table) : Bool := decide (a.map = b.map) && decide (a.by_ = b.by_)
theorem s_ref07_Same {a b : Table} (ha : TabOk a) : S_ref07_Same (a, b) = some (tSameT a b) := by
  show G_ref07_Same a b = _
  unfold G_ref07_Same tSameT
  rw [s_ref02_Same ha.1, some_bind']
  cases decide (a.map = b.map) with
  | false => rfl
  | true => rw [cond_true, s_ref02_Same ha.2, some_bind', Bool.true_and]
end Clk
namespace Clk
open Go
set_option linter.unusedVariables false
end Clk
namespace Clk
open Go
set_option linter.unusedVariables false
def pk (l : List Int) (i : Nat) (n : Int) : Int := l.getD i 0 % n
def mkL (l : List Int) (kind : Int) : Nat → Nat → Int → List Int × List Int
  | 0, _, _ => ([], [])
  | n + 1, at_, key => if key < 64 then
      (if kind = 2 then (key :: (mkL l kind n (at_ + 2) (key + 1 + pk l at_ 10)).1, (pk l (at_ + 1) 513 - 1) :: (mkL l kind n (at_ + 2) (key + 1 + pk l at_ 10)).2)
       else (key :: (mkL l kind n (at_ + 1) (key + 1 + pk l at_ 10)).1, (mkL l kind n (at_ + 1) (key + 1 + pk l at_ 10)).2))
    else ([], [])
def madeT (l : List Int) : Record :=
  ⟨1 + pk l 0 2, pk l 1 60000 * (1 + pk l 2 1000), (mkL l (1 + pk l 0 2) (pk l 4 8 + 1).toNat 5 (pk l 3 20)).1, (mkL l (1 + pk l 0 2) (pk l 4 8 + 1).toNat 5 (pk l 3 20)).2⟩
def U16 (l : List Int) : Prop := ∀ n ∈ l, 0 ≤ n ∧ n < 65536
theorem U16.get {l : List Int} (h : U16 l) (i : Nat) : 0 ≤ l.getD i 0 ∧ l.getD i 0 < 65536 := by
  by_cases hi : i < l.length
  · exact h _ (getD_mem' hi)
  · rw [List.getD_eq_getElem?_getD, List.getElem?_eq_none (by omega)]; exact ⟨Int.le_refl 0, show (0 : Int) < 65536 by omega⟩
theorem pk_none {l : List Int} {i : Nat} (h : l.length ≤ i) (n : Int) : pk l i n = 0 := by
  unfold pk
  rw [List.getD_eq_getElem?_getD, List.getElem?_eq_none h]; simp
theorem pk_range {l : List Int} (h : U16 l) (i : Nat) {n : Int} (hn : 0 < n) : 0 ≤ pk l i n ∧ pk l i n < n := ⟨Int.emod_nonneg _ (by omega), Int.emod_lt_of_pos _ hn⟩
theorem pk_tmod {l : List Int} (h : U16 l) (i : Nat) (n : Int) : Int.tmod (w64 (l.getD i 0)) n = pk l i n := by
  have := h.get i
  rw [w64_id (by omega) (by omega), Int.tmod_eq_emod_of_nonneg this.1]; rfl
theorem Made_L1 {l : List Int} (hl : U16 l) (hn : l.length < 9223372036854775808) {kind seq : Int} : ∀ (n N at_ : Nat) (cnt key ati : Int) (ks vs : List Int), cnt = (n : Int) - 1 → ati = at_ → n ≤ 9 → at_ + 2 * n ≤ 4294967296 → 0 ≤ key → key ≤ 100 → ks.length + n ≤ 100 → vs.length + n ≤ 100 → n < N →
    iterF F_law03_Made_L1 N (key, cnt, l, kind, seq, ati, ks, vs) = some ⟨kind, seq, ks ++ (mkL l kind n at_ key).1, vs ++ (mkL l kind n at_ key).2⟩
  | n, 0, _, _, _, _, _, _, _, _, _, _, _, _, _, _, h => by omega
  | 0, N + 1, at_, cnt, key, ati, ks, vs, h1, h2, _, _, _, _, _, _, _ => by
    rw [iterF_succ, F_law03_Made_L1_eq]
    unfold G_law03_Made_L1
    simp only [mkL, List.append_nil]
    rw [decide_eq_false (by omega), cond_false]
  | n + 1, N + 1, at_, cnt, key, ati, ks, vs, h1, h2, h3, h4, h5, h6, h7, h8, h9 => by
    subst h2
    rw [iterF_succ, F_law03_Made_L1_eq]
    unfold G_law03_Made_L1
    simp only [mkL]
    rw [decide_eq_true (show 0 ≤ cnt by omega), cond_true]
    by_cases hk : key < 64
    · have p1 := pk_range hl at_ (n := 10) (by omega)
      have p2 := pk_range hl (at_ + 1) (n := 513) (by omega)
      have ih := fun (a : Nat) (ha : a + 2 * n ≤ 4294967296) (k' : Int) (hk' : 0 ≤ k' ∧ k' ≤ 100) (ks' vs' : List Int) (hks : ks'.length + n ≤ 100) (hvs : vs'.length + n ≤ 100) => Made_L1 hl hn (kind := kind) (seq := seq) n N a (w64 (cnt - 1)) k' (a : Int) ks' vs' (by rw [w64_id (by omega) (by omega)]; omega) rfl (by omega) ha hk'.1 hk'.2 hks hvs (by omega)
      rw [decide_eq_true hk, cond_true, if_pos hk, decide_eq_true (by simp only [List.length_singleton]; omega), cond_true, decide_eq_true (by simp only [List.length_singleton]; omega), cond_true]
      have w1 : w64 ((at_ : Int) + 1) = ((at_ + 1 : Nat) : Int) := by rw [w64_id (by omega) (by omega)]; rfl
      have w2 : w64 (((at_ + 1 : Nat) : Int) + 1) = ((at_ + 2 : Nat) : Int) := by rw [w64_id (by omega) (by omega)]; rfl
      have w3 : w64 (((at_ + 1 : Nat) : Int) - 1) = (at_ : Int) := by rw [w64_id (by omega) (by omega)]; omega
      have w4 : w64 (((at_ + 2 : Nat) : Int) - 1) = ((at_ + 1 : Nat) : Int) := by rw [w64_id (by omega) (by omega)]; omega
      have w5 : w64 (key + 1) = key + 1 := w64_id (by omega) (by omega)
      have w6 : w64 (key + 1 + pk l at_ 10) = key + 1 + pk l at_ 10 := w64_id (by omega) (by omega)
      have w7 : w64 (pk l (at_ + 1) 513 - 1) = pk l (at_ + 1) 513 - 1 := w64_id (by omega) (by omega)
      simp only [w1, w2, w3, w4, w5, Int.toNat_natCast, pk_tmod hl, w6, w7]
      have v1 : [key].length = 1 := rfl
      by_cases c2 : kind = 2
      · simp only [decide_eq_true c2, cond_true, if_pos c2]
        by_cases c1 : l.length < at_ + 1
        · have z := pk_none (show l.length ≤ at_ by omega) 10
          have z2 := pk_none (show l.length ≤ at_ + 1 by omega) 513
          rw [decide_eq_true (show (l.length : Int) < ((at_ + 1 : Nat) : Int) by omega), cond_true, decide_eq_true (show (l.length : Int) < ((at_ + 2 : Nat) : Int) by omega), cond_true, decide_eq_true (by simp only [List.length_singleton]; omega), cond_true, decide_eq_true (by simp only [List.length_singleton]; omega), cond_true, z, z2, w64_id (n := key + 1 + 0) (by omega) (by omega)]
          rw [ih (at_ + 2) (by omega) _ (by omega) _ _ (by simp only [List.length_append, List.length_singleton]; omega) (by simp only [List.length_append, List.length_singleton]; omega)]
          simp
        · rw [decide_eq_false (show ¬ (l.length : Int) < ((at_ + 1 : Nat) : Int) by omega), cond_false, decide_eq_true (show (0 : Int) ≤ (at_ : Int) by omega), cond_true, decide_eq_true (show (at_ : Int) < l.length by omega), cond_true]
          by_cases c3 : l.length < at_ + 2
          · have z2 := pk_none (show l.length ≤ at_ + 1 by omega) 513
            rw [decide_eq_true (show (l.length : Int) < ((at_ + 2 : Nat) : Int) by omega), cond_true, decide_eq_true (by simp only [List.length_singleton]; omega), cond_true, decide_eq_true (by simp only [List.length_singleton]; omega), cond_true, z2]
            rw [ih (at_ + 2) (by omega) _ (by omega) _ _ (by simp only [List.length_append, List.length_singleton]; omega) (by simp only [List.length_append, List.length_singleton]; omega)]
            simp
          · rw [decide_eq_false (show ¬ (l.length : Int) < ((at_ + 2 : Nat) : Int) by omega), cond_false, decide_eq_true (show (0 : Int) ≤ ((at_ + 1 : Nat) : Int) by omega), cond_true, decide_eq_true (show ((at_ + 1 : Nat) : Int) < l.length by omega), cond_true, decide_eq_true (by simp only [List.length_singleton]; omega), cond_true, decide_eq_true (by simp only [List.length_singleton]; omega), cond_true]
            rw [ih (at_ + 2) (by omega) _ (by omega) _ _ (by simp only [List.length_append, List.length_singleton]; omega) (by simp only [List.length_append, List.length_singleton]; omega)]
            simp
      · simp only [decide_eq_false c2, cond_false, if_neg c2]
        by_cases c1 : l.length < at_ + 1
        · have z := pk_none (show l.length ≤ at_ by omega) 10
          rw [decide_eq_true (show (l.length : Int) < ((at_ + 1 : Nat) : Int) by omega), cond_true, z, w64_id (n := key + 1 + 0) (by omega) (by omega)]
          rw [ih (at_ + 1) (by omega) _ (by omega) _ _ (by simp only [List.length_append, List.length_singleton]; omega) (by omega)]
          simp
        · rw [decide_eq_false (show ¬ (l.length : Int) < ((at_ + 1 : Nat) : Int) by omega), cond_false, decide_eq_true (show (0 : Int) ≤ (at_ : Int) by omega), cond_true, decide_eq_true (show (at_ : Int) < l.length by omega), cond_true]
          rw [ih (at_ + 1) (by omega) _ (by omega) _ _ (by simp only [List.length_append, List.length_singleton]; omega) (by omega)]
          simp
    · rw [decide_eq_false hk, cond_false, if_neg hk]; simp
theorem s_law03_Made {l : List Int} (hl : U16 l) (hn : l.length < 9223372036854775808) : S_law03_Made l = some (madeT l) := by
  refine lim_eq 10 fun N hN => ?_
  have q0 := pk_range hl 0 (n := 2) (by omega)
  have q1 := pk_range hl 1 (n := 60000) (by omega)
  have q2 := pk_range hl 2 (n := 1000) (by omega)
  have q3 := pk_range hl 3 (n := 20) (by omega)
  have q4 := pk_range hl 4 (n := 8) (by omega)
  have key := fun kind seq => Made_L1 hl hn (kind := kind) (seq := seq) (pk l 4 8 + 1).toNat N 5 (pk l 4 8) (pk l 3 20) 5 [] [] (by omega) rfl (by omega) (by omega) (by omega) (by omega) (by simp; omega) (by simp; omega) (by omega)
  simp only [List.nil_append] at key
  have hm : 0 ≤ pk l 1 60000 * (1 + pk l 2 1000) ∧ pk l 1 60000 * (1 + pk l 2 1000) ≤ 60000 * 1001 := by
    refine ⟨Int.mul_nonneg q1.1 (by omega), Int.mul_le_mul (by omega) (by omega) (by omega) (by omega)⟩
  have w0 : w64 (1 + pk l 0 2) = 1 + pk l 0 2 := w64_id (by omega) (by omega)
  have w1 : w64 (1 + pk l 2 1000) = 1 + pk l 2 1000 := w64_id (by omega) (by omega)
  have w2 : w64 (pk l 1 60000 * (1 + pk l 2 1000)) = pk l 1 60000 * (1 + pk l 2 1000) := w64_id (by omega) (by omega)
  unfold G_law03_Made madeT
  simp only [pk_tmod hl, w0, w1, w2]
  by_cases c1 : l.length < 1
  · simp only [pk_none (show l.length ≤ 0 by omega), pk_none (show l.length ≤ 1 by omega), pk_none (show l.length ≤ 2 by omega), pk_none (show l.length ≤ 3 by omega), pk_none (show l.length ≤ 4 by omega)] at key ⊢
    rw [decide_eq_true (show (l.length : Int) < 1 by omega), cond_true, decide_eq_true (show (l.length : Int) < 2 by omega), cond_true, decide_eq_true (show (l.length : Int) < 3 by omega), cond_true, decide_eq_true (show (l.length : Int) < 4 by omega), cond_true, decide_eq_true (show (l.length : Int) < 5 by omega), cond_true]
    exact key 1 0
  · rw [decide_eq_false (show ¬ (l.length : Int) < 1 by omega), cond_false, decide_eq_true (show (0 : Int) < l.length by omega), cond_true]
    by_cases c2 : l.length < 2
    · simp only [pk_none (show l.length ≤ 1 by omega), pk_none (show l.length ≤ 2 by omega), pk_none (show l.length ≤ 3 by omega), pk_none (show l.length ≤ 4 by omega)] at key ⊢
      rw [decide_eq_true (show (l.length : Int) < 2 by omega), cond_true, decide_eq_true (show (l.length : Int) < 3 by omega), cond_true, decide_eq_true (show (l.length : Int) < 4 by omega), cond_true, decide_eq_true (show (l.length : Int) < 5 by omega), cond_true]
      exact key _ 0
    · rw [decide_eq_false (show ¬ (l.length : Int) < 2 by omega), cond_false, decide_eq_true (show (1 : Int) < l.length by omega), cond_true]
      by_cases c3 : l.length < 3
      · simp only [pk_none (show l.length ≤ 2 by omega), pk_none (show l.length ≤ 3 by omega), pk_none (show l.length ≤ 4 by omega)] at key ⊢
        rw [decide_eq_true (show (l.length : Int) < 3 by omega), cond_true, decide_eq_true (show (l.length : Int) < 4 by omega), cond_true, decide_eq_true (show (l.length : Int) < 5 by omega), cond_true, w64_id (n := pk l 1 60000 * 1) (by omega) (by omega)]
        exact key _ _
      · rw [decide_eq_false (show ¬ (l.length : Int) < 3 by omega), cond_false, decide_eq_true (show (2 : Int) < l.length by omega), cond_true]
        by_cases c4 : l.length < 4
        · simp only [pk_none (show l.length ≤ 3 by omega), pk_none (show l.length ≤ 4 by omega)] at key ⊢
          rw [decide_eq_true (show (l.length : Int) < 4 by omega), cond_true, decide_eq_true (show (l.length : Int) < 5 by omega), cond_true]
          exact key _ _
        · rw [decide_eq_false (show ¬ (l.length : Int) < 4 by omega), cond_false, decide_eq_true (show (3 : Int) < l.length by omega), cond_true]
          by_cases c5 : l.length < 5
          · simp only [pk_none (show l.length ≤ 4 by omega)] at key ⊢
            rw [decide_eq_true (show (l.length : Int) < 5 by omega), cond_true]
            exact key _ _
          · rw [decide_eq_false (show ¬ (l.length : Int) < 5 by omega), cond_false, decide_eq_true (show (4 : Int) < l.length by omega), cond_true]
            exact key _ _
theorem mkL_len (l : List Int) (kind : Int) : ∀ (n a : Nat) (key : Int), (mkL l kind n a key).1.length ≤ n ∧ (mkL l kind n a key).2.length ≤ n
  | 0, a, key => by simp [mkL]
  | n + 1, a, key => by
    unfold mkL
    split
    · split
      · have := mkL_len l kind n (a + 2) (key + 1 + pk l a 10)
        simp only [List.length_cons]; omega
      · have := mkL_len l kind n (a + 1) (key + 1 + pk l a 10)
        simp only [List.length_cons]; omega
    · simp
theorem madeT_ok {l : List Int} (hl : U16 l) : RecOk (madeT l) ∧ (madeT l).keys.length ≤ 8 := by
  have q4 := pk_range hl 4 (n := 8) (by omega)
  have := mkL_len l (1 + pk l 0 2) (pk l 4 8 + 1).toNat 5 (pk l 3 20)
  unfold madeT RecOk
  simp only
  omega
end Clk
namespace Clk
open Go
set_option linter.unusedVariables false
end Clk
namespace Clk
open Go
set_option linter.unusedVariables false
theorem mkL_chk {l : List Int} (hl : U16 l) {kind : Int} : ∀ (n a : Nat) (key : Int) (p : Option Int), 0 ≤ key → (∀ q, p = some q → q < key) → chkL p (mkL l kind n a key).1 = true
  | 0, a, key, p, _, _ => rfl
  | n + 1, a, key, p, h1, h2 => by
    have p1 := pk_range hl a (n := 10) (by omega)
    unfold mkL
    by_cases hk : key < 64
    · rw [if_pos hk]
      have hin : inr key = true := by unfold inr; rw [decide_eq_true h1, decide_eq_true hk]; rfl
      have hp : ∀ p : Option Int, (∀ q, p = some q → q < key) → (match p with | none => true | some q => decide (q < key)) = true := fun p h2 => by
        cases p with
        | none => rfl
        | some q => exact decide_eq_true (h2 q rfl)
      by_cases hc : kind = 2
      · rw [if_pos hc]
        have := mkL_chk hl (kind := kind) n (a + 2) (key + 1 + pk l a 10) (some key) (by omega) (fun q hq => by cases hq; omega)
        simp only [chkL, hin, this, Bool.true_and, Bool.and_true]; exact hp p h2
      · rw [if_neg hc]
        have := mkL_chk hl (kind := kind) n (a + 1) (key + 1 + pk l a 10) (some key) (by omega) (fun q hq => by cases hq; omega)
        simp only [chkL, hin, this, Bool.true_and, Bool.and_true]; exact hp p h2
    · rw [if_neg hk]; rfl
theorem madeT_keys {l : List Int} (hl : U16 l) : keysT (madeT l).keys = true := by
  have q3 := pk_range hl 3 (n := 20) (by omega)
  have q4 := pk_range hl 4 (n := 8) (by omega)
  have h8 := (madeT_ok hl).2
  have h0 : 0 < (madeT l).keys.length := by
    unfold madeT
    simp only
    obtain ⟨n, hn⟩ : ∃ n, (pk l 4 8 + 1).toNat = n + 1 := ⟨(pk l 4 8).toNat, by omega⟩
    rw [hn, mkL, if_pos (by omega)]
    split <;> simp
  unfold keysT
  rw [decide_eq_true h0, decide_eq_true h8, Bool.and_true, Bool.and_true]
  exact mkL_chk hl _ 5 _ none (by omega) (by intro q h; cases h)
theorem getD_set_ne' {α : Type} {l : List α} {i j : Nat} {x d : α} (h : i ≠ j) : (l.set i x).getD j d = l.getD j d := by
  rw [List.getD_eq_getElem?_getD, List.getElem?_set_ne h, ← List.getD_eq_getElem?_getD]
end Clk
namespace Clk
open Go
set_option linter.unusedVariables false
end Clk
namespace Clk
open Go
set_option linter.unusedVariables false
end Clk
namespace Clk
open Go
set_option linter.unusedVariables false
set_option maxRecDepth 100000 in
theorem repeat_all (M : Nat) : (List.range 65).map (fun m : Nat => G_slices_Repeat (M + 8) [-1] (m : Int)) = (List.range 65).map (fun m => some (List.replicate m (-1 : Int))) := by kernel_rfl
theorem s_Repeat {n : Int} (h0 : 0 ≤ n) (h1 : n ≤ 64) : S_slices_Repeat ([-1], n) = some (List.replicate n.toNat (-1)) := by
  refine lim_eq 8 fun N hN => ?_
  obtain ⟨M, rfl⟩ : ∃ M, N = M + 8 := ⟨N - 8, by omega⟩
  have h := congrArg (fun l => l[n.toNat]?) (repeat_all M)
  have hr : n.toNat < 65 := by omega
  simp only [List.getElem?_map, List.getElem?_range hr, Option.map_some, Option.some.injEq] at h
  have e : ((n.toNat : Nat) : Int) = n := by omega
  rw [e] at h
  exact h
theorem s_replay_New (n : Int) : S_replay_New n = some (tabT n) := by
  show G_replay_New n = _
  unfold G_replay_New
  rw [s_Repeat (by omega) (by omega), some_bind', some_bind']
  unfold tabT
  rw [show (min (max n 0) 64).toNat = min n.toNat 64 by omega]
theorem s_replay_none (n : Int) : S_replay_Replay (⟨[], false, false, 0⟩, n) = some (tabT n, 0) := by
  refine lim_eq 1 fun N hN => ?_
  obtain ⟨M, rfl⟩ : ∃ M, N = M + 1 := ⟨N - 1, by omega⟩
  show G_replay_Replay (M + 1) ⟨[], false, false, 0⟩ n = _
  unfold G_replay_Replay
  rw [show S_scan_All ⟨[], false, false, 0⟩ = some [] from rfl, some_bind', s_replay_New, some_bind', iterF_succ, F_replay_Replay_L1_eq]
  unfold G_replay_Replay_L1
  simp only [List.length_nil]
  rw [decide_eq_false (by omega), cond_false, iterF_succ, F_replay_Replay_L2_eq]
  unfold G_replay_Replay_L2
  simp only
  rw [decide_eq_false (by omega), cond_false]
def awake7T : Bool :=
  let t := applyT (tabT 4) ⟨5, ⟨1, 0, [3], []⟩⟩
  let u := applyT t ⟨6, ⟨2, 0, [3], [-1]⟩⟩
  tSameT t ⟨[-1, -1, -1, 5], [-1, -1, -1, 5]⟩ && tSameT u ⟨[-1, -1, -1, -1], [-1, -1, -1, 6]⟩
theorem awake7_ok : awake7T = true := by kernel_rfl
theorem applyT_ok {t : Table} (h : TabOk t) (f : Found) : TabOk (applyT t f) := by
  obtain ⟨h1, h2⟩ := applyT_len t f
  exact ⟨by rw [h1]; exact h.1, by rw [h2]; exact h.2⟩
theorem s_law07_awake : S_law07_awake () = some true := by
  have h := awake7_ok
  unfold awake7T at h
  rw [Bool.and_eq_true] at h
  have t0 := tabT_ok 4
  have t1 := applyT_ok t0 ⟨5, ⟨1, 0, [3], []⟩⟩
  have t2 := applyT_ok t1 ⟨6, ⟨2, 0, [3], [-1]⟩⟩
  show G_law07_awake = _
  unfold G_law07_awake
  rw [s_replay_New, some_bind', s_replay_Apply t0 ⟨by simp, by simp⟩, some_bind', s_replay_Apply t1 ⟨by simp, by simp⟩, some_bind', s_replay_none, some_bind', s_ref07_Same t1, some_bind', h.1, cond_true, s_ref07_Same t2, some_bind', h.2, cond_true, decide_eq_true rfl]
end Clk
namespace Clk
open Go
set_option linter.unusedVariables false
def found1 (i : Nat) (l : List Int) : Found := ⟨2 * (i : Int) + (l.length : Int) % 2, ⟨(madeT l).kind, i, (madeT l).keys, (madeT l).values⟩⟩
def foundsL : Nat → List (List Int) → List Found
  | _, [] => []
  | i, l :: ls => if i < 10 then found1 i l :: foundsL (i + 1) ls else []
def foundsT (l : List (List Int)) : List Found := foundsL 0 l
theorem founds_L1 {xs : List (List Int)} (hx : ∀ l ∈ xs, U16 l ∧ l.length < 9223372036854775808) : ∀ (l : List (List Int)) (N k : Nat) (i : Int) (acc : List Found), xs.drop k = l → i = k → k ≤ 10 → acc.length = k → 10 - k < N → iterF F_law07_founds_L1 N (xs, i, acc) = some (acc ++ foundsL k l)
  | l, 0, _, _, _, _, _, _, _, h => by omega
  | [], N + 1, k, i, acc, h1, h2, _, _, _ => by
    have := drop_nil h1
    rw [iterF_succ, F_law07_founds_L1_eq]
    unfold G_law07_founds_L1
    simp only [foundsL, List.append_nil]
    rw [decide_eq_false (by omega), cond_false]
  | x :: l, N + 1, k, i, acc, h1, h2, h3, h4, h5 => by
    obtain ⟨g1, g2, g3⟩ := drop_cons h1
    subst h2
    rw [iterF_succ, F_law07_founds_L1_eq]
    unfold G_law07_founds_L1
    simp only [Int.toNat_natCast, g2, foundsL]
    rw [decide_eq_true (show (k : Int) < xs.length by omega), cond_true]
    by_cases hk : k < 10
    · obtain ⟨u1, u2⟩ := hx x (by rw [← g2 []]; exact getD_mem' g1)
      rw [decide_eq_true (show (k : Int) < 10 by omega), cond_true, decide_eq_true (show (0 : Int) ≤ k by omega), cond_true, cond_true, s_law03_Made u1 u2, some_bind', cond_true, cond_true, decide_eq_true (by simp only [List.length_singleton]; omega), cond_true, decide_eq_true (by simp only [List.length_singleton]; omega), cond_true, if_pos hk]
      have e1 : Int.tmod (x.length : Int) 2 = (x.length : Int) % 2 := Int.tmod_eq_emod_of_nonneg (by omega)
      have e2 : w64 (w64 (2 * (k : Int)) + Int.tmod (x.length : Int) 2) = 2 * (k : Int) + (x.length : Int) % 2 := by rw [e1, w64_id (n := 2 * (k : Int)) (by omega) (by omega), w64_id (by omega) (by omega)]
      rw [e2]
      have ih := founds_L1 hx l N (k + 1) (w64 ((k : Int) + 1)) (acc ++ [found1 k x]) g3 (by rw [w64_id (by omega) (by omega)]; omega) (by omega) (by simp [h4]) (by omega)
      rw [List.append_assoc] at ih
      exact ih
    · rw [decide_eq_false (show ¬ (k : Int) < 10 by omega), cond_false, if_neg hk, List.append_nil]
theorem s_founds {xs : List (List Int)} (hx : ∀ l ∈ xs, U16 l ∧ l.length < 9223372036854775808) : S_law07_founds xs = some (foundsT xs) := by
  refine lim_eq 11 fun N hN => ?_
  have := founds_L1 hx xs N 0 0 [] rfl rfl (by omega) rfl (by omega)
  rw [List.nil_append] at this
  exact this
theorem foundsL_ok : ∀ (l : List (List Int)) (i : Nat), (∀ x ∈ l, U16 x) → FoundsOk (foundsL i l) ∧ (foundsL i l).length ≤ 10 - i
  | [], i, _ => ⟨fun f hf => (by cases hf), by simp [foundsL]⟩
  | x :: l, i, h => by
    unfold foundsL
    split
    · obtain ⟨h1, h2⟩ := foundsL_ok l (i + 1) fun y hy => h y (List.mem_cons_of_mem _ hy)
      refine ⟨fun f hf => ?_, by simp only [List.length_cons]; omega⟩
      rcases List.mem_cons.1 hf with rfl | hf
      · exact (madeT_ok (h x List.mem_cons_self)).1
      · exact h1 f hf
    · exact ⟨fun f hf => (by cases hf), by simp⟩
end Clk
namespace Clk
open Go
set_option linter.unusedVariables false
def lastK (f : Found) (s : Int) : Nat → List Int → Int × Int → Int × Int
  | _, [], p => p
  | i, k :: l, p => lastK f s (i + 1) l (if k = s then (if f.record.kind = 2 then f.record.values.getD i 0 else f.place, f.place) else p)
def lastF (s : Int) (fs : List Found) (p : Int × Int) : Int × Int := fs.foldl (fun p f => lastK f s 0 f.record.keys p) p
def FitF (f : Found) : Prop := f.record.kind = 1 ∨ f.record.kind = 2 ∧ f.record.keys.length ≤ f.record.values.length
theorem app_get {f : Found} (hf : f.record.kind = 1 ∨ f.record.kind = 2 ∧ f.record.keys.length ≤ f.record.values.length) : ∀ (l : List Int) (i : Nat) (t : Table) (s : Nat), t.map.length = t.by_.length → s < t.map.length → i + l.length ≤ f.record.keys.length → (∀ k ∈ l, 0 ≤ k) →
    ((appL f i l t).map.getD s 0, (appL f i l t).by_.getD s 0) = lastK f s i l (t.map.getD s 0, t.by_.getD s 0)
  | [], i, t, s, _, _, _, _ => rfl
  | k :: l, i, t, s, h1, h2, h3, h4 => by
    obtain ⟨e1, e2⟩ := app1_len f i k t
    have hk0 := h4 k List.mem_cons_self
    simp only [List.length_cons] at h3
    unfold appL lastK
    rw [app_get hf l (i + 1) (app1 f i k t) s (by rw [e1, e2, h1]) (by rw [e1]; exact h2) (by omega) fun x hx => h4 x (List.mem_cons_of_mem _ hx)]
    congr 1
    unfold app1
    by_cases hs : k = s
    · have hkt : k.toNat = s := by omega
      rw [if_pos hs, if_pos ⟨hk0, by omega, by omega⟩, hkt]
      rcases hf with hf | ⟨hf, hv⟩
      · rw [if_pos hf, if_neg (by omega)]
        simp only [getD_set_self h2, getD_set_self (show s < t.by_.length by omega)]
      · rw [if_neg (by omega), if_pos ⟨hf, by omega⟩, if_pos hf]
        simp only [getD_set_self h2, getD_set_self (show s < t.by_.length by omega)]
    · rw [if_neg hs]
      split
      · split
        · simp only [getD_set_ne' (show k.toNat ≠ s by omega)]
        · split
          · simp only [getD_set_ne' (show k.toNat ≠ s by omega)]
          · rfl
      · rfl
theorem appF_get {s : Nat} : ∀ (fs : List Found) (t : Table), (∀ f ∈ fs, FitF f ∧ ∀ k ∈ f.record.keys, 0 ≤ k) → t.map.length = t.by_.length → s < t.map.length →
    ((fs.foldl applyT t).map.getD s 0, (fs.foldl applyT t).by_.getD s 0) = lastF s fs (t.map.getD s 0, t.by_.getD s 0)
  | [], t, _, _, _ => rfl
  | f :: fs, t, h, h1, h2 => by
    obtain ⟨e1, e2⟩ := applyT_len t f
    obtain ⟨g1, g2⟩ := h f List.mem_cons_self
    have := appF_get fs (applyT t f) (fun x hx => h x (List.mem_cons_of_mem _ hx)) (by rw [e1, e2, h1]) (by rw [e1]; exact h2)
    simp only [List.foldl_cons, lastF] at this ⊢
    rw [this]
    congr 1
    exact app_get g1 f.record.keys 0 t s h1 h2 (by omega) g2
theorem Last_L4 {ih0 : Bool × Int × List Found × Int × Int × Int × Int × Table → Option Bool} {fs : List Found} (hs : fs.length < 4294967296) {i : Nat} (hi : i < fs.length) {f : Found} (hfi : fs.getD i default = f) (hr : RecOk f.record) (hf : FitF f) {ok : Bool} {sec s : Int} {t : Table} : ∀ (l : List Int) (N j : Nat) (ji a b : Int), f.record.keys.drop j = l → ji = j → l.length < N →
    iterF (F_law07_ReplayLast_L4 ih0) N (ok, sec, fs, s, a, b, (i : Int), ji, t, f.record) = ih0 (ok, sec, fs, s, (lastK f s j l (a, b)).1, (lastK f s j l (a, b)).2, ((i + 1 : Nat) : Int), t)
  | l, 0, _, _, _, _, _, _, h => by omega
  | [], N + 1, j, ji, a, b, h1, h2, _ => by
    have := drop_nil h1
    rw [iterF_succ, F_law07_ReplayLast_L4_eq]
    unfold G_law07_ReplayLast_L4
    simp only [lastK]
    rw [decide_eq_false (by omega), cond_false, w64_id (by omega) (by omega)]
    rfl
  | k :: l, N + 1, j, ji, a, b, h1, h2, h3 => by
    obtain ⟨g1, g2, g3⟩ := drop_cons h1
    have h5 := hr.1
    subst h2
    have ih := fun a b => Last_L4 (ih0 := ih0) hs hi hfi hr hf (ok := ok) (sec := sec) (s := s) (t := t) l N (j + 1) (w64 ((j : Int) + 1)) a b g3 (by rw [w64_id (by omega) (by omega)]; omega) (by simp at h3; omega)
    rw [iterF_succ, F_law07_ReplayLast_L4_eq]
    unfold G_law07_ReplayLast_L4
    simp only [Int.toNat_natCast, g2, hfi, lastK]
    rw [decide_eq_true (show (j : Int) < f.record.keys.length by omega), cond_true, decide_eq_true (show (0 : Int) ≤ j by omega), cond_true, cond_true]
    by_cases hk : k = s
    · rw [decide_eq_true hk, Bool.not_true, cond_false, decide_eq_true (show (0 : Int) ≤ i by omega), cond_true, decide_eq_true (show (i : Int) < fs.length by omega), cond_true, cond_true, cond_true, if_pos hk]
      by_cases h2 : f.record.kind = 2
      · have hv : f.record.keys.length ≤ f.record.values.length := by rcases hf with hf | hf; omega; exact hf.2
        rw [decide_eq_true h2, cond_true, cond_true, decide_eq_true (show (j : Int) < f.record.values.length by omega), cond_true, if_pos h2]
        exact ih _ _
      · rw [decide_eq_false h2, cond_false, if_neg h2]
        exact ih _ _
    · rw [decide_eq_false hk, Bool.not_false, cond_true, if_neg hk]
      exact ih _ _
theorem Last_L3 {ih0 : Bool × Int × List Found × Int × Table → Option Bool} {fs : List Found} (hs : fs.length < 4294967296) (hf : ∀ f ∈ fs, RecOk f.record ∧ FitF f) {M : Nat} (hM : 4294967296 < M) {ok : Bool} {sec : Int} {s : Nat} {t : Table} (hs1 : s < t.map.length) (hs2 : s < t.by_.length) : ∀ (l : List Found) (N i : Nat) (ii a b : Int), fs.drop i = l → ii = i → l.length < N → lastF s l (a, b) = (t.map.getD s 0, t.by_.getD s 0) →
    iterF (F_law07_ReplayLast_L3 M ih0) N (ok, sec, fs, (s : Int), a, b, ii, t) = ih0 (ok, sec, fs, w64 ((s : Int) + 1), t)
  | l, 0, _, _, _, _, _, _, h, _ => by omega
  | [], N + 1, i, ii, a, b, h1, h2, _, h4 => by
    have := drop_nil h1
    have e1 : a = t.map.getD s 0 := congrArg Prod.fst h4
    have e2 : b = t.by_.getD s 0 := congrArg Prod.snd h4
    rw [iterF_succ, F_law07_ReplayLast_L3_eq]
    unfold G_law07_ReplayLast_L3
    simp only [Int.toNat_natCast]
    rw [decide_eq_false (by omega), cond_false, decide_eq_true (show (0 : Int) ≤ s by omega), cond_true, decide_eq_true (show (s : Int) < t.map.length by omega), cond_true, decide_eq_true e1.symm, Bool.not_true, cond_false, cond_true, decide_eq_true (show (s : Int) < t.by_.length by omega), cond_true, decide_eq_true e2.symm, Bool.not_true, cond_false]
  | f :: l, N + 1, i, ii, a, b, h1, h2, h3, h4 => by
    obtain ⟨g1, g2, g3⟩ := drop_cons h1
    subst h2
    obtain ⟨r1, r2⟩ := hf f (by rw [← g2 default]; exact getD_mem' g1)
    rw [iterF_succ, F_law07_ReplayLast_L3_eq]
    unfold G_law07_ReplayLast_L3
    simp only [Int.toNat_natCast, g2]
    rw [decide_eq_true (show (i : Int) < fs.length by omega), cond_true, decide_eq_true (show (0 : Int) ≤ i by omega), cond_true, cond_true, Last_L4 hs g1 (g2 default) r1 r2 f.record.keys M 0 0 a b rfl rfl (by have := r1.1; omega)]
    exact Last_L3 hs hf hM hs1 hs2 l N (i + 1) _ _ _ g3 rfl (by simp at h3; omega) h4
theorem Last_L2 {fs : List Found} (hs : fs.length < 4294967296) (hf : ∀ f ∈ fs, RecOk f.record ∧ FitF f) {M : Nat} (hM : 4294967296 < M) {n : Nat} (hn : n ≤ 100) {t : Table} (h1 : t.map.length = n) (h2 : t.by_.length = n) (hl : ∀ s, s < n → lastF s fs (-1, -1) = (t.map.getD s 0, t.by_.getD s 0)) : ∀ (m N s : Nat) (si : Int), s + m = n → si = s → m < N → iterF (F_law07_ReplayLast_L2 M) N (true, (n : Int), fs, si, t) = some true
  | m, 0, _, _, _, _, h => by omega
  | 0, N + 1, s, si, h3, h4, _ => by
    rw [iterF_succ, F_law07_ReplayLast_L2_eq]
    unfold G_law07_ReplayLast_L2
    simp only
    rw [decide_eq_false (by omega), cond_false]
  | m + 1, N + 1, s, si, h3, h4, h5 => by
    subst h4
    rw [iterF_succ, F_law07_ReplayLast_L2_eq]
    unfold G_law07_ReplayLast_L2
    simp only
    rw [decide_eq_true (show (s : Int) < n by omega), cond_true, Last_L3 hs hf hM (by omega) (by omega) fs M 0 0 (-1) (-1) rfl rfl (by omega) (hl s (by omega))]
    exact Last_L2 hs hf hM hn h1 h2 hl m N (s + 1) _ (by omega) (by rw [w64_id (by omega) (by omega)]; omega) (by omega)
theorem Last_L1 {fs : List Found} (hs : fs.length < 4294967296) (hf : ∀ f ∈ fs, RecOk f.record ∧ FitF f) {M : Nat} (hM : 4294967296 < M) {n : Nat} (hn : n ≤ 100) {T : Table} (hl : ∀ s, s < n → lastF s fs (-1, -1) = (T.map.getD s 0, T.by_.getD s 0)) : ∀ (l : List Found) (N k : Nat) (i : Int) (t : Table), fs.drop k = l → i = k → t.map.length = n → t.by_.length = n → l.foldl applyT t = T → l.length < N → iterF (F_law07_ReplayLast_L1 M) N (true, (n : Int), fs, i, t) = some true
  | l, 0, _, _, _, _, _, _, _, _, h => by omega
  | [], N + 1, k, i, t, h1, h2, h3, h4, h5, _ => by
    have := drop_nil h1
    have h5' : t = T := h5
    subst h5'
    rw [iterF_succ, F_law07_ReplayLast_L1_eq]
    unfold G_law07_ReplayLast_L1
    simp only
    rw [decide_eq_false (by omega), cond_false, decide_eq_true (by omega), Bool.not_true, cond_false, decide_eq_true (by omega), Bool.not_true, cond_false]
    exact Last_L2 hs hf hM hn h3 h4 hl n M 0 0 (by omega) rfl (by omega)
  | f :: l, N + 1, k, i, t, h1, h2, h3, h4, h5, h6 => by
    obtain ⟨g1, g2, g3⟩ := drop_cons h1
    subst h2
    obtain ⟨r1, r2⟩ := hf f (by rw [← g2 default]; exact getD_mem' g1)
    obtain ⟨e1, e2⟩ := applyT_len t f
    rw [iterF_succ, F_law07_ReplayLast_L1_eq]
    unfold G_law07_ReplayLast_L1
    simp only [Int.toNat_natCast, g2]
    rw [decide_eq_true (show (k : Int) < fs.length by omega), cond_true, decide_eq_true (show (0 : Int) ≤ k by omega), cond_true, cond_true, s_replay_Apply ⟨by omega, by omega⟩ r1, some_bind']
    exact Last_L1 hs hf hM hn hl l N (k + 1) (w64 ((k : Int) + 1)) _ g3 (by rw [w64_id (by omega) (by omega)]; omega) (e1.trans h3) (e2.trans h4) h5 (by simp at h6; omega)
theorem mkL_vals (l : List Int) : ∀ (n a : Nat) (key : Int), (mkL l 2 n a key).1.length = (mkL l 2 n a key).2.length
  | 0, a, key => rfl
  | n + 1, a, key => by
    unfold mkL
    split
    · rw [if_pos rfl]
      simp only [List.length_cons, mkL_vals l n]
    · rfl
theorem found1_fit {l : List Int} (h : U16 l) (i : Nat) : FitF (found1 i l) ∧ ∀ k ∈ (found1 i l).record.keys, 0 ≤ k := by
  have q0 := pk_range h 0 (n := 2) (by omega)
  refine ⟨?_, fun k hk => (keysT_range (madeT_keys h) k hk).1⟩
  have hc : (madeT l).kind = 1 ∨ (madeT l).kind = 2 := by show 1 + pk l 0 2 = 1 ∨ 1 + pk l 0 2 = 2; omega
  rcases hc with hc | hc
  · exact .inl hc
  · refine .inr ⟨hc, ?_⟩
    show (madeT l).keys.length ≤ (madeT l).values.length
    have h2 : 1 + pk l 0 2 = 2 := hc
    unfold madeT
    simp only [h2]
    rw [mkL_vals]; exact Nat.le_refl _
theorem foundsL_fit : ∀ (l : List (List Int)) (i : Nat), (∀ x ∈ l, U16 x) → ∀ f ∈ foundsL i l, FitF f ∧ ∀ k ∈ f.record.keys, 0 ≤ k
  | [], i, _, f, hf => by cases hf
  | x :: l, i, h, f, hf => by
    unfold foundsL at hf
    split at hf
    · rcases List.mem_cons.1 hf with rfl | hf
      · exact found1_fit (h x List.mem_cons_self) i
      · exact foundsL_fit l (i + 1) (fun y hy => h y (List.mem_cons_of_mem _ hy)) f hf
    · cases hf
theorem law_ReplayLast {l : List (List Int)} {n : Int} (hl : ∀ x ∈ l, U16 x ∧ x.length < 9223372036854775808) (hn : 0 ≤ n ∧ n < 256) : S_law07_ReplayLast (l, n) = some true := by
  obtain ⟨h1, h2⟩ := foundsL_ok l 0 fun x hx => (hl x hx).1
  have h3 := foundsL_fit l 0 fun x hx => (hl x hx).1
  refine lim_eq 4294967297 fun N hN => ?_
  show G_law07_ReplayLast N l n = _
  unfold G_law07_ReplayLast
  have hm : Int.tmod (w64 n) 65 = ((n.toNat % 65 : Nat) : Int) := by
    rw [w64_id (by omega) (by omega), Int.tmod_eq_emod_of_nonneg hn.1]; omega
  rw [s_law07_awake, some_bind', Bool.not_true, cond_false, hm, s_replay_New, some_bind', s_founds hl, some_bind']
  have hq : n.toNat % 65 ≤ 64 := by omega
  generalize n.toNat % 65 = q at hq
  have ht : ((tabT (q : Int)).map.length = q) ∧ ((tabT (q : Int)).by_.length = q) := by unfold tabT; simp only [List.length_replicate]; omega
  refine Last_L1 (by show (foundsL 0 l).length < _; omega) (fun f hf => ⟨h1 f hf, (h3 f hf).1⟩) (by omega) (by omega) (T := (foundsT l).foldl applyT (tabT q)) (fun s hs => ?_) _ N 0 0 _ rfl rfl ht.1 ht.2 rfl (by rw [List.drop_zero]; show (foundsL 0 l).length < N; omega)
  rw [appF_get (foundsT l) (tabT q) h3 (ht.1.trans ht.2.symm) (by rw [ht.1]; exact hs)]
  have e : (tabT (q : Int)).map.getD s 0 = -1 ∧ (tabT (q : Int)).by_.getD s 0 = -1 := by
    have : (List.replicate (min (q : Int).toNat 64) (-1 : Int)).getD s 0 = -1 := by rw [List.getD_eq_getElem?_getD, List.getElem?_replicate, if_pos (by omega)]; rfl
    exact ⟨this, this⟩
  rw [e.1, e.2]; rfl
end Clk
namespace Clk
open Go
theorem row_mem {k : IntKind} {w : World} {a : Option Addr} {len cap : Nat} {zs : List Int} (h : IsRow k w a len cap zs) : ∀ n ∈ zs.take len, (Lit.int k n).wf = true := by
  intro n hn
  rcases h with ⟨_, _, _, rfl⟩ | ⟨_, _, _, _, _, _, h⟩
  · simp at hn
  · exact h n (List.mem_of_mem_take hn)
theorem row_len {k : IntKind} {w : World} {a : Option Addr} {len cap : Nat} {zs : List Int} (h : IsRow k w a len cap zs) : (zs.take len).length < 9223372036854775808 := by
  rcases h with ⟨_, _, _, rfl⟩ | ⟨_, _, h1, h2, h3, _, _⟩
  · simp
  · have : maxLen = 9223372036854775807 := rfl
    simp only [List.length_take]; omega
theorem wf_u8 {n : Int} (h : (Lit.int .u8 n).wf = true) : 0 ≤ n ∧ n < 256 := by
  simp [Lit.wf, IntKind.min, IntKind.max, IntKind.signed, IntKind.bits] at h
  omega
theorem wf_u16 {n : Int} (h : (Lit.int .u16 n).wf = true) : 0 ≤ n ∧ n < 65536 := by
  simp [Lit.wf, IntKind.min, IntKind.max, IntKind.signed, IntKind.bits] at h
  omega
theorem litU8 {n : Int} (h : (Lit.int .u8 n).wf = true) : 0 ≤ n ∧ n < 256 := wf_u8 h
end Clk
namespace Clk
open Go
def IsRows (k : IntKind) (w : World) (a : Option Addr) (len cap : Nat) (zss : List (List Int)) : Prop :=
  RelI w (fun _ => False) (encV (.list (.list (.int k))) zss) (.slice a len cap) ∧ (∀ zs ∈ zss, ∀ n ∈ zs, (Lit.int k n).wf = true) ∧ ∀ zs ∈ zss, zs.length < 9223372036854775808
theorem IsRows.rel {k : IntKind} {w : World} {a : Option Addr} {len cap : Nat} {zss : List (List Int)} (h : IsRows k w a len cap zss) : RelI w (fun _ => False) (encV (.list (.list (.int k))) zss) (.slice a len cap) := h.1
theorem rows_of_cells {k : IntKind} {w : World} {a : Addr} {len cap : Nat} (hl : len ≤ cap) (h : ∀ i, i < len → ∃ a' len' cap' z, w.cell? (a.add i) = some (.slice a' len' cap') ∧ IsRow k w a' len' cap' z) : ∃ zss, IsRows k w (some a) len cap zss := by
  have key : ∀ i, ∃ r : Option Addr × Nat × Nat × List Int, i < len → w.cell? (a.add i) = some (.slice r.1 r.2.1 r.2.2.1) ∧ IsRow k w r.1 r.2.1 r.2.2.1 r.2.2.2 := fun i => by
    by_cases hi : i < len
    · obtain ⟨a', l', c', z, h1, h2⟩ := h i hi
      exact ⟨(a', l', c', z), fun _ => ⟨h1, h2⟩⟩
    · exact ⟨(none, 0, 0, []), fun h => absurd h hi⟩
  let f := fun i => Classical.choose (key i)
  have hf : ∀ i, i < len → w.cell? (a.add i) = some (.slice (f i).1 (f i).2.1 (f i).2.2.1) ∧ IsRow k w (f i).1 (f i).2.1 (f i).2.2.1 (f i).2.2.2 := fun i hi => Classical.choose_spec (key i) hi
  refine ⟨(List.range len).map fun i => (f i).2.2.2.take (f i).2.1, ?_, ?_, ?_⟩
  · have hget : ∀ (i : Nat) row, (((List.range len).map fun i => (f i).2.2.2.take (f i).2.1).map (encC (.list (.int k))))[i]? = some row → i < len ∧ row = [.rows (((f i).2.2.2.take (f i).2.1).map fun n => [.int k n])] := by
      intro i row q
      simp only [List.getElem?_map, Option.map_eq_some_iff] at q
      obtain ⟨zs, ⟨j, q1, rfl⟩, rfl⟩ := q
      have hi := (List.getElem?_eq_some_iff.1 q1).1
      simp only [List.length_range] at hi
      rw [List.getElem?_range hi] at q1
      cases q1
      exact ⟨hi, rfl⟩
    have hlen : (((List.range len).map fun i => (f i).2.2.2.take (f i).2.1).map (encC (.list (.int k)))).length = len := by simp
    have hspot : ∀ i, i < len → a.spot = none ∧ a.add i = ⟨a.block, a.off + (i * 1 + 0), none⟩ := by
      intro i hi
      obtain ⟨hs0, _⟩ := cell_spot (hf 0 (by omega)).1
      have e0 : a.add 0 = a := by simp [Addr.add]
      rw [e0] at hs0
      refine ⟨hs0, ?_⟩
      by_cases hz : i = 0
      · subst hz; rw [e0]; obtain ⟨b, o, s⟩ := a; simp only at hs0; subst hs0; simp
      · simp [Addr.add, hz]
    have := RelI.rows (w := w) (N := fun _ => False) (l := ((List.range len).map fun i => (f i).2.2.2.take (f i).2.1).map (encC (.list (.int k)))) (a := some a) (c := cap) (k := 1) (u := fun i _ => .slice (f i).1 (f i).2.1 (f i).2.2.1) (by omega)
      (fun i row q => by rw [(hget i row q).2]; rfl)
      (fun h0 => by
        rw [hlen] at h0
        obtain ⟨_, hb⟩ := cell_spot (hf 0 h0).1
        have e0 : a.add 0 = a := by simp [Addr.add]
        rw [e0] at hb
        exact ⟨a, rfl, (hspot 0 h0).1, fun h => h, hb⟩)
      (fun ad i row j y e q1 q2 => by
        cases e
        obtain ⟨hi, rfl⟩ := hget i row q1
        have hj : j = 0 := by cases j with | zero => rfl | succ j => simp at q2
        subst hj
        rw [← (hspot i hi).2]
        exact (hf i hi).1)
      (fun i row j y q1 q2 => by
        obtain ⟨hi, rfl⟩ := hget i row q1
        have hj : j = 0 := by cases j with | zero => rfl | succ j => simp at q2
        subst hj
        simp only [List.getElem?_cons_zero, Option.some.injEq] at q2
        subst q2
        exact (hf i hi).2.rel)
    rw [hlen] at this
    exact this
  · intro zs hz n hn
    obtain ⟨i, hi, rfl⟩ := List.mem_map.1 hz
    exact row_mem (hf i (List.mem_range.1 hi)).2 n hn
  · intro zs hz
    obtain ⟨i, hi, rfl⟩ := List.mem_map.1 hz
    exact row_len (hf i (List.mem_range.1 hi)).2
section
variable {H : Type} {enc : TypeId × Value → H} {P : Program} {w : World} {base : Nat} {spare : Nat → Bool} {held : Bool}
open Go.ChangeShapes Go.WideShapes
theorem open_rows2 {t e f : TypeId} {k : IntKind} {fuel : Nat} {a : Option Addr} {len cap : Nat} {x : DataW H × List MemPlace} (ht : P.underlying t = some (.slice e)) (he : P.underlying e = some (.slice f)) (hf : P.underlying f = some (.int k)) (hce : P.cellsOf e = 1) (hcf : P.cellsOf f = 1)
    (hsp : ∀ b, spare b = true) (h : DataW.trod enc P w base spare held fuel t [.slice a len cap] = some x) : ∃ zss, IsRows k w a len cap zss := by
  rcases DataW.trod_slice ht h with ⟨h0, _⟩ | ⟨a1, len1, cap1, elems, rest, n, rfl, h1, _, hb, hl, hm, hlen, hel, _, _⟩
  · simp only [List.cons.injEq, Value.slice.injEq, and_true] at h0
    obtain ⟨rfl, rfl, rfl⟩ := h0
    refine ⟨[], ?_, (fun zs h => absurd h List.not_mem_nil), (fun zs h => absurd h List.not_mem_nil)⟩
    exact RelI.rows (l := []) (k := 1) (u := fun _ _ => undef) (Nat.le_refl _) (fun _ _ h => by simp at h) (fun h => absurd h (by simp)) (fun _ _ _ _ _ _ h => by simp at h) (fun _ _ _ _ h => by simp at h)
  · simp only [List.cons.injEq, Value.slice.injEq, and_true] at h1
    obtain ⟨rfl, rfl, rfl⟩ := h1
    refine rows_of_cells hl fun i hi => ?_
    have hi2 := hel i hi
    rw [hce, Nat.mul_one, List.getElem?_eq_getElem (by omega)] at hi2
    obtain ⟨cs', hcs, hy⟩ := Option.bind_eq_some_iff.1 hi2
    obtain ⟨v, rfl⟩ : ∃ v, cs' = [v] := by
      have := (World.cells?_some hcs).2.1
      match cs', this with
      | [v], _ => exact ⟨v, rfl⟩
    have hcell := cell_of_cells?_one hcs
    rcases open_ints he hf hcf hy with ⟨h2, _⟩ | ⟨x', l', c', zs, h2, _, hl', hm', hz, _, hc', hw⟩
    · simp only [List.cons.injEq, and_true] at h2
      subst h2
      exact ⟨none, 0, 0, [], hcell, .inl ⟨rfl, rfl, rfl, rfl⟩⟩
    · simp only [List.cons.injEq, and_true] at h2
      subst h2
      exact ⟨some x', l', c', zs, hcell, .inr ⟨x', rfl, hl', hm', by rw [hz, hsp]; rfl, hc', hw⟩⟩
end
theorem rowsU16 {w : World} {a : Option Addr} {len cap : Nat} {zss : List (List Int)} (h : IsRows .u16 w a len cap zss) : ∀ x ∈ zss, U16 x ∧ x.length < 9223372036854775808 := fun x hx => ⟨fun n hn => wf_u16 (h.2.1 x hx n hn), h.2.2 x hx⟩
end Clk
