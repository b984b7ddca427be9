/- A part of the proof of ReplayApply: an evaluator of the program's code that the kernel runs, its soundness, what the functions compute. -/
import Derived.Test.YtnkakbjfdfoehaaPartE
import Derived.Test.YtnkakbjfdfoehaaProg
import Derived.KernelRfl
set_option linter.unusedVariables false
set_option linter.unusedSimpArgs false
namespace Go.Proofs.Ytnkakbjfdfoehaa
open Clk Go.Proofs
set_option maxRecDepth 1000000
noncomputable def tiL : List (Option TI) := [
  none,
  some ⟨1, 8, .func, .nilFunc⟩,
  some ⟨1, 8, (.int .i64), (.int .i64 0)⟩,
  some ⟨1, 8, (.int .i64), (.int .i64 0)⟩,
  some ⟨1, 1, .bool, (.bool false)⟩,
  some ⟨1, 1, (.int .u8), (.int .u8 0)⟩,
  some ⟨1, 1, (.int .u8), (.int .u8 0)⟩,
  some ⟨4, 24, (.struct [(0, 2), (1, 3), (2, 4), (3, 6)]), (.agg [(.int .i64 0), (.int .i64 0), (.bool false), (.int .u8 0)])⟩,
  some ⟨4, 24, (.struct [(0, 2), (1, 3), (2, 4), (3, 6)]), (.agg [(.int .i64 0), (.int .i64 0), (.bool false), (.int .u8 0)])⟩,
  some ⟨1, 16, .string, (.str ⟨#[]⟩)⟩,
  some ⟨1, 16, .string, (.str ⟨#[]⟩)⟩,
  some ⟨1, 16, .string, (.str ⟨#[]⟩)⟩,
  some ⟨1, 8, (.int .u64), (.int .u64 0)⟩,
  some ⟨2, 24, (.struct [(0, 9), (1, 12)]), (.agg [(.str ⟨#[]⟩), (.int .u64 0)])⟩,
  some ⟨2, 24, (.struct [(0, 9), (1, 12)]), (.agg [(.str ⟨#[]⟩), (.int .u64 0)])⟩,
  some ⟨1, 8, (.pointer 154), .nilPtr⟩,
  some ⟨1, 8, (.pointer 157), .nilPtr⟩,
  some ⟨1, 8, (.pointer 166), .nilPtr⟩,
  some ⟨1, 8, (.struct [(0, 17)]), (.agg [.nilPtr])⟩,
  some ⟨1, 8, (.struct [(0, 17)]), (.agg [.nilPtr])⟩,
  some ⟨1, 16, .iface, .nilIface⟩,
  some ⟨1, 4, (.int .i32), (.int .i32 0)⟩,
  some ⟨1, 8, .func, .nilFunc⟩,
  some ⟨1, 8, .func, .nilFunc⟩,
  some ⟨1, 24, (.slice 3), (.crows [])⟩,
  some ⟨2, 48, (.struct [(0, 24), (1, 24)]), (.agg [(.crows []), (.crows [])])⟩,
  some ⟨2, 48, (.struct [(0, 24), (1, 24)]), (.agg [(.crows []), (.crows [])])⟩,
  some ⟨1, 8, .func, .nilFunc⟩,
  some ⟨1, 8, .func, .nilFunc⟩,
  some ⟨4, 64, (.struct [(0, 3), (1, 3), (2, 24), (3, 24)]), (.agg [(.int .i64 0), (.int .i64 0), (.crows []), (.crows [])])⟩,
  some ⟨4, 64, (.struct [(0, 3), (1, 3), (2, 24), (3, 24)]), (.agg [(.int .i64 0), (.int .i64 0), (.crows []), (.crows [])])⟩,
  some ⟨5, 72, (.struct [(0, 3), (1, 30)]), (.agg [(.int .i64 0), (.int .i64 0), (.int .i64 0), (.crows []), (.crows [])])⟩,
  some ⟨5, 72, (.struct [(0, 3), (1, 30)]), (.agg [(.int .i64 0), (.int .i64 0), (.int .i64 0), (.crows []), (.crows [])])⟩,
  some ⟨1, 8, .func, .nilFunc⟩,
  some ⟨1, 8, .func, .nilFunc⟩,
  some ⟨1, 24, (.slice 39), (.crows [])⟩,
  some ⟨1, 24, (.slice 32), (.crows [])⟩,
  some ⟨1, 8, .func, .nilFunc⟩,
  some ⟨1, 8, .func, .nilFunc⟩,
  some ⟨1, 24, (.slice 66), (.crows [])⟩,
  some ⟨1, 24, (.slice 52), (.crows [])⟩,
  some ⟨4, 40, (.struct [(0, 40), (1, 4), (2, 4), (3, 3)]), (.agg [(.crows []), (.bool false), (.bool false), (.int .i64 0)])⟩,
  some ⟨4, 40, (.struct [(0, 40), (1, 4), (2, 4), (3, 3)]), (.agg [(.crows []), (.bool false), (.bool false), (.int .i64 0)])⟩,
  some ⟨1, 8, .func, .nilFunc⟩,
  none,
  some ⟨1, 8, .func, .nilFunc⟩,
  some ⟨1, 8, .func, .nilFunc⟩,
  some ⟨1, 8, (.int .i64), (.int .i64 0)⟩,
  none,
  some ⟨1, 8, .func, .nilFunc⟩,
  some ⟨1, 24, (.slice 54), (.crows [])⟩,
  some ⟨4, 48, (.struct [(0, 50), (1, 3), (2, 3), (3, 4)]), (.agg [(.crows []), (.int .i64 0), (.int .i64 0), (.bool false)])⟩,
  some ⟨4, 48, (.struct [(0, 50), (1, 3), (2, 3), (3, 4)]), (.agg [(.crows []), (.int .i64 0), (.int .i64 0), (.bool false)])⟩,
  some ⟨3, 40, (.struct [(0, 4), (1, 9), (2, 9)]), (.agg [(.bool false), (.str ⟨#[]⟩), (.str ⟨#[]⟩)])⟩,
  some ⟨3, 40, (.struct [(0, 4), (1, 9), (2, 9)]), (.agg [(.bool false), (.str ⟨#[]⟩), (.str ⟨#[]⟩)])⟩,
  some ⟨1, 8, .func, .nilFunc⟩,
  some ⟨4, 48, (.struct [(0, 3), (1, 9), (2, 9), (3, 3)]), (.agg [(.int .i64 0), (.str ⟨#[]⟩), (.str ⟨#[]⟩), (.int .i64 0)])⟩,
  some ⟨4, 48, (.struct [(0, 3), (1, 9), (2, 9), (3, 3)]), (.agg [(.int .i64 0), (.str ⟨#[]⟩), (.str ⟨#[]⟩), (.int .i64 0)])⟩,
  some ⟨1, 8, .func, .nilFunc⟩,
  some ⟨1, 8, .func, .nilFunc⟩,
  some ⟨1, 8, .func, .nilFunc⟩,
  some ⟨1, 8, .func, .nilFunc⟩,
  none,
  some ⟨1, 8, .func, .nilFunc⟩,
  some ⟨1, 8, .func, .nilFunc⟩,
  some ⟨1, 8, .func, .nilFunc⟩,
  some ⟨1, 2, (.int .u16), (.int .u16 0)⟩,
  some ⟨1, 8, .func, .nilFunc⟩,
  some ⟨1, 8, .func, .nilFunc⟩,
  some ⟨1, 8, .func, .nilFunc⟩,
  some ⟨1, 8, .func, .nilFunc⟩,
  some ⟨1, 8, .func, .nilFunc⟩,
  some ⟨1, 8, .func, .nilFunc⟩,
  some ⟨1, 8, .func, .nilFunc⟩,
  some ⟨1, 8, .func, .nilFunc⟩,
  some ⟨1, 8, .func, .nilFunc⟩,
  none,
  some ⟨1, 8, .func, .nilFunc⟩,
  some ⟨5, 80, (.struct [(0, 9), (1, 30)]), (.agg [(.str ⟨#[]⟩), (.int .i64 0), (.int .i64 0), (.crows []), (.crows [])])⟩,
  some ⟨5, 80, (.struct [(0, 9), (1, 30)]), (.agg [(.str ⟨#[]⟩), (.int .i64 0), (.int .i64 0), (.crows []), (.crows [])])⟩,
  some ⟨1, 8, (.int .u64), (.int .u64 0)⟩,
  none,
  some ⟨1, 8, .func, .nilFunc⟩,
  some ⟨1, 8, .func, .nilFunc⟩,
  some ⟨1, 8, (.pointer 52), .nilPtr⟩,
  some ⟨1, 8, .func, .nilFunc⟩,
  some ⟨1, 8, .func, .nilFunc⟩,
  some ⟨1, 8, .func, .nilFunc⟩,
  none,
  some ⟨1, 8, .func, .nilFunc⟩,
  some ⟨1, 8, .func, .nilFunc⟩,
  some ⟨1, 8, .func, .nilFunc⟩,
  some ⟨1, 8, .func, .nilFunc⟩,
  some ⟨1, 8, .func, .nilFunc⟩,
  some ⟨1, 8, .func, .nilFunc⟩,
  none,
  some ⟨1, 8, .func, .nilFunc⟩,
  some ⟨1, 4, (.int .u32), (.int .u32 0)⟩,
  none,
  some ⟨1, 8, .func, .nilFunc⟩,
  some ⟨1, 8, (.int .u64), (.int .u64 0)⟩,
  none,
  some ⟨1, 8, .func, .nilFunc⟩,
  some ⟨1, 8, .func, .nilFunc⟩,
  none,
  some ⟨1, 8, .func, .nilFunc⟩,
  some ⟨1, 8, .func, .nilFunc⟩,
  some ⟨1, 8, .func, .nilFunc⟩,
  some ⟨1, 8, .func, .nilFunc⟩,
  some ⟨1, 8, .func, .nilFunc⟩,
  some ⟨1, 8, .func, .nilFunc⟩,
  some ⟨1, 8, .func, .nilFunc⟩,
  some ⟨1, 8, .func, .nilFunc⟩,
  some ⟨1, 8, .func, .nilFunc⟩,
  some ⟨1, 8, .func, .nilFunc⟩,
  some ⟨1, 8, (.int .i64), (.int .i64 0)⟩,
  none,
  some ⟨1, 8, .func, .nilFunc⟩,
  some ⟨1, 8, .func, .nilFunc⟩,
  some ⟨1, 8, .func, .nilFunc⟩,
  some ⟨1, 8, .func, .nilFunc⟩,
  some ⟨1, 8, .func, .nilFunc⟩,
  some ⟨1, 8, .func, .nilFunc⟩,
  none,
  some ⟨1, 8, .func, .nilFunc⟩,
  some ⟨1, 8, .func, .nilFunc⟩,
  some ⟨1, 8, .func, .nilFunc⟩,
  some ⟨1, 24, (.slice 5), (.crows [])⟩,
  some ⟨1, 8, .func, .nilFunc⟩,
  some ⟨1, 8, (.pointer 30), .nilPtr⟩,
  some ⟨1, 8, (.pointer 47), .nilPtr⟩,
  some ⟨1, 8, (.pointer 133), .nilPtr⟩,
  some ⟨1, 16, (.struct [(0, 9)]), (.agg [(.str ⟨#[]⟩)])⟩,
  some ⟨1, 16, (.struct [(0, 9)]), (.agg [(.str ⟨#[]⟩)])⟩,
  some ⟨1, 8, .func, .nilFunc⟩,
  some ⟨3, 72, (.array 3 24), (.agg [(.crows []), (.crows []), (.crows [])])⟩,
  some ⟨1, 8, (.int .u64), (.int .u64 0)⟩,
  some ⟨1, 8, .func, .nilFunc⟩,
  some ⟨1, 8, .func, .nilFunc⟩,
  some ⟨1, 8, .func, .nilFunc⟩,
  some ⟨1, 8, (.pointer 3), .nilPtr⟩,
  some ⟨1, 8, .func, .nilFunc⟩,
  none,
  some ⟨1, 8, .func, .nilFunc⟩,
  some ⟨1, 8, .func, .nilFunc⟩,
  some ⟨4, 4, (.array 4 5), (.agg [(.int .u8 0), (.int .u8 0), (.int .u8 0), (.int .u8 0)])⟩,
  some ⟨1, 8, (.pointer 136), .nilPtr⟩,
  none,
  some ⟨1, 8, .func, .nilFunc⟩,
  some ⟨1, 8, .func, .nilFunc⟩,
  some ⟨1, 8, .func, .nilFunc⟩,
  some ⟨1, 8, .func, .nilFunc⟩,
  some ⟨1, 8, .func, .nilFunc⟩,
  some ⟨4, 40, (.struct [(0, 17), (1, 17), (2, 17), (3, 9)]), (.agg [.nilPtr, .nilPtr, .nilPtr, (.str ⟨#[]⟩)])⟩,
  some ⟨4, 40, (.struct [(0, 17), (1, 17), (2, 17), (3, 9)]), (.agg [.nilPtr, .nilPtr, .nilPtr, (.str ⟨#[]⟩)])⟩,
  none,
  none,
  none,
  some ⟨1, 8, .func, .nilFunc⟩,
  some ⟨1, 1, (.int .u8), (.int .u8 0)⟩,
  some ⟨1, 1, (.int .u8), (.int .u8 0)⟩,
  some ⟨1, 8, .func, .nilFunc⟩,
  some ⟨1, 8, (.pointer 5), .nilPtr⟩,
  some ⟨1, 4, (.int .i32), (.int .i32 0)⟩,
  some ⟨1, 4, (.int .i32), (.int .i32 0)⟩,
  some ⟨11, 48, (.struct [(0, 12), (1, 12), (2, 97), (3, 159), (4, 5), (5, 5), (6, 160), (7, 161), (8, 162), (9, 163), (10, 164)]), (.agg [(.int .u64 0), (.int .u64 0), (.int .u32 0), (.int .u8 0), (.int .u8 0), (.int .u8 0), (.int .u8 0), .nilFunc, .nilPtr, (.int .i32 0), (.int .i32 0)])⟩,
  some ⟨11, 48, (.struct [(0, 12), (1, 12), (2, 97), (3, 159), (4, 5), (5, 5), (6, 160), (7, 161), (8, 162), (9, 163), (10, 164)]), (.agg [(.int .u64 0), (.int .u64 0), (.int .u32 0), (.int .u8 0), (.int .u8 0), (.int .u8 0), (.int .u8 0), .nilFunc, .nilPtr, (.int .i32 0), (.int .i32 0)])⟩,
  none]
noncomputable def zL : List (Option (List SV)) := [
  none,
  some [.nilFunc],
  some [.int .i64 0],
  some [.int .i64 0],
  some [.bool false],
  some [.int .u8 0],
  some [.int .u8 0],
  some [.int .i64 0, .int .i64 0, .bool false, .int .u8 0],
  some [.int .i64 0, .int .i64 0, .bool false, .int .u8 0],
  some [.str []],
  some [.str []],
  some [.str []],
  some [.int .u64 0],
  some [.str [], .int .u64 0],
  some [.str [], .int .u64 0],
  some [.nilPtr],
  some [.nilPtr],
  some [.nilPtr],
  some [.nilPtr],
  some [.nilPtr],
  some [.nilIface],
  some [.int .i32 0],
  some [.nilFunc],
  some [.nilFunc],
  some [.lst true .i []],
  some [.lst true .i [], .lst true .i []],
  some [.lst true .i [], .lst true .i []],
  some [.nilFunc],
  some [.nilFunc],
  some [.int .i64 0, .int .i64 0, .lst true .i [], .lst true .i []],
  some [.int .i64 0, .int .i64 0, .lst true .i [], .lst true .i []],
  some [.int .i64 0, .int .i64 0, .int .i64 0, .lst true .i [], .lst true .i []],
  some [.int .i64 0, .int .i64 0, .int .i64 0, .lst true .i [], .lst true .i []],
  some [.nilFunc],
  some [.nilFunc],
  some [.lst true (.list (.int .u16)) []],
  some [.lst true .found []],
  some [.nilFunc],
  some [.nilFunc],
  some [.lst true (.int .u16) []],
  some [.lst true .block []],
  some [.lst true .block [], .bool false, .bool false, .int .i64 0],
  some [.lst true .block [], .bool false, .bool false, .int .i64 0],
  some [.nilFunc],
  none,
  some [.nilFunc],
  some [.nilFunc],
  some [.int .i64 0],
  none,
  some [.nilFunc],
  some [.lst true .page []],
  some [.lst true .page [], .int .i64 0, .int .i64 0, .bool false],
  some [.lst true .page [], .int .i64 0, .int .i64 0, .bool false],
  some [.bool false, .str [], .str []],
  some [.bool false, .str [], .str []],
  some [.nilFunc],
  some [.int .i64 0, .str [], .str [], .int .i64 0],
  some [.int .i64 0, .str [], .str [], .int .i64 0],
  some [.nilFunc],
  some [.nilFunc],
  some [.nilFunc],
  some [.nilFunc],
  none,
  some [.nilFunc],
  some [.nilFunc],
  some [.nilFunc],
  some [.int .u16 0],
  some [.nilFunc],
  some [.nilFunc],
  some [.nilFunc],
  some [.nilFunc],
  some [.nilFunc],
  some [.nilFunc],
  some [.nilFunc],
  some [.nilFunc],
  some [.nilFunc],
  none,
  some [.nilFunc],
  some [.str [], .int .i64 0, .int .i64 0, .lst true .i [], .lst true .i []],
  some [.str [], .int .i64 0, .int .i64 0, .lst true .i [], .lst true .i []],
  some [.int .u64 0],
  none,
  some [.nilFunc],
  some [.nilFunc],
  some [.nilPtr],
  some [.nilFunc],
  some [.nilFunc],
  some [.nilFunc],
  none,
  some [.nilFunc],
  some [.nilFunc],
  some [.nilFunc],
  some [.nilFunc],
  some [.nilFunc],
  some [.nilFunc],
  none,
  some [.nilFunc],
  some [.int .u32 0],
  none,
  some [.nilFunc],
  some [.int .u64 0],
  none,
  some [.nilFunc],
  some [.nilFunc],
  none,
  some [.nilFunc],
  some [.nilFunc],
  some [.nilFunc],
  some [.nilFunc],
  some [.nilFunc],
  some [.nilFunc],
  some [.nilFunc],
  some [.nilFunc],
  some [.nilFunc],
  some [.nilFunc],
  some [.int .i64 0],
  none,
  some [.nilFunc],
  some [.nilFunc],
  some [.nilFunc],
  some [.nilFunc],
  some [.nilFunc],
  some [.nilFunc],
  none,
  some [.nilFunc],
  some [.nilFunc],
  some [.nilFunc],
  some [.lst true (.int .u8) []],
  some [.nilFunc],
  some [.nilPtr],
  some [.nilPtr],
  some [.nilPtr],
  some [.str []],
  some [.str []],
  some [.nilFunc],
  some [.lst true .i [], .lst true .i [], .lst true .i []],
  some [.int .u64 0],
  some [.nilFunc],
  some [.nilFunc],
  some [.nilFunc],
  some [.nilPtr],
  some [.nilFunc],
  none,
  some [.nilFunc],
  some [.nilFunc],
  some [.int .u8 0, .int .u8 0, .int .u8 0, .int .u8 0],
  some [.nilPtr],
  none,
  some [.nilFunc],
  some [.nilFunc],
  some [.nilFunc],
  some [.nilFunc],
  some [.nilFunc],
  some [.nilPtr, .nilPtr, .nilPtr, .str []],
  some [.nilPtr, .nilPtr, .nilPtr, .str []],
  none,
  none,
  none,
  some [.nilFunc],
  some [.int .u8 0],
  some [.int .u8 0],
  some [.nilFunc],
  some [.nilPtr],
  some [.int .i32 0],
  some [.int .i32 0],
  some [.int .u64 0, .int .u64 0, .int .u32 0, .int .u8 0, .int .u8 0, .int .u8 0, .int .u8 0, .nilFunc, .nilPtr, .int .i32 0, .int .i32 0],
  some [.int .u64 0, .int .u64 0, .int .u32 0, .int .u8 0, .int .u8 0, .int .u8 0, .int .u8 0, .nilFunc, .nilPtr, .int .i32 0, .int .i32 0],
  none]
noncomputable def ecL : List (Option TC) := [
  none,
  none,
  some .i,
  some .i,
  some .bool,
  some (.int .u8),
  some (.int .u8),
  none,
  none,
  some .str,
  some .str,
  some .str,
  some (.int .u64),
  none,
  none,
  none,
  none,
  none,
  none,
  none,
  none,
  some (.int .i32),
  none,
  none,
  some (.list .i),
  none,
  some .table,
  none,
  none,
  none,
  some .record,
  none,
  some .found,
  none,
  none,
  some (.list (.list (.int .u16))),
  some (.list .found),
  none,
  none,
  some (.list (.int .u16)),
  some (.list .block),
  none,
  some .chip,
  none,
  none,
  none,
  none,
  some .i,
  none,
  none,
  some (.list .page),
  none,
  some .block,
  none,
  some .page,
  none,
  none,
  some .fate,
  none,
  none,
  none,
  none,
  none,
  none,
  none,
  none,
  some (.int .u16),
  none,
  none,
  none,
  none,
  none,
  none,
  none,
  none,
  none,
  none,
  none,
  none,
  some .write,
  some (.int .u64),
  none,
  none,
  none,
  none,
  none,
  none,
  none,
  none,
  none,
  none,
  none,
  none,
  none,
  none,
  none,
  none,
  some (.int .u32),
  none,
  none,
  some (.int .u64),
  none,
  none,
  none,
  none,
  none,
  none,
  none,
  none,
  none,
  none,
  none,
  none,
  none,
  none,
  some .i,
  none,
  none,
  none,
  none,
  none,
  none,
  none,
  none,
  none,
  none,
  none,
  some (.list (.int .u8)),
  none,
  none,
  none,
  none,
  none,
  none,
  none,
  none,
  some (.int .u64),
  none,
  none,
  none,
  none,
  none,
  none,
  none,
  none,
  none,
  none,
  none,
  none,
  none,
  none,
  none,
  none,
  none,
  none,
  none,
  none,
  none,
  none,
  some (.int .u8),
  some (.int .u8),
  none,
  none,
  some (.int .i32),
  some (.int .i32),
  none,
  none,
  none]
noncomputable def eqL : List Bool := [false, false, false, false, false, false, false, true, true, false, false, false, false, false, false, false, false, false, false, false, false, false, false, false, false, true, true, false, false, true, true, true, true, false, false, false, false, false, false, false, false, true, true, false, false, false, false, false, false, false, false, true, true, true, true, false, true, true, false, false, false, false, false, false, false, false, false, false, false, false, false, false, false, false, false, false, false, false, true, true, false, false, false, false, false, false, false, false, false, false, false, false, false, false, false, false, false, false, false, false, false, false, false, false, false, false, false, false, false, false, false, false, false, false, false, false, false, false, false, false, false, false, false, false, false, false, false, false, false, false, false, false, true, true, false, false, false, false, false, false, false, false, false, false, false, false, false, false, false, false, false, false, false, false, false, false, false, false, false, false, false, false, false, false, false, false, false, false]
noncomputable def fnL : List (Option Go.Func) := [none, none, none, some Try.f3, some Try.f4, some Try.f5, some Try.f6, some Try.f7, some Try.f8, some Try.f9, some Try.f10, some Try.f11, some Try.f12, some Try.f13, some Try.f14, some Try.f15, some Try.f16, some Try.f17, some Try.f18, some Try.f19, some Try.f20, some Try.f21, some Try.f22, some Try.f23, some Try.f24, some Try.f25, some Try.f26, some Try.f27, some Try.f28, some Try.f29, some Try.f30, some Try.f31, some Try.f32, some Try.f33, some Try.f34, some Try.f35, some Try.f36, some Try.f37, some Try.f38, some Try.f39, some Try.f40, some Try.f41, some Try.f42, some Try.f43, some Try.f44, some Try.f45, some Try.f46, some Try.f47, some Try.f48, some Try.f49, some Try.f50, some Try.f51, some Try.f52, some Try.f53, some Try.f54, some Try.f55, some Try.f56, some Try.f57, some Try.f58, some Try.f59, some Try.f60, some Try.f61, some Try.f62, some Try.f63, some Try.f64, some Try.f65, some Try.f66, some Try.f67, some Try.f68, some Try.f69, some Try.f70, some Try.f71, some Try.f72, some Try.f73, some Try.f74, some Try.f75, some Try.f76, some Try.f77, some Try.f78, some Try.f79, some Try.f80, some Try.f81, some Try.f82, some Try.f83, some Try.f84, some Try.f85, some Try.f86, some Try.f87, some Try.f88, some Try.f89, some Try.f90, some Try.f91, some Try.f92, some Try.f93, some Try.f94, some Try.f95, some Try.f96, some Try.f97, some Try.f98, some Try.f99, some Try.f100, some Try.f101, some Try.f102, some Try.f103, some Try.f104, some Try.f105, some Try.f106, none, none, none, none, none, none, none, none, none, none, none, none, none, none, none, none]
noncomputable def inlL : List Bool := [false, false, false, false, false, false, false, false, false, false, false, false, false, false, false, false, false, false, false, false, false, false, false, false, false, false, false, false, false, false, true, true, true, false, true, false, false, false, false, true, true, false, true, true, false, false, false, false, false, false, false, false, true, false, false, true, false, false, false, false, false, false, false, false, false, false, true, true, true, true, true, true, true, true, false, false, false, false, false, false, false, false, false, false, false, false, false, true, false, false, true, true, false, false, false, true, false, true, false, true, false, true, false, true, true, false, false, false, false, false, false, false, false, false, false, false, false, false, false, false, false, false, false]
noncomputable def clL : List (Option (TC × Nat)) := [none, none, none, none, none, none, none, none, none, none, none, none, none, none, none, none, none, none, none, none, none, none, none, some (.i, 8), none, none, none, none, none, none, none, none, none, none, none, none, none, none, none, none, none, none, none, none, none, none, none, none, none, none, none, none, none, none, none, none, none, none, none, none, none, none, none, none, none, none, none, none, none, none, none, none, none, none, none, none, none, none, none, none, none, none, none, none, none, none, none, none, none, none, none, none, none, none, none, none, none, none, none, none, none, none, none, none, none, none, none, none, none, none, none, none, none, none, none, none, none, none, none, none, none, none, none]
noncomputable def seat : Seat := ⟨tiL, zL, ecL, eqL, fnL, inlL, clL⟩
theorem seat_ok : seat.Ok Try.prog where
  ti := by kernel_rfl
  zero := by kernel_rfl
  zs := by kernel_rfl
  ec := by kernel_rfl
  eci := by kernel_rfl
  flds := by kernel_rfl
  eq := by kernel_rfl
  fn := by kernel_rfl
theorem sseat : SeatOk Try.prog seat.inlF seat.prim seat.mk' := seat_ok.seatOk
end Go.Proofs.Ytnkakbjfdfoehaa
namespace Go.Proofs.Ytnkakbjfdfoehaa
open Go Go.Proofs Clk
theorem ti0 : ti Try.prog 0 = some ⟨1, 0, .other, (.tup [])⟩ := by kernel_rfl
theorem ti1 : ti Try.prog 1 = some ⟨1, 8, .func, .nilFunc⟩ := by kernel_rfl
theorem ti2 : ti Try.prog 2 = some ⟨1, 8, (.int .i64), (.int .i64 0)⟩ := by kernel_rfl
theorem ti3 : ti Try.prog 3 = some ⟨1, 8, (.int .i64), (.int .i64 0)⟩ := by kernel_rfl
theorem ti4 : ti Try.prog 4 = some ⟨1, 1, .bool, (.bool false)⟩ := by kernel_rfl
theorem ti5 : ti Try.prog 5 = some ⟨1, 1, (.int .u8), (.int .u8 0)⟩ := by kernel_rfl
theorem ti6 : ti Try.prog 6 = some ⟨1, 1, (.int .u8), (.int .u8 0)⟩ := by kernel_rfl
theorem ti7 : ti Try.prog 7 = some ⟨4, 24, (.struct [(0, 2), (1, 3), (2, 4), (3, 6)]), (.agg [(.int .i64 0), (.int .i64 0), (.bool false), (.int .u8 0)])⟩ := by kernel_rfl
theorem ti8 : ti Try.prog 8 = some ⟨4, 24, (.struct [(0, 2), (1, 3), (2, 4), (3, 6)]), (.agg [(.int .i64 0), (.int .i64 0), (.bool false), (.int .u8 0)])⟩ := by kernel_rfl
theorem ti9 : ti Try.prog 9 = some ⟨1, 16, .string, (.str ⟨#[]⟩)⟩ := by kernel_rfl
theorem ti10 : ti Try.prog 10 = some ⟨1, 16, .string, (.str ⟨#[]⟩)⟩ := by kernel_rfl
theorem ti11 : ti Try.prog 11 = some ⟨1, 16, .string, (.str ⟨#[]⟩)⟩ := by kernel_rfl
theorem ti12 : ti Try.prog 12 = some ⟨1, 8, (.int .u64), (.int .u64 0)⟩ := by kernel_rfl
theorem ti13 : ti Try.prog 13 = some ⟨2, 24, (.struct [(0, 9), (1, 12)]), (.agg [(.str ⟨#[]⟩), (.int .u64 0)])⟩ := by kernel_rfl
theorem ti14 : ti Try.prog 14 = some ⟨2, 24, (.struct [(0, 9), (1, 12)]), (.agg [(.str ⟨#[]⟩), (.int .u64 0)])⟩ := by kernel_rfl
theorem ti15 : ti Try.prog 15 = some ⟨1, 8, (.pointer 154), .nilPtr⟩ := by kernel_rfl
theorem ti16 : ti Try.prog 16 = some ⟨1, 8, (.pointer 157), .nilPtr⟩ := by kernel_rfl
theorem ti17 : ti Try.prog 17 = some ⟨1, 8, (.pointer 166), .nilPtr⟩ := by kernel_rfl
theorem ti18 : ti Try.prog 18 = some ⟨1, 8, (.struct [(0, 17)]), (.agg [.nilPtr])⟩ := by kernel_rfl
theorem ti19 : ti Try.prog 19 = some ⟨1, 8, (.struct [(0, 17)]), (.agg [.nilPtr])⟩ := by kernel_rfl
theorem ti20 : ti Try.prog 20 = some ⟨1, 16, .iface, .nilIface⟩ := by kernel_rfl
theorem ti21 : ti Try.prog 21 = some ⟨1, 4, (.int .i32), (.int .i32 0)⟩ := by kernel_rfl
theorem ti22 : ti Try.prog 22 = some ⟨1, 8, .func, .nilFunc⟩ := by kernel_rfl
theorem ti23 : ti Try.prog 23 = some ⟨1, 8, .func, .nilFunc⟩ := by kernel_rfl
theorem ti24 : ti Try.prog 24 = some ⟨1, 24, (.slice 3), (.crows [])⟩ := by kernel_rfl
theorem ti25 : ti Try.prog 25 = some ⟨2, 48, (.struct [(0, 24), (1, 24)]), (.agg [(.crows []), (.crows [])])⟩ := by kernel_rfl
theorem ti26 : ti Try.prog 26 = some ⟨2, 48, (.struct [(0, 24), (1, 24)]), (.agg [(.crows []), (.crows [])])⟩ := by kernel_rfl
theorem ti27 : ti Try.prog 27 = some ⟨1, 8, .func, .nilFunc⟩ := by kernel_rfl
theorem ti28 : ti Try.prog 28 = some ⟨1, 8, .func, .nilFunc⟩ := by kernel_rfl
theorem ti29 : ti Try.prog 29 = some ⟨4, 64, (.struct [(0, 3), (1, 3), (2, 24), (3, 24)]), (.agg [(.int .i64 0), (.int .i64 0), (.crows []), (.crows [])])⟩ := by kernel_rfl
theorem ti30 : ti Try.prog 30 = some ⟨4, 64, (.struct [(0, 3), (1, 3), (2, 24), (3, 24)]), (.agg [(.int .i64 0), (.int .i64 0), (.crows []), (.crows [])])⟩ := by kernel_rfl
theorem ti31 : ti Try.prog 31 = some ⟨5, 72, (.struct [(0, 3), (1, 30)]), (.agg [(.int .i64 0), (.int .i64 0), (.int .i64 0), (.crows []), (.crows [])])⟩ := by kernel_rfl
theorem ti32 : ti Try.prog 32 = some ⟨5, 72, (.struct [(0, 3), (1, 30)]), (.agg [(.int .i64 0), (.int .i64 0), (.int .i64 0), (.crows []), (.crows [])])⟩ := by kernel_rfl
theorem ti33 : ti Try.prog 33 = some ⟨1, 8, .func, .nilFunc⟩ := by kernel_rfl
theorem ti34 : ti Try.prog 34 = some ⟨1, 8, .func, .nilFunc⟩ := by kernel_rfl
theorem ti35 : ti Try.prog 35 = some ⟨1, 24, (.slice 39), (.crows [])⟩ := by kernel_rfl
theorem ti36 : ti Try.prog 36 = some ⟨1, 24, (.slice 32), (.crows [])⟩ := by kernel_rfl
theorem ti37 : ti Try.prog 37 = some ⟨1, 8, .func, .nilFunc⟩ := by kernel_rfl
theorem ti38 : ti Try.prog 38 = some ⟨1, 8, .func, .nilFunc⟩ := by kernel_rfl
theorem ti39 : ti Try.prog 39 = some ⟨1, 24, (.slice 66), (.crows [])⟩ := by kernel_rfl
theorem ti40 : ti Try.prog 40 = some ⟨1, 24, (.slice 52), (.crows [])⟩ := by kernel_rfl
theorem ti41 : ti Try.prog 41 = some ⟨4, 40, (.struct [(0, 40), (1, 4), (2, 4), (3, 3)]), (.agg [(.crows []), (.bool false), (.bool false), (.int .i64 0)])⟩ := by kernel_rfl
theorem ti42 : ti Try.prog 42 = some ⟨4, 40, (.struct [(0, 40), (1, 4), (2, 4), (3, 3)]), (.agg [(.crows []), (.bool false), (.bool false), (.int .i64 0)])⟩ := by kernel_rfl
theorem ti43 : ti Try.prog 43 = some ⟨1, 8, .func, .nilFunc⟩ := by kernel_rfl
theorem ti44 : ti Try.prog 44 = some ⟨1, 0, .other, .undef⟩ := by kernel_rfl
theorem ti45 : ti Try.prog 45 = some ⟨1, 8, .func, .nilFunc⟩ := by kernel_rfl
theorem ti46 : ti Try.prog 46 = some ⟨1, 8, .func, .nilFunc⟩ := by kernel_rfl
theorem ti47 : ti Try.prog 47 = some ⟨1, 8, (.int .i64), (.int .i64 0)⟩ := by kernel_rfl
theorem ti48 : ti Try.prog 48 = some ⟨1, 0, .other, .undef⟩ := by kernel_rfl
theorem ti49 : ti Try.prog 49 = some ⟨1, 8, .func, .nilFunc⟩ := by kernel_rfl
theorem ti50 : ti Try.prog 50 = some ⟨1, 24, (.slice 54), (.crows [])⟩ := by kernel_rfl
theorem ti51 : ti Try.prog 51 = some ⟨4, 48, (.struct [(0, 50), (1, 3), (2, 3), (3, 4)]), (.agg [(.crows []), (.int .i64 0), (.int .i64 0), (.bool false)])⟩ := by kernel_rfl
theorem ti52 : ti Try.prog 52 = some ⟨4, 48, (.struct [(0, 50), (1, 3), (2, 3), (3, 4)]), (.agg [(.crows []), (.int .i64 0), (.int .i64 0), (.bool false)])⟩ := by kernel_rfl
theorem ti53 : ti Try.prog 53 = some ⟨3, 40, (.struct [(0, 4), (1, 9), (2, 9)]), (.agg [(.bool false), (.str ⟨#[]⟩), (.str ⟨#[]⟩)])⟩ := by kernel_rfl
theorem ti54 : ti Try.prog 54 = some ⟨3, 40, (.struct [(0, 4), (1, 9), (2, 9)]), (.agg [(.bool false), (.str ⟨#[]⟩), (.str ⟨#[]⟩)])⟩ := by kernel_rfl
theorem ti55 : ti Try.prog 55 = some ⟨1, 8, .func, .nilFunc⟩ := by kernel_rfl
theorem ti56 : ti Try.prog 56 = some ⟨4, 48, (.struct [(0, 3), (1, 9), (2, 9), (3, 3)]), (.agg [(.int .i64 0), (.str ⟨#[]⟩), (.str ⟨#[]⟩), (.int .i64 0)])⟩ := by kernel_rfl
theorem ti57 : ti Try.prog 57 = some ⟨4, 48, (.struct [(0, 3), (1, 9), (2, 9), (3, 3)]), (.agg [(.int .i64 0), (.str ⟨#[]⟩), (.str ⟨#[]⟩), (.int .i64 0)])⟩ := by kernel_rfl
theorem ti58 : ti Try.prog 58 = some ⟨1, 8, .func, .nilFunc⟩ := by kernel_rfl
theorem ti59 : ti Try.prog 59 = some ⟨1, 8, .func, .nilFunc⟩ := by kernel_rfl
theorem ti60 : ti Try.prog 60 = some ⟨1, 8, .func, .nilFunc⟩ := by kernel_rfl
theorem ti61 : ti Try.prog 61 = some ⟨1, 8, .func, .nilFunc⟩ := by kernel_rfl
theorem ti62 : ti Try.prog 62 = some ⟨1, 0, .other, .undef⟩ := by kernel_rfl
theorem ti63 : ti Try.prog 63 = some ⟨1, 8, .func, .nilFunc⟩ := by kernel_rfl
theorem ti64 : ti Try.prog 64 = some ⟨1, 8, .func, .nilFunc⟩ := by kernel_rfl
theorem ti65 : ti Try.prog 65 = some ⟨1, 8, .func, .nilFunc⟩ := by kernel_rfl
theorem ti66 : ti Try.prog 66 = some ⟨1, 2, (.int .u16), (.int .u16 0)⟩ := by kernel_rfl
theorem ti67 : ti Try.prog 67 = some ⟨1, 8, .func, .nilFunc⟩ := by kernel_rfl
theorem ti68 : ti Try.prog 68 = some ⟨1, 8, .func, .nilFunc⟩ := by kernel_rfl
theorem ti69 : ti Try.prog 69 = some ⟨1, 8, .func, .nilFunc⟩ := by kernel_rfl
theorem ti70 : ti Try.prog 70 = some ⟨1, 8, .func, .nilFunc⟩ := by kernel_rfl
theorem ti71 : ti Try.prog 71 = some ⟨1, 8, .func, .nilFunc⟩ := by kernel_rfl
theorem ti72 : ti Try.prog 72 = some ⟨1, 8, .func, .nilFunc⟩ := by kernel_rfl
theorem ti73 : ti Try.prog 73 = some ⟨1, 8, .func, .nilFunc⟩ := by kernel_rfl
theorem ti74 : ti Try.prog 74 = some ⟨1, 8, .func, .nilFunc⟩ := by kernel_rfl
theorem ti75 : ti Try.prog 75 = some ⟨1, 8, .func, .nilFunc⟩ := by kernel_rfl
theorem ti76 : ti Try.prog 76 = some ⟨1, 0, .other, .undef⟩ := by kernel_rfl
theorem ti77 : ti Try.prog 77 = some ⟨1, 8, .func, .nilFunc⟩ := by kernel_rfl
theorem ti78 : ti Try.prog 78 = some ⟨5, 80, (.struct [(0, 9), (1, 30)]), (.agg [(.str ⟨#[]⟩), (.int .i64 0), (.int .i64 0), (.crows []), (.crows [])])⟩ := by kernel_rfl
theorem ti79 : ti Try.prog 79 = some ⟨5, 80, (.struct [(0, 9), (1, 30)]), (.agg [(.str ⟨#[]⟩), (.int .i64 0), (.int .i64 0), (.crows []), (.crows [])])⟩ := by kernel_rfl
theorem ti80 : ti Try.prog 80 = some ⟨1, 8, (.int .u64), (.int .u64 0)⟩ := by kernel_rfl
theorem ti81 : ti Try.prog 81 = some ⟨1, 0, .other, .undef⟩ := by kernel_rfl
theorem ti82 : ti Try.prog 82 = some ⟨1, 8, .func, .nilFunc⟩ := by kernel_rfl
theorem ti83 : ti Try.prog 83 = some ⟨1, 8, .func, .nilFunc⟩ := by kernel_rfl
theorem ti84 : ti Try.prog 84 = some ⟨1, 8, (.pointer 52), .nilPtr⟩ := by kernel_rfl
theorem ti85 : ti Try.prog 85 = some ⟨1, 8, .func, .nilFunc⟩ := by kernel_rfl
theorem ti86 : ti Try.prog 86 = some ⟨1, 8, .func, .nilFunc⟩ := by kernel_rfl
theorem ti87 : ti Try.prog 87 = some ⟨1, 8, .func, .nilFunc⟩ := by kernel_rfl
theorem ti88 : ti Try.prog 88 = some ⟨1, 0, .other, .undef⟩ := by kernel_rfl
theorem ti89 : ti Try.prog 89 = some ⟨1, 8, .func, .nilFunc⟩ := by kernel_rfl
theorem ti90 : ti Try.prog 90 = some ⟨1, 8, .func, .nilFunc⟩ := by kernel_rfl
theorem ti91 : ti Try.prog 91 = some ⟨1, 8, .func, .nilFunc⟩ := by kernel_rfl
theorem ti92 : ti Try.prog 92 = some ⟨1, 8, .func, .nilFunc⟩ := by kernel_rfl
theorem ti93 : ti Try.prog 93 = some ⟨1, 8, .func, .nilFunc⟩ := by kernel_rfl
theorem ti94 : ti Try.prog 94 = some ⟨1, 8, .func, .nilFunc⟩ := by kernel_rfl
theorem ti95 : ti Try.prog 95 = some ⟨1, 0, .other, .undef⟩ := by kernel_rfl
theorem ti96 : ti Try.prog 96 = some ⟨1, 8, .func, .nilFunc⟩ := by kernel_rfl
theorem ti97 : ti Try.prog 97 = some ⟨1, 4, (.int .u32), (.int .u32 0)⟩ := by kernel_rfl
theorem ti98 : ti Try.prog 98 = some ⟨1, 0, .other, .undef⟩ := by kernel_rfl
theorem ti99 : ti Try.prog 99 = some ⟨1, 8, .func, .nilFunc⟩ := by kernel_rfl
theorem ti100 : ti Try.prog 100 = some ⟨1, 8, (.int .u64), (.int .u64 0)⟩ := by kernel_rfl
theorem ti101 : ti Try.prog 101 = some ⟨1, 0, .other, .undef⟩ := by kernel_rfl
theorem ti102 : ti Try.prog 102 = some ⟨1, 8, .func, .nilFunc⟩ := by kernel_rfl
theorem ti103 : ti Try.prog 103 = some ⟨1, 8, .func, .nilFunc⟩ := by kernel_rfl
theorem ti104 : ti Try.prog 104 = some ⟨1, 0, .other, .undef⟩ := by kernel_rfl
theorem ti105 : ti Try.prog 105 = some ⟨1, 8, .func, .nilFunc⟩ := by kernel_rfl
theorem ti106 : ti Try.prog 106 = some ⟨1, 8, .func, .nilFunc⟩ := by kernel_rfl
theorem ti107 : ti Try.prog 107 = some ⟨1, 8, .func, .nilFunc⟩ := by kernel_rfl
theorem ti108 : ti Try.prog 108 = some ⟨1, 8, .func, .nilFunc⟩ := by kernel_rfl
theorem ti109 : ti Try.prog 109 = some ⟨1, 8, .func, .nilFunc⟩ := by kernel_rfl
theorem ti110 : ti Try.prog 110 = some ⟨1, 8, .func, .nilFunc⟩ := by kernel_rfl
theorem ti111 : ti Try.prog 111 = some ⟨1, 8, .func, .nilFunc⟩ := by kernel_rfl
theorem ti112 : ti Try.prog 112 = some ⟨1, 8, .func, .nilFunc⟩ := by kernel_rfl
theorem ti113 : ti Try.prog 113 = some ⟨1, 8, .func, .nilFunc⟩ := by kernel_rfl
theorem ti114 : ti Try.prog 114 = some ⟨1, 8, .func, .nilFunc⟩ := by kernel_rfl
theorem ti115 : ti Try.prog 115 = some ⟨1, 8, (.int .i64), (.int .i64 0)⟩ := by kernel_rfl
theorem ti116 : ti Try.prog 116 = some ⟨1, 0, .other, .undef⟩ := by kernel_rfl
theorem ti117 : ti Try.prog 117 = some ⟨1, 8, .func, .nilFunc⟩ := by kernel_rfl
theorem ti118 : ti Try.prog 118 = some ⟨1, 8, .func, .nilFunc⟩ := by kernel_rfl
theorem ti119 : ti Try.prog 119 = some ⟨1, 8, .func, .nilFunc⟩ := by kernel_rfl
theorem ti120 : ti Try.prog 120 = some ⟨1, 8, .func, .nilFunc⟩ := by kernel_rfl
theorem ti121 : ti Try.prog 121 = some ⟨1, 8, .func, .nilFunc⟩ := by kernel_rfl
theorem ti122 : ti Try.prog 122 = some ⟨1, 8, .func, .nilFunc⟩ := by kernel_rfl
theorem ti123 : ti Try.prog 123 = some ⟨1, 0, .other, .undef⟩ := by kernel_rfl
theorem ti124 : ti Try.prog 124 = some ⟨1, 8, .func, .nilFunc⟩ := by kernel_rfl
theorem ti125 : ti Try.prog 125 = some ⟨1, 8, .func, .nilFunc⟩ := by kernel_rfl
theorem ti126 : ti Try.prog 126 = some ⟨1, 8, .func, .nilFunc⟩ := by kernel_rfl
theorem ti127 : ti Try.prog 127 = some ⟨1, 24, (.slice 5), (.crows [])⟩ := by kernel_rfl
theorem ti128 : ti Try.prog 128 = some ⟨1, 8, .func, .nilFunc⟩ := by kernel_rfl
theorem ti129 : ti Try.prog 129 = some ⟨1, 8, (.pointer 30), .nilPtr⟩ := by kernel_rfl
theorem ti130 : ti Try.prog 130 = some ⟨1, 8, (.pointer 47), .nilPtr⟩ := by kernel_rfl
theorem ti131 : ti Try.prog 131 = some ⟨1, 8, (.pointer 133), .nilPtr⟩ := by kernel_rfl
theorem ti132 : ti Try.prog 132 = some ⟨1, 16, (.struct [(0, 9)]), (.agg [(.str ⟨#[]⟩)])⟩ := by kernel_rfl
theorem ti133 : ti Try.prog 133 = some ⟨1, 16, (.struct [(0, 9)]), (.agg [(.str ⟨#[]⟩)])⟩ := by kernel_rfl
theorem ti134 : ti Try.prog 134 = some ⟨1, 8, .func, .nilFunc⟩ := by kernel_rfl
theorem ti135 : ti Try.prog 135 = some ⟨3, 72, (.array 3 24), (.agg [(.crows []), (.crows []), (.crows [])])⟩ := by kernel_rfl
theorem ti136 : ti Try.prog 136 = some ⟨1, 8, (.int .u64), (.int .u64 0)⟩ := by kernel_rfl
theorem ti137 : ti Try.prog 137 = some ⟨1, 8, .func, .nilFunc⟩ := by kernel_rfl
theorem ti138 : ti Try.prog 138 = some ⟨1, 8, .func, .nilFunc⟩ := by kernel_rfl
theorem ti139 : ti Try.prog 139 = some ⟨1, 8, .func, .nilFunc⟩ := by kernel_rfl
theorem ti140 : ti Try.prog 140 = some ⟨1, 8, (.pointer 3), .nilPtr⟩ := by kernel_rfl
theorem ti141 : ti Try.prog 141 = some ⟨1, 8, .func, .nilFunc⟩ := by kernel_rfl
theorem ti142 : ti Try.prog 142 = some ⟨1, 0, .other, .undef⟩ := by kernel_rfl
theorem ti143 : ti Try.prog 143 = some ⟨1, 8, .func, .nilFunc⟩ := by kernel_rfl
theorem ti144 : ti Try.prog 144 = some ⟨1, 8, .func, .nilFunc⟩ := by kernel_rfl
theorem ti145 : ti Try.prog 145 = some ⟨4, 4, (.array 4 5), (.agg [(.int .u8 0), (.int .u8 0), (.int .u8 0), (.int .u8 0)])⟩ := by kernel_rfl
theorem ti146 : ti Try.prog 146 = some ⟨1, 8, (.pointer 136), .nilPtr⟩ := by kernel_rfl
theorem ti147 : ti Try.prog 147 = some ⟨1, 0, .other, .undef⟩ := by kernel_rfl
theorem ti148 : ti Try.prog 148 = some ⟨1, 8, .func, .nilFunc⟩ := by kernel_rfl
theorem ti149 : ti Try.prog 149 = some ⟨1, 8, .func, .nilFunc⟩ := by kernel_rfl
theorem ti150 : ti Try.prog 150 = some ⟨1, 8, .func, .nilFunc⟩ := by kernel_rfl
theorem ti151 : ti Try.prog 151 = some ⟨1, 8, .func, .nilFunc⟩ := by kernel_rfl
theorem ti152 : ti Try.prog 152 = some ⟨1, 8, .func, .nilFunc⟩ := by kernel_rfl
theorem ti153 : ti Try.prog 153 = some ⟨4, 40, (.struct [(0, 17), (1, 17), (2, 17), (3, 9)]), (.agg [.nilPtr, .nilPtr, .nilPtr, (.str ⟨#[]⟩)])⟩ := by kernel_rfl
theorem ti154 : ti Try.prog 154 = some ⟨4, 40, (.struct [(0, 17), (1, 17), (2, 17), (3, 9)]), (.agg [.nilPtr, .nilPtr, .nilPtr, (.str ⟨#[]⟩)])⟩ := by kernel_rfl
theorem ti155 : ti Try.prog 155 = some ⟨0, 0, (.array 0 16), (.agg [])⟩ := by kernel_rfl
theorem ti156 : ti Try.prog 156 = some ⟨0, 0, (.struct [(0, 155)]), (.agg [])⟩ := by kernel_rfl
theorem ti157 : ti Try.prog 157 = some ⟨0, 0, (.struct [(0, 155)]), (.agg [])⟩ := by kernel_rfl
theorem ti158 : ti Try.prog 158 = some ⟨1, 8, .func, .nilFunc⟩ := by kernel_rfl
theorem ti159 : ti Try.prog 159 = some ⟨1, 1, (.int .u8), (.int .u8 0)⟩ := by kernel_rfl
theorem ti160 : ti Try.prog 160 = some ⟨1, 1, (.int .u8), (.int .u8 0)⟩ := by kernel_rfl
theorem ti161 : ti Try.prog 161 = some ⟨1, 8, .func, .nilFunc⟩ := by kernel_rfl
theorem ti162 : ti Try.prog 162 = some ⟨1, 8, (.pointer 5), .nilPtr⟩ := by kernel_rfl
theorem ti163 : ti Try.prog 163 = some ⟨1, 4, (.int .i32), (.int .i32 0)⟩ := by kernel_rfl
theorem ti164 : ti Try.prog 164 = some ⟨1, 4, (.int .i32), (.int .i32 0)⟩ := by kernel_rfl
theorem ti165 : ti Try.prog 165 = some ⟨11, 48, (.struct [(0, 12), (1, 12), (2, 97), (3, 159), (4, 5), (5, 5), (6, 160), (7, 161), (8, 162), (9, 163), (10, 164)]), (.agg [(.int .u64 0), (.int .u64 0), (.int .u32 0), (.int .u8 0), (.int .u8 0), (.int .u8 0), (.int .u8 0), .nilFunc, .nilPtr, (.int .i32 0), (.int .i32 0)])⟩ := by kernel_rfl
theorem ti166 : ti Try.prog 166 = some ⟨11, 48, (.struct [(0, 12), (1, 12), (2, 97), (3, 159), (4, 5), (5, 5), (6, 160), (7, 161), (8, 162), (9, 163), (10, 164)]), (.agg [(.int .u64 0), (.int .u64 0), (.int .u32 0), (.int .u8 0), (.int .u8 0), (.int .u8 0), (.int .u8 0), .nilFunc, .nilPtr, (.int .i32 0), (.int .i32 0)])⟩ := by kernel_rfl
theorem ti167 : ti Try.prog 167 = some ⟨1, 8, .other, .nilPtr⟩ := by kernel_rfl
attribute [go_sem] ti0 ti1 ti2 ti3 ti4 ti5 ti6 ti7 ti8 ti9 ti10 ti11 ti12 ti13 ti14 ti15 ti16 ti17 ti18 ti19 ti20 ti21 ti22 ti23 ti24 ti25 ti26 ti27 ti28 ti29 ti30 ti31 ti32 ti33 ti34 ti35 ti36 ti37 ti38 ti39 ti40 ti41 ti42 ti43 ti44 ti45 ti46 ti47 ti48 ti49 ti50 ti51 ti52 ti53 ti54 ti55 ti56 ti57 ti58 ti59 ti60 ti61 ti62 ti63 ti64 ti65 ti66 ti67 ti68 ti69 ti70 ti71 ti72 ti73 ti74 ti75 ti76 ti77 ti78 ti79 ti80 ti81 ti82 ti83 ti84 ti85 ti86 ti87 ti88 ti89 ti90 ti91 ti92 ti93 ti94 ti95 ti96 ti97 ti98 ti99 ti100 ti101 ti102 ti103 ti104 ti105 ti106 ti107 ti108 ti109 ti110 ti111 ti112 ti113 ti114 ti115 ti116 ti117 ti118 ti119 ti120 ti121 ti122 ti123 ti124 ti125 ti126 ti127 ti128 ti129 ti130 ti131 ti132 ti133 ti134 ti135 ti136 ti137 ti138 ti139 ti140 ti141 ti142 ti143 ti144 ti145 ti146 ti147 ti148 ti149 ti150 ti151 ti152 ti153 ti154 ti155 ti156 ti157 ti158 ti159 ti160 ti161 ti162 ti163 ti164 ti165 ti166 ti167
end Go.Proofs.Ytnkakbjfdfoehaa
namespace Go.Proofs.Ytnkakbjfdfoehaa
open Go Go.Proofs Clk
set_option maxRecDepth 100000
theorem newRows_of {H : List AO} {te : TI} {x : AV} {rs : List (List AV)} (h : rowsOf H x = some rs) : newRows H te x = some rs := by
  cases x <;> first | exact h | (simp [rowsOf] at h)
theorem good : Clk.Good Try.prog := ⟨by kernel_rfl, fun f fn h hn => by
  have : Try.prog.funcs.all (fun fn => fn.name != "runtime.NumGoroutine") = true := by kernel_rfl
  rw [Array.all_eq_true] at this
  obtain ⟨hi, h'⟩ := Array.getElem?_eq_some_iff.1 h
  have := this f hi
  rw [h', hn] at this
  simp at this⟩
theorem clone23 : ∀ args H v ch, cloneA 1 8 H.length args H = some (v, ch) → ∀ (w : World) (X : Nat → Prop) (β : Beta) (vs : Array Value), HRel w X β H → ARel w (NN X β H) β args vs → CallsIn (WF none) 0 Try.prog 23 vs w (Clk.Ends w X β H v (applyCh H ch)) := by
  refine clone_gen good Try.func23 (by rfl) (by rfl) (by rfl) (by rfl) (by rfl) (by rfl) (by rfl) (by rfl) (by rfl) Try.underlying24 (fun x H => ⟨20, ?_⟩) (fun x H => ⟨20, ?_⟩) (fun x H v ch h => ?_)
  · simp (config := {dsimp := false}) only [go_sem]
  · simp (config := {dsimp := false}) only [go_sem]
  · unfold cloneA at h
    simp only at h
    split at h
    · rename_i hrs
      cases h
      have hnr : ∀ te, newRows H te x = some [] := fun te => newRows_of hrs
      refine ⟨20, ?_⟩
      simp (config := {dsimp := false}) only [go_sem, hnr, reduceIte, Nat.reduceEqDiff, reduceCtorEq, Nat.zero_mul, Nat.not_lt_zero, gt_iff_lt, or_self, Nat.zero_le]
      refine ⟨_, rfl, ?_⟩
      rfl
    · rename_i rs hne hrs
      split at h
      · rename_i hc
        cases h
        simp only [Bool.and_eq_true, decide_eq_true_eq] at hc
        have hnr : ∀ te, newRows H te x = some rs := fun te => newRows_of hrs
        have h1 : ¬ (maxBytes < rs.length * 8) := Nat.not_lt.2 hc.1.2
        have h2 : ¬ (maxBytes < rs.length) := Nat.not_lt.2 hc.2
        have h3 : rs.all (fun r => r.length == 1) = true := hc.1.1
        have h4 : rs.length ≠ 0 := fun e => hne (List.eq_nil_of_length_eq_zero e)
        refine ⟨20, ?_⟩
        simp (config := {dsimp := false}) only [go_sem, hnr, reduceIte, Nat.reduceEqDiff, reduceCtorEq, gt_iff_lt, h1, h2, h3, h4, or_self, Bool.and_self]
        refine ⟨_, rfl, ?_⟩
        rfl
      · cases h
    · cases h
def primW : FuncId → Option (Nat → List AV → List AO → Res) := fun f => if f = 23 then some (cloneA 1 8) else none
theorem primW_ok : PrimOk Try.prog primW := by
  intro f h e
  unfold primW at e
  split at e
  · rename_i hf; subst hf; cases e
    exact ⟨⟨_, Try.func23, by rfl⟩, clone23⟩
  · cases e
end Go.Proofs.Ytnkakbjfdfoehaa
namespace Go.Proofs.Ytnkakbjfdfoehaa
open Clk Go.Proofs
theorem prim_eq : seat.prim = primW := by
  funext f
  by_cases h : f < 123
  · have key : (List.range 123).map seat.prim = (List.range 123).map primW := by kernel_rfl
    have := congrArg (fun l => l[f]?) key
    simp only [List.getElem?_map, List.getElem?_range h, Option.map_some] at this
    exact Option.some.inj this
  · have h' : 123 ≤ f := Nat.le_of_not_lt h
    have hl : seat.cl.length = 123 := by kernel_rfl
    have h1 : seat.cl.length ≤ f := Nat.le_trans (Nat.le_of_eq hl) h'
    have n1 : f ≠ 23 := fun e => absurd (e ▸ h') (by decide)
    unfold Seat.prim primW
    rw [List.getD_eq_getElem?_getD, List.getElem?_eq_none h1, if_neg n1]
    rfl
theorem primOk : PrimOk Try.prog seat.prim := by rw [prim_eq]; exact primW_ok
end Go.Proofs.Ytnkakbjfdfoehaa
namespace Clk.Ytnkakbjfdfoehaa
open Go Go.Proofs Go.Proofs.Ytnkakbjfdfoehaa
set_option maxRecDepth 1000000
set_option linter.unusedVariables false
noncomputable def LN : List (FuncId × Spec) := []
theorem ok_N : OrcOk Try.prog (orcOf LN) := specs_nil
noncomputable def tm_ref02_Same : Nat → Option Tmpl := fun cx => cond (Nat.beq cx 6) (some ⟨[], [], 26, [], [.var (.list .i), .var (.list .i), J, J, J, .var .i, J, J, J, J, J, J, J, J, J, J, J, J, J, J, J, J, J, J, J, J], [], []⟩) <| none
noncomputable def gh_ref02_Same : Nat → Nat → Option (Nat × Nat) := fun _ _ => none
theorem t_ref02_Same (N : Nat) (a0 : (List Int)) (a1 : (List Int)) : symF (seat.mk' (spOf LN) tm_ref02_Same gh_ref02_Same) N 400 21 [(.list .i), (.list .i)] [.bool] (a0, a1) = G_ref02_Same N a0 a1 := by kernel_rfl
noncomputable def L_ref02_Same : List (FuncId × Spec) := (21, ⟨[(.list .i), (.list .i)], [.bool], S_ref02_Same⟩) :: LN
theorem ok_ref02_Same : OrcOk Try.prog (orcOf L_ref02_Same) := specs_cons sseat good primOk ok_N (by kernel_rfl) ⟨_, Try.func21, by rfl⟩ (tm := tm_ref02_Same) (gh := gh_ref02_Same) fun x y h => by obtain ⟨N, h⟩ := lim_spec h; exact ⟨N, 400, (t_ref02_Same N x.1 x.2).trans h⟩
noncomputable def tm_ref07_Same : Nat → Option Tmpl := fun _ => none
noncomputable def gh_ref07_Same : Nat → Nat → Option (Nat × Nat) := fun _ _ => none
theorem t_ref07_Same (N : Nat) (a0 : Table) (a1 : Table) : symF (seat.mk' (spOf L_ref02_Same) tm_ref07_Same gh_ref07_Same) N 400 10 [.table, .table] [.bool] (a0, a1) = G_ref07_Same a0 a1 := by kernel_rfl
noncomputable def L_ref07_Same : List (FuncId × Spec) := (10, ⟨[.table, .table], [.bool], S_ref07_Same⟩) :: L_ref02_Same
theorem ok_ref07_Same : OrcOk Try.prog (orcOf L_ref07_Same) := specs_cons sseat good primOk ok_ref02_Same (by kernel_rfl) ⟨_, Try.func10, by rfl⟩ (tm := tm_ref07_Same) (gh := gh_ref07_Same) fun x y h => ⟨0, 400, (t_ref07_Same 0 x.1 x.2).trans h⟩
noncomputable def tm_math_bits_Mul64 : Nat → Option Tmpl := fun _ => none
noncomputable def gh_math_bits_Mul64 : Nat → Nat → Option (Nat × Nat) := fun _ _ => none
theorem t_math_bits_Mul64 (N : Nat) (a0 : Int) (a1 : Int) : symF (seat.mk' (spOf L_ref07_Same) tm_math_bits_Mul64 gh_math_bits_Mul64) N 400 51 [(.int .u64), (.int .u64)] [(.int .u64), (.int .u64)] (a0, a1) = G_math_bits_Mul64 a0 a1 := by kernel_rfl
noncomputable def L_math_bits_Mul64 : List (FuncId × Spec) := (51, ⟨[(.int .u64), (.int .u64)], [(.int .u64), (.int .u64)], S_math_bits_Mul64⟩) :: L_ref07_Same
theorem ok_math_bits_Mul64 : OrcOk Try.prog (orcOf L_math_bits_Mul64) := specs_cons sseat good primOk ok_ref07_Same (by kernel_rfl) ⟨_, Try.func51, by rfl⟩ (tm := tm_math_bits_Mul64) (gh := gh_math_bits_Mul64) fun x y h => ⟨0, 400, (t_math_bits_Mul64 0 x.1 x.2).trans h⟩
noncomputable def tm_math_bits_Mul : Nat → Option Tmpl := fun _ => none
noncomputable def gh_math_bits_Mul : Nat → Nat → Option (Nat × Nat) := fun _ _ => none
theorem t_math_bits_Mul (N : Nat) (a0 : Int) (a1 : Int) : symF (seat.mk' (spOf L_math_bits_Mul64) tm_math_bits_Mul gh_math_bits_Mul) N 400 38 [(.int .u64), (.int .u64)] [(.int .u64), (.int .u64)] (a0, a1) = G_math_bits_Mul a0 a1 := by kernel_rfl
noncomputable def L_math_bits_Mul : List (FuncId × Spec) := (38, ⟨[(.int .u64), (.int .u64)], [(.int .u64), (.int .u64)], S_math_bits_Mul⟩) :: L_math_bits_Mul64
theorem ok_math_bits_Mul : OrcOk Try.prog (orcOf L_math_bits_Mul) := specs_cons sseat good primOk ok_math_bits_Mul64 (by kernel_rfl) ⟨_, Try.func38, by rfl⟩ (tm := tm_math_bits_Mul) (gh := gh_math_bits_Mul) fun x y h => ⟨0, 400, (t_math_bits_Mul 0 x.1 x.2).trans h⟩
noncomputable def tm_slices_Repeat : Nat → Option Tmpl := fun cx => cond (Nat.beq cx 26) (some ⟨[], [], 48, [.blk .i 0 false], [J, J, J, J, J, J, J, .fix (.bref 0 0), .var .i, J, J, J, J, J, J, J, J, J, J, J, J, J, J, J, J, J, J, J, J, J, .fix (.bref 0 0), .fix (.bref 0 0), J, J, J, J, J, J, J, J, J, J, J, J, J, J, J, J, .var (.list .i)], [], []⟩) <| none
noncomputable def gh_slices_Repeat : Nat → Nat → Option (Nat × Nat) := fun _ _ => none
theorem t_slices_Repeat (N : Nat) (a0 : (List Int)) (a1 : Int) : symF (seat.mk' (spOf L_math_bits_Mul) tm_slices_Repeat gh_slices_Repeat) N 400 22 [(.list .i), .i] [(.list .i)] (a0, a1) = G_slices_Repeat N a0 a1 := by kernel_rfl
noncomputable def L_slices_Repeat : List (FuncId × Spec) := (22, ⟨[(.list .i), .i], [(.list .i)], S_slices_Repeat⟩) :: L_math_bits_Mul
theorem ok_slices_Repeat : OrcOk Try.prog (orcOf L_slices_Repeat) := specs_cons sseat good primOk ok_math_bits_Mul (by kernel_rfl) ⟨_, Try.func22, by rfl⟩ (tm := tm_slices_Repeat) (gh := gh_slices_Repeat) fun x y h => by obtain ⟨N, h⟩ := lim_spec h; exact ⟨N, 400, (t_slices_Repeat N x.1 x.2).trans h⟩
noncomputable def tm_replay_New : Nat → Option Tmpl := fun _ => none
noncomputable def gh_replay_New : Nat → Nat → Option (Nat × Nat) := fun _ _ => none
theorem t_replay_New (N : Nat) (a0 : Int) : symF (seat.mk' (spOf L_slices_Repeat) tm_replay_New gh_replay_New) N 400 11 [.i] [.table] a0 = G_replay_New a0 := by kernel_rfl
noncomputable def L_replay_New : List (FuncId × Spec) := (11, ⟨[.i], [.table], S_replay_New⟩) :: L_slices_Repeat
theorem ok_replay_New : OrcOk Try.prog (orcOf L_replay_New) := specs_cons sseat good primOk ok_slices_Repeat (by kernel_rfl) ⟨_, Try.func11, by rfl⟩ (tm := tm_replay_New) (gh := gh_replay_New) fun x y h => ⟨0, 400, (t_replay_New 0 x).trans h⟩
noncomputable def tm_replay_value : Nat → Option Tmpl := fun _ => none
noncomputable def gh_replay_value : Nat → Nat → Option (Nat × Nat) := fun _ _ => none
theorem t_replay_value (N : Nat) (a0 : Found) (a1 : Int) : symF (seat.mk' (spOf L_replay_New) tm_replay_value gh_replay_value) N 400 24 [.found, .i] [.i, .bool] (a0, a1) = G_replay_value a0 a1 := by kernel_rfl
noncomputable def L_replay_value : List (FuncId × Spec) := (24, ⟨[.found, .i], [.i, .bool], S_replay_value⟩) :: L_replay_New
theorem ok_replay_value : OrcOk Try.prog (orcOf L_replay_value) := specs_cons sseat good primOk ok_replay_New (by kernel_rfl) ⟨_, Try.func24, by rfl⟩ (tm := tm_replay_value) (gh := gh_replay_value) fun x y h => ⟨0, 400, (t_replay_value 0 x.1 x.2).trans h⟩
noncomputable def tm_replay_Apply : Nat → Option Tmpl := fun cx => cond (Nat.beq cx 1) (some ⟨[], [], 62, [.raw 2 1, .st .found, .raw 2 1, .dead, .dead, .dead, .dead, .dead, .dead, .dead, .dead, .dead, .dead, .blk .i 0 false, .blk .i 0 false], [J, J, .fix (.ptr 0 0 0 0), .fix (.ptr 1 0 0 0), .fix (.ptr 2 0 0 0), J, J, J, J, .fix (.ptr 0 0 0 0), J, .fix (.bref 13 0), .fix (.ptr 0 0 0 1), J, .fix (.bref 14 0), .fix (.ptr 0 0 0 0), .fix (.ptr 0 0 0 1), .fix (.ptr 1 0 0 1), .fix (.ptr 1 0 0 3), .var (.list .i), .var .i, .var .i, J, J, J, J, J, J, J, J, J, J, J, J, J, J, J, J, J, J, J, J, J, J, J, J, J, J, J, J, J, J, J, J, J, J, J, J, J, J, J, J, .fix (.bref 13 0), .fix (.bref 14 0), .agg .found, J, J, .var (.list .i), .var (.list .i)], [], []⟩) <| none
noncomputable def gh_replay_Apply : Nat → Nat → Option (Nat × Nat) := fun _ _ => none
theorem t_replay_Apply (N : Nat) (a0 : Table) (a1 : Found) : symF (seat.mk' (spOf L_replay_value) tm_replay_Apply gh_replay_Apply) N 400 13 [.table, .found] [.table] (a0, a1) = G_replay_Apply N a0 a1 := by kernel_rfl
noncomputable def L_replay_Apply : List (FuncId × Spec) := (13, ⟨[.table, .found], [.table], S_replay_Apply⟩) :: L_replay_value
theorem ok_replay_Apply : OrcOk Try.prog (orcOf L_replay_Apply) := specs_cons sseat good primOk ok_replay_value (by kernel_rfl) ⟨_, Try.func13, by rfl⟩ (tm := tm_replay_Apply) (gh := gh_replay_Apply) fun x y h => by obtain ⟨N, h⟩ := lim_spec h; exact ⟨N, 400, (t_replay_Apply N x.1 x.2).trans h⟩
theorem t_math_bits_Len64 : symF (seat.mk' (spOf L_replay_Apply) (fun _ => none) (fun _ _ => none)) 0 400 75 [(.int .u64)] [.i] (0 : Int) = some (0 : Int) := by kernel_rfl
noncomputable def L_math_bits_Len64 : List (FuncId × Spec) := (75, ⟨[(.int .u64)], [.i], S_math_bits_Len64⟩) :: L_replay_Apply
theorem ok_math_bits_Len64 : OrcOk Try.prog (orcOf L_math_bits_Len64) := specs_cons sseat good primOk ok_replay_Apply (by kernel_rfl) ⟨_, Try.func75, by rfl⟩ (tm := fun _ => none) (gh := fun _ _ => none) fun (x : Int) y (h : S_math_bits_Len64 x = some y) => by
  unfold S_math_bits_Len64 at h
  by_cases hx : x = 0
  · subst hx; rw [decide_eq_true rfl, cond_true] at h; cases h; exact ⟨0, 400, t_math_bits_Len64⟩
  · rw [decide_eq_false hx, cond_false] at h; cases h
theorem t_math_bits_Len : symF (seat.mk' (spOf L_math_bits_Len64) (fun _ => none) (fun _ _ => none)) 0 400 56 [(.int .u64)] [.i] (0 : Int) = some (0 : Int) := by kernel_rfl
noncomputable def L_math_bits_Len : List (FuncId × Spec) := (56, ⟨[(.int .u64)], [.i], S_math_bits_Len⟩) :: L_math_bits_Len64
theorem ok_math_bits_Len : OrcOk Try.prog (orcOf L_math_bits_Len) := specs_cons sseat good primOk ok_math_bits_Len64 (by kernel_rfl) ⟨_, Try.func56, by rfl⟩ (tm := fun _ => none) (gh := fun _ _ => none) fun (x : Int) y (h : S_math_bits_Len x = some y) => by
  unfold S_math_bits_Len at h
  by_cases hx : x = 0
  · subst hx; rw [decide_eq_true rfl, cond_true] at h; cases h; exact ⟨0, 400, t_math_bits_Len⟩
  · rw [decide_eq_false hx, cond_false] at h; cases h
theorem t_scan_All (b o : Bool) (n : Int) : symF (seat.mk' (spOf L_math_bits_Len) (fun _ => none) (fun _ _ => none)) 0 400 29 [.chip] [(.list .found)] ⟨[], b, o, n⟩ = some [] := by kernel_rfl
noncomputable def L_scan_All : List (FuncId × Spec) := (29, ⟨[.chip], [(.list .found)], S_scan_All⟩) :: L_math_bits_Len
theorem ok_scan_All : OrcOk Try.prog (orcOf L_scan_All) := specs_cons sseat good primOk ok_math_bits_Len (by kernel_rfl) ⟨_, Try.func29, by rfl⟩ (tm := fun _ => none) (gh := fun _ _ => none) fun x y h => by
  obtain ⟨bs, b, o, n⟩ := x
  cases bs with
  | nil => cases h; exact ⟨0, 400, t_scan_All b o n⟩
  | cons => cases h
noncomputable def tm_replay_Replay : Nat → Option Tmpl := fun cx => cond (Nat.beq cx 1) (some ⟨[], [], 21, [.raw 4 1, .raw 2 1, .st .table, .raw 2 1], [J, J, .fix (.fn 13 [] []), J, .fix (.ptr 2 0 0 0), J, .fix (.ptr 3 0 0 0), J, J, .var (.list .found), .var .i, .var .i, J, J, J, J, J, J, J, J, J, J, J, J, J, J, J, .agg .table, J, J], [], []⟩) <| cond (Nat.beq cx 30) (some ⟨[], [], 21, [.raw 4 1, .raw 2 1, .raw 2 1, .raw 2 1], [J, .var .i, .fix (.fn 30 [] []), J, J, J, J, J, J, .var (.list .found), .var .i, .var .i, J, J, J, J, J, J, J, J, J, J, J, J, J, J, J, J, J, J, J], [], []⟩) <| none
noncomputable def gh_replay_Replay : Nat → Nat → Option (Nat × Nat) := fun _ _ => none
theorem t_replay_Replay (N : Nat) (a0 : Chip) (a1 : Int) : symF (seat.mk' (spOf L_scan_All) tm_replay_Replay gh_replay_Replay) N 400 17 [.chip, .i] [.table, .i] (a0, a1) = G_replay_Replay N a0 a1 := by kernel_rfl
noncomputable def L_replay_Replay : List (FuncId × Spec) := (17, ⟨[.chip, .i], [.table, .i], S_replay_Replay⟩) :: L_scan_All
theorem ok_replay_Replay : OrcOk Try.prog (orcOf L_replay_Replay) := specs_cons sseat good primOk ok_scan_All (by kernel_rfl) ⟨_, Try.func17, by rfl⟩ (tm := tm_replay_Replay) (gh := gh_replay_Replay) fun x y h => by obtain ⟨N, h⟩ := lim_spec h; exact ⟨N, 400, (t_replay_Replay N x.1 x.2).trans h⟩
noncomputable def tm_law07_awake : Nat → Option Tmpl := fun _ => none
noncomputable def gh_law07_awake : Nat → Nat → Option (Nat × Nat) := fun _ _ => none
theorem t_law07_awake (N : Nat) : symF (seat.mk' (spOf L_replay_Replay) tm_law07_awake gh_law07_awake) N 400 9 [] [.bool] () = G_law07_awake := by kernel_rfl
noncomputable def L_law07_awake : List (FuncId × Spec) := (9, ⟨[], [.bool], S_law07_awake⟩) :: L_replay_Replay
theorem ok_law07_awake : OrcOk Try.prog (orcOf L_law07_awake) := specs_cons sseat good primOk ok_replay_Replay (by kernel_rfl) ⟨_, Try.func9, by rfl⟩ (tm := tm_law07_awake) (gh := gh_law07_awake) fun x y h => ⟨0, 400, (t_law07_awake 0 ).trans h⟩
noncomputable def tm_ref07_Apply : Nat → Option Tmpl := fun cx => cond (Nat.beq cx 1) (some ⟨[], [], 92, [.raw 2 1, .st .found, .raw 2 1, .dead, .dead, .blk .i 0 false, .dead, .dead, .blk .i 0 false, .dead, .raw 2 1, .dead], [J, J, .fix (.ptr 0 0 0 0), .fix (.ptr 1 0 0 0), .fix (.ptr 2 0 0 0), .fix (.ptr 10 0 0 0), .var .i, J, .fix (.ptr 0 0 0 0), J, .fix (.bref 5 0), .fix (.ptr 0 0 0 1), J, .fix (.bref 8 0), J, J, J, J, J, J, J, J, J, J, J, J, J, J, J, J, J, J, J, J, J, J, J, J, J, J, J, J, J, J, J, J, J, J, J, J, J, J, J, J, J, J, J, J, J, J, J, J, J, J, J, J, J, J, J, J, J, J, J, J, J, J, J, J, J, J, J, J, J, J, J, J, J, J, J, J, J, J, J, J, .agg .found, J, J, .var (.list .i), .var (.list .i), .fix (.bref 5 0), .fix (.bref 8 0)], [], []⟩) <| none
noncomputable def gh_ref07_Apply : Nat → Nat → Option (Nat × Nat) := fun _ _ => none
theorem t_ref07_Apply (N : Nat) (a0 : Table) (a1 : Found) : symF (seat.mk' (spOf L_law07_awake) tm_ref07_Apply gh_ref07_Apply) N 400 14 [.table, .found] [.table] (a0, a1) = G_ref07_Apply N a0 a1 := by kernel_rfl
noncomputable def L_ref07_Apply : List (FuncId × Spec) := (14, ⟨[.table, .found], [.table], S_ref07_Apply⟩) :: L_law07_awake
theorem ok_ref07_Apply : OrcOk Try.prog (orcOf L_ref07_Apply) := specs_cons sseat good primOk ok_law07_awake (by kernel_rfl) ⟨_, Try.func14, by rfl⟩ (tm := tm_ref07_Apply) (gh := gh_ref07_Apply) fun x y h => by obtain ⟨N, h⟩ := lim_spec h; exact ⟨N, 400, (t_ref07_Apply N x.1 x.2).trans h⟩
noncomputable def tm_law07_ReplayApply : Nat → Option Tmpl := fun _ => none
noncomputable def gh_law07_ReplayApply : Nat → Nat → Option (Nat × Nat) := fun _ _ => none
theorem t_law07_ReplayApply (N : Nat) (a0 : Table) (a1 : Found) : symF (seat.mk' (spOf L_ref07_Apply) tm_law07_ReplayApply gh_law07_ReplayApply) N 400 4 [.table, .found] [.bool] (a0, a1) = G_law07_ReplayApply a0 a1 := by kernel_rfl
noncomputable def L_law07_ReplayApply : List (FuncId × Spec) := (4, ⟨[.table, .found], [.bool], S_law07_ReplayApply⟩) :: L_ref07_Apply
theorem ok_law07_ReplayApply : OrcOk Try.prog (orcOf L_law07_ReplayApply) := specs_cons sseat good primOk ok_ref07_Apply (by kernel_rfl) ⟨_, Try.func4, by rfl⟩ (tm := tm_law07_ReplayApply) (gh := gh_law07_ReplayApply) fun x y h => ⟨0, 400, (t_law07_ReplayApply 0 x.1 x.2).trans h⟩
end Clk.Ytnkakbjfdfoehaa
namespace Clk
open Go
set_option linter.unusedVariables false
end Clk
namespace Clk
open Go
set_option linter.unusedVariables false
end Clk
namespace Clk
open Go
set_option linter.unusedVariables false
end Clk
namespace Clk
open Go
set_option linter.unusedVariables false
set_option maxRecDepth 100000 in
theorem repeat_all (M : Nat) : (List.range 65).map (fun m : Nat => G_slices_Repeat (M + 8) [-1] (m : Int)) = (List.range 65).map (fun m => some (List.replicate m (-1 : Int))) := by kernel_rfl
theorem s_Repeat {n : Int} (h0 : 0 ≤ n) (h1 : n ≤ 64) : S_slices_Repeat ([-1], n) = some (List.replicate n.toNat (-1)) := by
  refine lim_eq 8 fun N hN => ?_
  obtain ⟨M, rfl⟩ : ∃ M, N = M + 8 := ⟨N - 8, by omega⟩
  have h := congrArg (fun l => l[n.toNat]?) (repeat_all M)
  have hr : n.toNat < 65 := by omega
  simp only [List.getElem?_map, List.getElem?_range hr, Option.map_some, Option.some.injEq] at h
  have e : ((n.toNat : Nat) : Int) = n := by omega
  rw [e] at h
  exact h
theorem s_replay_New (n : Int) : S_replay_New n = some (tabT n) := by
  show G_replay_New n = _
  unfold G_replay_New
  rw [s_Repeat (by omega) (by omega), some_bind', some_bind']
  unfold tabT
  rw [show (min (max n 0) 64).toNat = min n.toNat 64 by omega]
theorem s_replay_none (n : Int) : S_replay_Replay (⟨[], false, false, 0⟩, n) = some (tabT n, 0) := by
  refine lim_eq 1 fun N hN => ?_
  obtain ⟨M, rfl⟩ : ∃ M, N = M + 1 := ⟨N - 1, by omega⟩
  show G_replay_Replay (M + 1) ⟨[], false, false, 0⟩ n = _
  unfold G_replay_Replay
  rw [show S_scan_All ⟨[], false, false, 0⟩ = some [] from rfl, some_bind', s_replay_New, some_bind', iterF_succ, F_replay_Replay_L1_eq]
  unfold G_replay_Replay_L1
  simp only [List.length_nil]
  rw [decide_eq_false (by omega), cond_false, iterF_succ, F_replay_Replay_L2_eq]
  unfold G_replay_Replay_L2
  simp only
  rw [decide_eq_false (by omega), cond_false]
def awake7T : Bool :=
  let t := applyT (tabT 4) ⟨5, ⟨1, 0, [3], []⟩⟩
  let u := applyT t ⟨6, ⟨2, 0, [3], [-1]⟩⟩
  tSameT t ⟨[-1, -1, -1, 5], [-1, -1, -1, 5]⟩ && tSameT u ⟨[-1, -1, -1, -1], [-1, -1, -1, 6]⟩
theorem awake7_ok : awake7T = true := by kernel_rfl
theorem applyT_ok {t : Table} (h : TabOk t) (f : Found) : TabOk (applyT t f) := by
  obtain ⟨h1, h2⟩ := applyT_len t f
  exact ⟨by rw [h1]; exact h.1, by rw [h2]; exact h.2⟩
theorem s_law07_awake : S_law07_awake () = some true := by
  have h := awake7_ok
  unfold awake7T at h
  rw [Bool.and_eq_true] at h
  have t0 := tabT_ok 4
  have t1 := applyT_ok t0 ⟨5, ⟨1, 0, [3], []⟩⟩
  have t2 := applyT_ok t1 ⟨6, ⟨2, 0, [3], [-1]⟩⟩
  show G_law07_awake = _
  unfold G_law07_awake
  rw [s_replay_New, some_bind', s_replay_Apply t0 ⟨by simp, by simp⟩, some_bind', s_replay_Apply t1 ⟨by simp, by simp⟩, some_bind', s_replay_none, some_bind', s_ref07_Same t1, some_bind', h.1, cond_true, s_ref07_Same t2, some_bind', h.2, cond_true, decide_eq_true rfl]
theorem tSame_refl (t : Table) : tSameT t t = true := by unfold tSameT; rw [decide_eq_true rfl, decide_eq_true rfl]; rfl
end Clk
namespace Clk
open Go
set_option linter.unusedVariables false
theorem law_ReplayApply (t : Table) (f : Found) : S_law07_ReplayApply (t, f) = some true := by
  show G_law07_ReplayApply t f = _
  unfold G_law07_ReplayApply
  rw [s_law07_awake]
  simp only [some_bind', cond_true]
  by_cases c1 : 300 < t.map.length
  · rw [decide_eq_true (show (300 : Int) < t.map.length by omega), cond_true]
  · rw [decide_eq_false (show ¬ (300 : Int) < t.map.length by omega), cond_false]
    by_cases c2 : 300 < t.by_.length
    · rw [decide_eq_true (show (300 : Int) < t.by_.length by omega), cond_true]
    · rw [decide_eq_false (show ¬ (300 : Int) < t.by_.length by omega), cond_false]
      by_cases c3 : 300 < f.record.keys.length
      · rw [decide_eq_true (show (300 : Int) < f.record.keys.length by omega), cond_true]
      · rw [decide_eq_false (show ¬ (300 : Int) < f.record.keys.length by omega), cond_false]
        by_cases c4 : 300 < f.record.values.length
        · rw [decide_eq_true (show (300 : Int) < f.record.values.length by omega), cond_true]
        · rw [decide_eq_false (show ¬ (300 : Int) < f.record.values.length by omega), cond_false]
          have ht : TabOk t := ⟨by omega, by omega⟩
          have hr : RecOk f.record := ⟨by omega, by omega⟩
          rw [s_replay_Apply ht hr, some_bind', s_ref07_Apply ht hr, some_bind', s_ref07_Same (applyT_ok ht f), some_bind', tSame_refl]
end Clk
