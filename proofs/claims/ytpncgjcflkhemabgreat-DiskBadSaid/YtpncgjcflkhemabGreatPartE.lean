/- A part of the proof of DiskBad: an evaluator of the program's code that the kernel runs, its soundness, what the functions compute. -/
import Derived.Test.YtpncgjcflkhemabGreatPartD
import Derived.Test.YtpncgjcflkhemabGreatProg
import Derived.Shelf.SlSortCmp.InsertionK
import Derived.CallsIn
import Derived.Shelf.SlSortCmp.NoneTotal
import Derived.Ground.SlsfProg
import Derived.WalkKit
import Derived.StillTailTactics
import Derived.WalkSmall
import Derived.Tactics
import Derived.Tactics2
import Derived.Defers
import Derived.Recover
import Derived.BigRegion
import Derived.Deep.RegionHeld3
import Derived.KernelRfl
import Derived.IntWalk
set_option linter.unusedVariables false
set_option linter.unusedSimpArgs false
set_option maxRecDepth 1000000
namespace Go.Proofs.YtpncgjcflkhemabGreat
open Clk Go.Proofs
noncomputable def tiL : List (Option TI) := [
 none,
 some ⟨1, 8, .func, .nilFunc⟩,
 some ⟨1, 8, (.int .i64), (.int .i64 0)⟩,
 some ⟨1, 8, (.int .i64), (.int .i64 0)⟩,
 some ⟨1, 1, .bool, (.bool false)⟩,
 some ⟨1, 1, (.int .u8), (.int .u8 0)⟩,
 some ⟨1, 1, (.int .u8), (.int .u8 0)⟩,
 some ⟨4, 24, (.struct [(0, 2), (1, 3), (2, 4), (3, 6)]), (.agg [(.int .i64 0), (.int .i64 0), (.bool false), (.int .u8 0)])⟩,
 some ⟨4, 24, (.struct [(0, 2), (1, 3), (2, 4), (3, 6)]), (.agg [(.int .i64 0), (.int .i64 0), (.bool false), (.int .u8 0)])⟩,
 some ⟨1, 16, .string, (.str ⟨#[]⟩)⟩,
 some ⟨1, 16, .string, (.str ⟨#[]⟩)⟩,
 some ⟨1, 16, .string, (.str ⟨#[]⟩)⟩,
 some ⟨1, 8, (.int .u64), (.int .u64 0)⟩,
 some ⟨2, 24, (.struct [(0, 9), (1, 12)]), (.agg [(.str ⟨#[]⟩), (.int .u64 0)])⟩,
 some ⟨2, 24, (.struct [(0, 9), (1, 12)]), (.agg [(.str ⟨#[]⟩), (.int .u64 0)])⟩,
 some ⟨1, 8, (.pointer 169), .nilPtr⟩,
 some ⟨1, 8, (.pointer 172), .nilPtr⟩,
 some ⟨1, 8, (.pointer 181), .nilPtr⟩,
 some ⟨1, 8, (.struct [(0, 17)]), (.agg [.nilPtr])⟩,
 some ⟨1, 8, (.struct [(0, 17)]), (.agg [.nilPtr])⟩,
 some ⟨1, 16, .iface, .nilIface⟩,
 some ⟨1, 4, (.int .i32), (.int .i32 0)⟩,
 some ⟨1, 24, (.slice 52), (.crows [])⟩,
 some ⟨1, 8, .func, .nilFunc⟩,
 some ⟨4, 32, (.struct [(0, 3), (1, 3), (2, 3), (3, 3)]), (.agg [(.int .i64 0), (.int .i64 0), (.int .i64 0), (.int .i64 0)])⟩,
 some ⟨4, 32, (.struct [(0, 3), (1, 3), (2, 3), (3, 3)]), (.agg [(.int .i64 0), (.int .i64 0), (.int .i64 0), (.int .i64 0)])⟩,
 some ⟨1, 8, .func, .nilFunc⟩,
 some ⟨1, 24, (.slice 41), (.crows [])⟩,
 some ⟨4, 40, (.struct [(0, 27), (1, 4), (2, 4), (3, 3)]), (.agg [(.crows []), (.bool false), (.bool false), (.int .i64 0)])⟩,
 some ⟨4, 40, (.struct [(0, 27), (1, 4), (2, 4), (3, 3)]), (.agg [(.crows []), (.bool false), (.bool false), (.int .i64 0)])⟩,
 some ⟨1, 8, .func, .nilFunc⟩,
 some ⟨1, 24, (.slice 3), (.crows [])⟩,
 some ⟨2, 48, (.struct [(0, 31), (1, 31)]), (.agg [(.crows []), (.crows [])])⟩,
 some ⟨2, 48, (.struct [(0, 31), (1, 31)]), (.agg [(.crows []), (.crows [])])⟩,
 some ⟨12, 136, (.struct [(0, 25), (4, 29), (8, 33), (10, 3), (11, 3)]), (.agg [(.int .i64 0), (.int .i64 0), (.int .i64 0), (.int .i64 0), (.crows []), (.bool false), (.bool false), (.int .i64 0), (.crows []), (.crows []), (.int .i64 0), (.int .i64 0)])⟩,
 some ⟨12, 136, (.struct [(0, 25), (4, 29), (8, 33), (10, 3), (11, 3)]), (.agg [(.int .i64 0), (.int .i64 0), (.int .i64 0), (.int .i64 0), (.crows []), (.bool false), (.bool false), (.int .i64 0), (.crows []), (.crows []), (.int .i64 0), (.int .i64 0)])⟩,
 some ⟨1, 8, (.int .i64), (.int .i64 0)⟩,
 none,
 some ⟨1, 8, .func, .nilFunc⟩,
 some ⟨1, 24, (.slice 54), (.crows [])⟩,
 some ⟨4, 48, (.struct [(0, 39), (1, 3), (2, 3), (3, 4)]), (.agg [(.crows []), (.int .i64 0), (.int .i64 0), (.bool false)])⟩,
 some ⟨4, 48, (.struct [(0, 39), (1, 3), (2, 3), (3, 4)]), (.agg [(.crows []), (.int .i64 0), (.int .i64 0), (.bool false)])⟩,
 some ⟨1, 8, .func, .nilFunc⟩,
 some ⟨1, 8, .func, .nilFunc⟩,
 some ⟨1, 8, .func, .nilFunc⟩,
 some ⟨1, 8, .func, .nilFunc⟩,
 some ⟨1, 24, (.slice 9), (.crows [])⟩,
 some ⟨1, 8, .func, .nilFunc⟩,
 some ⟨1, 8, .func, .nilFunc⟩,
 some ⟨1, 24, (.slice 25), (.crows [])⟩,
 none,
 some ⟨1, 8, .func, .nilFunc⟩,
 some ⟨1, 2, (.int .u16), (.int .u16 0)⟩,
 some ⟨3, 40, (.struct [(0, 4), (1, 9), (2, 9)]), (.agg [(.bool false), (.str ⟨#[]⟩), (.str ⟨#[]⟩)])⟩,
 some ⟨3, 40, (.struct [(0, 4), (1, 9), (2, 9)]), (.agg [(.bool false), (.str ⟨#[]⟩), (.str ⟨#[]⟩)])⟩,
 some ⟨1, 8, .func, .nilFunc⟩,
 some ⟨4, 48, (.struct [(0, 3), (1, 9), (2, 9), (3, 3)]), (.agg [(.int .i64 0), (.str ⟨#[]⟩), (.str ⟨#[]⟩), (.int .i64 0)])⟩,
 some ⟨4, 48, (.struct [(0, 3), (1, 9), (2, 9), (3, 3)]), (.agg [(.int .i64 0), (.str ⟨#[]⟩), (.str ⟨#[]⟩), (.int .i64 0)])⟩,
 some ⟨1, 8, .func, .nilFunc⟩,
 some ⟨1, 8, .func, .nilFunc⟩,
 some ⟨1, 8, .func, .nilFunc⟩,
 some ⟨1, 8, .func, .nilFunc⟩,
 none,
 some ⟨1, 8, .func, .nilFunc⟩,
 some ⟨1, 8, .func, .nilFunc⟩,
 some ⟨1, 8, .func, .nilFunc⟩,
 some ⟨1, 8, .func, .nilFunc⟩,
 some ⟨1, 8, .func, .nilFunc⟩,
 some ⟨1, 8, .func, .nilFunc⟩,
 some ⟨4, 64, (.struct [(0, 3), (1, 3), (2, 31), (3, 31)]), (.agg [(.int .i64 0), (.int .i64 0), (.crows []), (.crows [])])⟩,
 some ⟨4, 64, (.struct [(0, 3), (1, 3), (2, 31), (3, 31)]), (.agg [(.int .i64 0), (.int .i64 0), (.crows []), (.crows [])])⟩,
 some ⟨1, 8, .func, .nilFunc⟩,
 none,
 some ⟨1, 8, .func, .nilFunc⟩,
 some ⟨5, 80, (.struct [(0, 9), (1, 70)]), (.agg [(.str ⟨#[]⟩), (.int .i64 0), (.int .i64 0), (.crows []), (.crows [])])⟩,
 some ⟨5, 80, (.struct [(0, 9), (1, 70)]), (.agg [(.str ⟨#[]⟩), (.int .i64 0), (.int .i64 0), (.crows []), (.crows [])])⟩,
 some ⟨1, 8, .func, .nilFunc⟩,
 some ⟨1, 8, (.pointer 41), .nilPtr⟩,
 some ⟨1, 8, .func, .nilFunc⟩,
 some ⟨1, 24, (.slice 82), (.crows [])⟩,
 some ⟨1, 8, .func, .nilFunc⟩,
 some ⟨5, 72, (.struct [(0, 3), (1, 70)]), (.agg [(.int .i64 0), (.int .i64 0), (.int .i64 0), (.crows []), (.crows [])])⟩,
 some ⟨5, 72, (.struct [(0, 3), (1, 70)]), (.agg [(.int .i64 0), (.int .i64 0), (.int .i64 0), (.crows []), (.crows [])])⟩,
 some ⟨1, 8, .func, .nilFunc⟩,
 some ⟨1, 8, .func, .nilFunc⟩,
 some ⟨1, 8, .func, .nilFunc⟩,
 some ⟨1, 8, .func, .nilFunc⟩,
 some ⟨1, 8, .func, .nilFunc⟩,
 some ⟨1, 8, .func, .nilFunc⟩,
 some ⟨1, 8, .func, .nilFunc⟩,
 none,
 some ⟨1, 8, .func, .nilFunc⟩,
 some ⟨1, 24, (.slice 4), (.crows [])⟩,
 some ⟨1, 8, .func, .nilFunc⟩,
 some ⟨1, 8, .func, .nilFunc⟩,
 none,
 some ⟨1, 8, .func, .nilFunc⟩,
 some ⟨1, 8, .func, .nilFunc⟩,
 some ⟨1, 8, .func, .nilFunc⟩,
 some ⟨1, 8, .func, .nilFunc⟩,
 none,
 some ⟨1, 8, .func, .nilFunc⟩,
 some ⟨1, 8, .func, .nilFunc⟩,
 some ⟨1, 8, .func, .nilFunc⟩,
 some ⟨1, 8, .func, .nilFunc⟩,
 some ⟨1, 8, .func, .nilFunc⟩,
 some ⟨1, 8, .func, .nilFunc⟩,
 some ⟨1, 8, .func, .nilFunc⟩,
 none,
 some ⟨1, 8, .func, .nilFunc⟩,
 some ⟨1, 8, .func, .nilFunc⟩,
 some ⟨1, 8, .func, .nilFunc⟩,
 some ⟨1, 8, .func, .nilFunc⟩,
 some ⟨1, 8, .func, .nilFunc⟩,
 some ⟨1, 8, .func, .nilFunc⟩,
 some ⟨1, 8, .func, .nilFunc⟩,
 some ⟨1, 8, .func, .nilFunc⟩,
 none,
 some ⟨1, 8, .func, .nilFunc⟩,
 some ⟨1, 8, .func, .nilFunc⟩,
 some ⟨1, 8, .func, .nilFunc⟩,
 some ⟨1, 8, (.int .u64), (.int .u64 0)⟩,
 none,
 some ⟨1, 8, .func, .nilFunc⟩,
 some ⟨1, 8, .func, .nilFunc⟩,
 some ⟨1, 8, .func, .nilFunc⟩,
 some ⟨1, 24, (.slice 5), (.crows [])⟩,
 some ⟨1, 8, .func, .nilFunc⟩,
 some ⟨1, 8, .func, .nilFunc⟩,
 some ⟨1, 8, (.int .i64), (.int .i64 0)⟩,
 none,
 some ⟨1, 8, .func, .nilFunc⟩,
 some ⟨1, 8, .func, .nilFunc⟩,
 some ⟨1, 8, .func, .nilFunc⟩,
 some ⟨1, 8, .func, .nilFunc⟩,
 some ⟨1, 8, .func, .nilFunc⟩,
 some ⟨1, 4, (.int .u32), (.int .u32 0)⟩,
 some ⟨1, 8, .func, .nilFunc⟩,
 some ⟨1, 8, (.int .u64), (.int .u64 0)⟩,
 none,
 some ⟨1, 8, .func, .nilFunc⟩,
 none,
 some ⟨1, 8, .func, .nilFunc⟩,
 some ⟨1, 8, .func, .nilFunc⟩,
 some ⟨1, 8, (.pointer 70), .nilPtr⟩,
 some ⟨1, 8, (.pointer 36), .nilPtr⟩,
 some ⟨1, 8, (.pointer 148), .nilPtr⟩,
 some ⟨1, 16, (.struct [(0, 9)]), (.agg [(.str ⟨#[]⟩)])⟩,
 some ⟨1, 16, (.struct [(0, 9)]), (.agg [(.str ⟨#[]⟩)])⟩,
 some ⟨1, 8, .func, .nilFunc⟩,
 some ⟨3, 72, (.array 3 31), (.agg [(.crows []), (.crows []), (.crows [])])⟩,
 some ⟨1, 8, (.int .u64), (.int .u64 0)⟩,
 some ⟨1, 8, .func, .nilFunc⟩,
 some ⟨1, 8, .func, .nilFunc⟩,
 some ⟨1, 8, .func, .nilFunc⟩,
 some ⟨1, 8, (.pointer 3), .nilPtr⟩,
 some ⟨1, 8, .func, .nilFunc⟩,
 none,
 some ⟨1, 8, .func, .nilFunc⟩,
 some ⟨4, 4, (.array 4 5), (.agg [(.int .u8 0), (.int .u8 0), (.int .u8 0), (.int .u8 0)])⟩,
 some ⟨1, 8, (.pointer 151), .nilPtr⟩,
 none,
 some ⟨1, 8, .func, .nilFunc⟩,
 none,
 some ⟨1, 8, .func, .nilFunc⟩,
 some ⟨1, 8, .func, .nilFunc⟩,
 some ⟨1, 8, .func, .nilFunc⟩,
 some ⟨1, 8, .func, .nilFunc⟩,
 some ⟨4, 40, (.struct [(0, 17), (1, 17), (2, 17), (3, 9)]), (.agg [.nilPtr, .nilPtr, .nilPtr, (.str ⟨#[]⟩)])⟩,
 some ⟨4, 40, (.struct [(0, 17), (1, 17), (2, 17), (3, 9)]), (.agg [.nilPtr, .nilPtr, .nilPtr, (.str ⟨#[]⟩)])⟩,
 none,
 none,
 none,
 some ⟨1, 8, .func, .nilFunc⟩,
 some ⟨1, 1, (.int .u8), (.int .u8 0)⟩,
 some ⟨1, 1, (.int .u8), (.int .u8 0)⟩,
 some ⟨1, 8, .func, .nilFunc⟩,
 some ⟨1, 8, (.pointer 5), .nilPtr⟩,
 some ⟨1, 4, (.int .i32), (.int .i32 0)⟩,
 some ⟨1, 4, (.int .i32), (.int .i32 0)⟩,
 some ⟨11, 48, (.struct [(0, 12), (1, 12), (2, 136), (3, 174), (4, 5), (5, 5), (6, 175), (7, 176), (8, 177), (9, 178), (10, 179)]), (.agg [(.int .u64 0), (.int .u64 0), (.int .u32 0), (.int .u8 0), (.int .u8 0), (.int .u8 0), (.int .u8 0), .nilFunc, .nilPtr, (.int .i32 0), (.int .i32 0)])⟩,
 some ⟨11, 48, (.struct [(0, 12), (1, 12), (2, 136), (3, 174), (4, 5), (5, 5), (6, 175), (7, 176), (8, 177), (9, 178), (10, 179)]), (.agg [(.int .u64 0), (.int .u64 0), (.int .u32 0), (.int .u8 0), (.int .u8 0), (.int .u8 0), (.int .u8 0), .nilFunc, .nilPtr, (.int .i32 0), (.int .i32 0)])⟩,
 none]
noncomputable def zL : List (Option (List SV)) := [
 none,
 some [.nilFunc],
 some [.int .i64 0],
 some [.int .i64 0],
 some [.bool false],
 some [.int .u8 0],
 some [.int .u8 0],
 some [.int .i64 0, .int .i64 0, .bool false, .int .u8 0],
 some [.int .i64 0, .int .i64 0, .bool false, .int .u8 0],
 some [.str []],
 some [.str []],
 some [.str []],
 some [.int .u64 0],
 some [.str [], .int .u64 0],
 some [.str [], .int .u64 0],
 some [.nilPtr],
 some [.nilPtr],
 some [.nilPtr],
 some [.nilPtr],
 some [.nilPtr],
 some [.nilIface],
 some [.int .i32 0],
 some [.lst true (.int .u16) []],
 some [.nilFunc],
 some [.int .i64 0, .int .i64 0, .int .i64 0, .int .i64 0],
 some [.int .i64 0, .int .i64 0, .int .i64 0, .int .i64 0],
 some [.nilFunc],
 some [.lst true .block []],
 some [.lst true .block [], .bool false, .bool false, .int .i64 0],
 some [.lst true .block [], .bool false, .bool false, .int .i64 0],
 some [.nilFunc],
 some [.lst true .i []],
 some [.lst true .i [], .lst true .i []],
 some [.lst true .i [], .lst true .i []],
 some [.int .i64 0, .int .i64 0, .int .i64 0, .int .i64 0, .lst true .block [], .bool false, .bool false, .int .i64 0, .lst true .i [], .lst true .i [], .int .i64 0, .int .i64 0],
 some [.int .i64 0, .int .i64 0, .int .i64 0, .int .i64 0, .lst true .block [], .bool false, .bool false, .int .i64 0, .lst true .i [], .lst true .i [], .int .i64 0, .int .i64 0],
 some [.int .i64 0],
 none,
 some [.nilFunc],
 some [.lst true .page []],
 some [.lst true .page [], .int .i64 0, .int .i64 0, .bool false],
 some [.lst true .page [], .int .i64 0, .int .i64 0, .bool false],
 some [.nilFunc],
 some [.nilFunc],
 some [.nilFunc],
 some [.nilFunc],
 some [.lst true .str []],
 some [.nilFunc],
 some [.nilFunc],
 some [.lst true .geometry []],
 none,
 some [.nilFunc],
 some [.int .u16 0],
 some [.bool false, .str [], .str []],
 some [.bool false, .str [], .str []],
 some [.nilFunc],
 some [.int .i64 0, .str [], .str [], .int .i64 0],
 some [.int .i64 0, .str [], .str [], .int .i64 0],
 some [.nilFunc],
 some [.nilFunc],
 some [.nilFunc],
 some [.nilFunc],
 none,
 some [.nilFunc],
 some [.nilFunc],
 some [.nilFunc],
 some [.nilFunc],
 some [.nilFunc],
 some [.nilFunc],
 some [.int .i64 0, .int .i64 0, .lst true .i [], .lst true .i []],
 some [.int .i64 0, .int .i64 0, .lst true .i [], .lst true .i []],
 some [.nilFunc],
 none,
 some [.nilFunc],
 some [.str [], .int .i64 0, .int .i64 0, .lst true .i [], .lst true .i []],
 some [.str [], .int .i64 0, .int .i64 0, .lst true .i [], .lst true .i []],
 some [.nilFunc],
 some [.nilPtr],
 some [.nilFunc],
 some [.lst true .found []],
 some [.nilFunc],
 some [.int .i64 0, .int .i64 0, .int .i64 0, .lst true .i [], .lst true .i []],
 some [.int .i64 0, .int .i64 0, .int .i64 0, .lst true .i [], .lst true .i []],
 some [.nilFunc],
 some [.nilFunc],
 some [.nilFunc],
 some [.nilFunc],
 some [.nilFunc],
 some [.nilFunc],
 some [.nilFunc],
 none,
 some [.nilFunc],
 some [.lst true .bool []],
 some [.nilFunc],
 some [.nilFunc],
 none,
 some [.nilFunc],
 some [.nilFunc],
 some [.nilFunc],
 some [.nilFunc],
 none,
 some [.nilFunc],
 some [.nilFunc],
 some [.nilFunc],
 some [.nilFunc],
 some [.nilFunc],
 some [.nilFunc],
 some [.nilFunc],
 none,
 some [.nilFunc],
 some [.nilFunc],
 some [.nilFunc],
 some [.nilFunc],
 some [.nilFunc],
 some [.nilFunc],
 some [.nilFunc],
 some [.nilFunc],
 none,
 some [.nilFunc],
 some [.nilFunc],
 some [.nilFunc],
 some [.int .u64 0],
 none,
 some [.nilFunc],
 some [.nilFunc],
 some [.nilFunc],
 some [.lst true (.int .u8) []],
 some [.nilFunc],
 some [.nilFunc],
 some [.int .i64 0],
 none,
 some [.nilFunc],
 some [.nilFunc],
 some [.nilFunc],
 some [.nilFunc],
 some [.nilFunc],
 some [.int .u32 0],
 some [.nilFunc],
 some [.int .u64 0],
 none,
 some [.nilFunc],
 none,
 some [.nilFunc],
 some [.nilFunc],
 some [.nilPtr],
 some [.nilPtr],
 some [.nilPtr],
 some [.str []],
 some [.str []],
 some [.nilFunc],
 some [.lst true .i [], .lst true .i [], .lst true .i []],
 some [.int .u64 0],
 some [.nilFunc],
 some [.nilFunc],
 some [.nilFunc],
 some [.nilPtr],
 some [.nilFunc],
 none,
 some [.nilFunc],
 some [.int .u8 0, .int .u8 0, .int .u8 0, .int .u8 0],
 some [.nilPtr],
 none,
 some [.nilFunc],
 none,
 some [.nilFunc],
 some [.nilFunc],
 some [.nilFunc],
 some [.nilFunc],
 some [.nilPtr, .nilPtr, .nilPtr, .str []],
 some [.nilPtr, .nilPtr, .nilPtr, .str []],
 none,
 none,
 none,
 some [.nilFunc],
 some [.int .u8 0],
 some [.int .u8 0],
 some [.nilFunc],
 some [.nilPtr],
 some [.int .i32 0],
 some [.int .i32 0],
 some [.int .u64 0, .int .u64 0, .int .u32 0, .int .u8 0, .int .u8 0, .int .u8 0, .int .u8 0, .nilFunc, .nilPtr, .int .i32 0, .int .i32 0],
 some [.int .u64 0, .int .u64 0, .int .u32 0, .int .u8 0, .int .u8 0, .int .u8 0, .int .u8 0, .nilFunc, .nilPtr, .int .i32 0, .int .i32 0],
 none]
noncomputable def ecL : List (Option TC) := [
 none,
 none,
 some .i,
 some .i,
 some .bool,
 some (.int .u8),
 some (.int .u8),
 none,
 none,
 some .str,
 some .str,
 some .str,
 some (.int .u64),
 none,
 none,
 none,
 none,
 none,
 none,
 none,
 none,
 some (.int .i32),
 some (.list (.int .u16)),
 none,
 none,
 some .geometry,
 none,
 some (.list .block),
 none,
 some .chip,
 none,
 some (.list .i),
 none,
 some .table,
 none,
 some .device,
 some .i,
 none,
 none,
 some (.list .page),
 none,
 some .block,
 none,
 none,
 none,
 none,
 some (.list .str),
 none,
 none,
 some (.list .geometry),
 none,
 none,
 some (.int .u16),
 none,
 some .page,
 none,
 none,
 some .fate,
 none,
 none,
 none,
 none,
 none,
 none,
 none,
 none,
 none,
 none,
 none,
 none,
 some .record,
 none,
 none,
 none,
 none,
 some .write,
 none,
 none,
 none,
 some (.list .found),
 none,
 none,
 some .found,
 none,
 none,
 none,
 none,
 none,
 none,
 none,
 none,
 none,
 some (.list .bool),
 none,
 none,
 none,
 none,
 none,
 none,
 none,
 none,
 none,
 none,
 none,
 none,
 none,
 none,
 none,
 none,
 none,
 none,
 none,
 none,
 none,
 none,
 none,
 none,
 none,
 none,
 none,
 none,
 some (.int .u64),
 none,
 none,
 none,
 none,
 some (.list (.int .u8)),
 none,
 none,
 some .i,
 none,
 none,
 none,
 none,
 none,
 none,
 some (.int .u32),
 none,
 some (.int .u64),
 none,
 none,
 none,
 none,
 none,
 none,
 none,
 none,
 none,
 none,
 none,
 none,
 some (.int .u64),
 none,
 none,
 none,
 none,
 none,
 none,
 none,
 none,
 none,
 none,
 none,
 none,
 none,
 none,
 none,
 none,
 none,
 none,
 none,
 none,
 none,
 none,
 some (.int .u8),
 some (.int .u8),
 none,
 none,
 some (.int .i32),
 some (.int .i32),
 none,
 none,
 none]
noncomputable def eqL : List Bool := [false, false, false, false, false, false, false, true, true, false, false, false, false, false, false, false, false, false, false, false, false, false, false, false, true, true, false, false, true, true, false, false, true, true, true, true, false, false, false, false, true, true, false, false, false, false, false, false, false, false, false, false, false, true, true, false, true, true, false, false, false, false, false, false, false, false, false, false, false, true, true, false, false, false, true, true, false, false, false, false, false, true, true, false, false, false, false, false, false, false, false, false, false, false, false, false, false, false, false, false, false, false, false, false, false, false, false, false, false, false, false, false, false, false, false, false, false, false, false, false, false, false, false, false, false, false, false, false, false, false, false, false, false, false, false, false, false, false, false, false, false, false, false, false, false, false, false, true, true, false, false, false, false, false, false, false, false, false, false, false, false, false, false, false, false, false, false, false, false, false, false, false, false, false, false, false, false, false, false, false, false, false, false]
noncomputable def fnL : List (Option Go.Func) := [none, none, none, some Tryz.f3, some Tryz.f4, some Tryz.f5, some Tryz.f6, some Tryz.f7, some Tryz.f8, some Tryz.f9, some Tryz.f10, some Tryz.f11, some Tryz.f12, some Tryz.f13, some Tryz.f14, some Tryz.f15, some Tryz.f16, some Tryz.f17, some Tryz.f18, some Tryz.f19, some Tryz.f20, some Tryz.f21, some Tryz.f22, some Tryz.f23, some Tryz.f24, some Tryz.f25, some Tryz.f26, some Tryz.f27, some Tryz.f28, some Tryz.f29, some Tryz.f30, some Tryz.f31, some Tryz.f32, some Tryz.f33, some Tryz.f34, some Tryz.f35, some Tryz.f36, some Tryz.f37, some Tryz.f38, some Tryz.f39, some Tryz.f40, some Tryz.f41, some Tryz.f42, some Tryz.f43, some Tryz.f44, some Tryz.f45, some Tryz.f46, some Tryz.f47, some Tryz.f48, some Tryz.f49, some Tryz.f50, some Tryz.f51, some Tryz.f52, some Tryz.f53, some Tryz.f54, some Tryz.f55, some Tryz.f56, some Tryz.f57, some Tryz.f58, some Tryz.f59, some Tryz.f60, some Tryz.f61, some Tryz.f62, some Tryz.f63, some Tryz.f64, some Tryz.f65, some Tryz.f66, some Tryz.f67, some Tryz.f68, some Tryz.f69, some Tryz.f70, some Tryz.f71, some Tryz.f72, some Tryz.f73, some Tryz.f74, some Tryz.f75, some Tryz.f76, some Tryz.f77, some Tryz.f78, some Tryz.f79, some Tryz.f80, some Tryz.f81, some Tryz.f82, some Tryz.f83, some Tryz.f84, some Tryz.f85, some Tryz.f86, some Tryz.f87, some Tryz.f88, some Tryz.f89, some Tryz.f90, some Tryz.f91, some Tryz.f92, some Tryz.f93, some Tryz.f94, some Tryz.f95, some Tryz.f96, some Tryz.f97, some Tryz.f98, some Tryz.f99, some Tryz.f100, some Tryz.f101, some Tryz.f102, some Tryz.f103, some Tryz.f104, some Tryz.f105, some Tryz.f106, none, none, none, none, none, none, none, none, none, none, none, none, none, none, none, none]
noncomputable def inlL : List Bool := [false, false, false, false, false, false, false, false, true, false, false, false, false, false, false, false, false, true, true, false, false, true, true, false, false, false, false, false, false, false, false, false, false, true, true, false, false, true, true, true, false, false, true, false, true, false, true, true, false, false, false, false, false, true, false, false, false, false, false, true, false, false, true, false, false, false, false, false, false, false, false, true, true, true, true, true, true, true, true, false, false, false, false, false, false, false, false, false, false, false, false, true, false, false, true, true, false, true, false, false, true, false, true, false, true, false, false, false, false, false, false, false, false, false, false, false, false, false, false, false, false, false, false]
noncomputable def clL : List (Option (TC × Nat)) := [none, none, none, none, none, none, none, none, none, none, none, none, none, none, none, none, none, none, none, none, none, none, none, none, none, none, none, none, none, none, none, none, none, none, none, none, none, none, none, none, none, none, none, none, none, none, some (.found, 1000047), none, none, none, none, some (.i, 8), none, none, none, none, none, none, none, none, none, none, none, none, none, none, none, none, none, none, none, none, none, none, none, none, none, none, none, none, none, none, none, none, none, none, none, none, none, none, none, none, none, none, none, none, none, none, none, none, none, none, none, none, none, none, none, none, none, none, none, none, none, none, none, none, none, none, none, none, none, none, none]
noncomputable def z2g : Seat := ⟨tiL, zL, ecL, eqL, fnL, inlL, clL⟩
theorem z05e : z2g.Ok Tryz.prog where
 ti := by kernel_rfl
 zero := by kernel_rfl
 zs := by kernel_rfl
 ec := by kernel_rfl
 eci := by kernel_rfl
 flds := by kernel_rfl
 eq := by kernel_rfl
 fn := by kernel_rfl
theorem z06 : SeatOk Tryz.prog z2g.inlF z2g.prim z2g.mk' := z05e.seatOk
end Go.Proofs.YtpncgjcflkhemabGreat
namespace Go.Proofs.YtpncgjcflkhemabGreat
open Go Go.Proofs Clk
theorem ti0 : ti Tryz.prog 0 = some ⟨1, 0, .other, (.tup [])⟩ := by kernel_rfl
theorem ti1 : ti Tryz.prog 1 = some ⟨1, 8, .func, .nilFunc⟩ := by kernel_rfl
theorem ti2 : ti Tryz.prog 2 = some ⟨1, 8, (.int .i64), (.int .i64 0)⟩ := by kernel_rfl
theorem ti3 : ti Tryz.prog 3 = some ⟨1, 8, (.int .i64), (.int .i64 0)⟩ := by kernel_rfl
theorem ti4 : ti Tryz.prog 4 = some ⟨1, 1, .bool, (.bool false)⟩ := by kernel_rfl
theorem ti5 : ti Tryz.prog 5 = some ⟨1, 1, (.int .u8), (.int .u8 0)⟩ := by kernel_rfl
theorem ti6 : ti Tryz.prog 6 = some ⟨1, 1, (.int .u8), (.int .u8 0)⟩ := by kernel_rfl
theorem ti7 : ti Tryz.prog 7 = some ⟨4, 24, (.struct [(0, 2), (1, 3), (2, 4), (3, 6)]), (.agg [(.int .i64 0), (.int .i64 0), (.bool false), (.int .u8 0)])⟩ := by kernel_rfl
theorem ti8 : ti Tryz.prog 8 = some ⟨4, 24, (.struct [(0, 2), (1, 3), (2, 4), (3, 6)]), (.agg [(.int .i64 0), (.int .i64 0), (.bool false), (.int .u8 0)])⟩ := by kernel_rfl
theorem ti9 : ti Tryz.prog 9 = some ⟨1, 16, .string, (.str ⟨#[]⟩)⟩ := by kernel_rfl
theorem ti10 : ti Tryz.prog 10 = some ⟨1, 16, .string, (.str ⟨#[]⟩)⟩ := by kernel_rfl
theorem ti11 : ti Tryz.prog 11 = some ⟨1, 16, .string, (.str ⟨#[]⟩)⟩ := by kernel_rfl
theorem ti12 : ti Tryz.prog 12 = some ⟨1, 8, (.int .u64), (.int .u64 0)⟩ := by kernel_rfl
theorem ti13 : ti Tryz.prog 13 = some ⟨2, 24, (.struct [(0, 9), (1, 12)]), (.agg [(.str ⟨#[]⟩), (.int .u64 0)])⟩ := by kernel_rfl
theorem ti14 : ti Tryz.prog 14 = some ⟨2, 24, (.struct [(0, 9), (1, 12)]), (.agg [(.str ⟨#[]⟩), (.int .u64 0)])⟩ := by kernel_rfl
theorem ti15 : ti Tryz.prog 15 = some ⟨1, 8, (.pointer 169), .nilPtr⟩ := by kernel_rfl
theorem ti16 : ti Tryz.prog 16 = some ⟨1, 8, (.pointer 172), .nilPtr⟩ := by kernel_rfl
theorem ti17 : ti Tryz.prog 17 = some ⟨1, 8, (.pointer 181), .nilPtr⟩ := by kernel_rfl
theorem ti18 : ti Tryz.prog 18 = some ⟨1, 8, (.struct [(0, 17)]), (.agg [.nilPtr])⟩ := by kernel_rfl
theorem ti19 : ti Tryz.prog 19 = some ⟨1, 8, (.struct [(0, 17)]), (.agg [.nilPtr])⟩ := by kernel_rfl
theorem ti20 : ti Tryz.prog 20 = some ⟨1, 16, .iface, .nilIface⟩ := by kernel_rfl
theorem ti21 : ti Tryz.prog 21 = some ⟨1, 4, (.int .i32), (.int .i32 0)⟩ := by kernel_rfl
theorem ti22 : ti Tryz.prog 22 = some ⟨1, 24, (.slice 52), (.crows [])⟩ := by kernel_rfl
theorem ti23 : ti Tryz.prog 23 = some ⟨1, 8, .func, .nilFunc⟩ := by kernel_rfl
theorem ti24 : ti Tryz.prog 24 = some ⟨4, 32, (.struct [(0, 3), (1, 3), (2, 3), (3, 3)]), (.agg [(.int .i64 0), (.int .i64 0), (.int .i64 0), (.int .i64 0)])⟩ := by kernel_rfl
theorem ti25 : ti Tryz.prog 25 = some ⟨4, 32, (.struct [(0, 3), (1, 3), (2, 3), (3, 3)]), (.agg [(.int .i64 0), (.int .i64 0), (.int .i64 0), (.int .i64 0)])⟩ := by kernel_rfl
theorem ti26 : ti Tryz.prog 26 = some ⟨1, 8, .func, .nilFunc⟩ := by kernel_rfl
theorem ti27 : ti Tryz.prog 27 = some ⟨1, 24, (.slice 41), (.crows [])⟩ := by kernel_rfl
theorem ti28 : ti Tryz.prog 28 = some ⟨4, 40, (.struct [(0, 27), (1, 4), (2, 4), (3, 3)]), (.agg [(.crows []), (.bool false), (.bool false), (.int .i64 0)])⟩ := by kernel_rfl
theorem ti29 : ti Tryz.prog 29 = some ⟨4, 40, (.struct [(0, 27), (1, 4), (2, 4), (3, 3)]), (.agg [(.crows []), (.bool false), (.bool false), (.int .i64 0)])⟩ := by kernel_rfl
theorem ti30 : ti Tryz.prog 30 = some ⟨1, 8, .func, .nilFunc⟩ := by kernel_rfl
theorem ti31 : ti Tryz.prog 31 = some ⟨1, 24, (.slice 3), (.crows [])⟩ := by kernel_rfl
theorem ti32 : ti Tryz.prog 32 = some ⟨2, 48, (.struct [(0, 31), (1, 31)]), (.agg [(.crows []), (.crows [])])⟩ := by kernel_rfl
theorem ti33 : ti Tryz.prog 33 = some ⟨2, 48, (.struct [(0, 31), (1, 31)]), (.agg [(.crows []), (.crows [])])⟩ := by kernel_rfl
theorem ti34 : ti Tryz.prog 34 = some ⟨12, 136, (.struct [(0, 25), (4, 29), (8, 33), (10, 3), (11, 3)]), (.agg [(.int .i64 0), (.int .i64 0), (.int .i64 0), (.int .i64 0), (.crows []), (.bool false), (.bool false), (.int .i64 0), (.crows []), (.crows []), (.int .i64 0), (.int .i64 0)])⟩ := by kernel_rfl
theorem ti35 : ti Tryz.prog 35 = some ⟨12, 136, (.struct [(0, 25), (4, 29), (8, 33), (10, 3), (11, 3)]), (.agg [(.int .i64 0), (.int .i64 0), (.int .i64 0), (.int .i64 0), (.crows []), (.bool false), (.bool false), (.int .i64 0), (.crows []), (.crows []), (.int .i64 0), (.int .i64 0)])⟩ := by kernel_rfl
theorem ti36 : ti Tryz.prog 36 = some ⟨1, 8, (.int .i64), (.int .i64 0)⟩ := by kernel_rfl
theorem ti37 : ti Tryz.prog 37 = some ⟨1, 0, .other, .undef⟩ := by kernel_rfl
theorem ti38 : ti Tryz.prog 38 = some ⟨1, 8, .func, .nilFunc⟩ := by kernel_rfl
theorem ti39 : ti Tryz.prog 39 = some ⟨1, 24, (.slice 54), (.crows [])⟩ := by kernel_rfl
theorem ti40 : ti Tryz.prog 40 = some ⟨4, 48, (.struct [(0, 39), (1, 3), (2, 3), (3, 4)]), (.agg [(.crows []), (.int .i64 0), (.int .i64 0), (.bool false)])⟩ := by kernel_rfl
theorem ti41 : ti Tryz.prog 41 = some ⟨4, 48, (.struct [(0, 39), (1, 3), (2, 3), (3, 4)]), (.agg [(.crows []), (.int .i64 0), (.int .i64 0), (.bool false)])⟩ := by kernel_rfl
theorem ti42 : ti Tryz.prog 42 = some ⟨1, 8, .func, .nilFunc⟩ := by kernel_rfl
theorem ti43 : ti Tryz.prog 43 = some ⟨1, 8, .func, .nilFunc⟩ := by kernel_rfl
theorem ti44 : ti Tryz.prog 44 = some ⟨1, 8, .func, .nilFunc⟩ := by kernel_rfl
theorem ti45 : ti Tryz.prog 45 = some ⟨1, 8, .func, .nilFunc⟩ := by kernel_rfl
theorem ti46 : ti Tryz.prog 46 = some ⟨1, 24, (.slice 9), (.crows [])⟩ := by kernel_rfl
theorem ti47 : ti Tryz.prog 47 = some ⟨1, 8, .func, .nilFunc⟩ := by kernel_rfl
theorem ti48 : ti Tryz.prog 48 = some ⟨1, 8, .func, .nilFunc⟩ := by kernel_rfl
theorem ti49 : ti Tryz.prog 49 = some ⟨1, 24, (.slice 25), (.crows [])⟩ := by kernel_rfl
theorem ti50 : ti Tryz.prog 50 = some ⟨1, 0, .other, .undef⟩ := by kernel_rfl
theorem ti51 : ti Tryz.prog 51 = some ⟨1, 8, .func, .nilFunc⟩ := by kernel_rfl
theorem ti52 : ti Tryz.prog 52 = some ⟨1, 2, (.int .u16), (.int .u16 0)⟩ := by kernel_rfl
theorem ti53 : ti Tryz.prog 53 = some ⟨3, 40, (.struct [(0, 4), (1, 9), (2, 9)]), (.agg [(.bool false), (.str ⟨#[]⟩), (.str ⟨#[]⟩)])⟩ := by kernel_rfl
theorem ti54 : ti Tryz.prog 54 = some ⟨3, 40, (.struct [(0, 4), (1, 9), (2, 9)]), (.agg [(.bool false), (.str ⟨#[]⟩), (.str ⟨#[]⟩)])⟩ := by kernel_rfl
theorem ti55 : ti Tryz.prog 55 = some ⟨1, 8, .func, .nilFunc⟩ := by kernel_rfl
theorem ti56 : ti Tryz.prog 56 = some ⟨4, 48, (.struct [(0, 3), (1, 9), (2, 9), (3, 3)]), (.agg [(.int .i64 0), (.str ⟨#[]⟩), (.str ⟨#[]⟩), (.int .i64 0)])⟩ := by kernel_rfl
theorem ti57 : ti Tryz.prog 57 = some ⟨4, 48, (.struct [(0, 3), (1, 9), (2, 9), (3, 3)]), (.agg [(.int .i64 0), (.str ⟨#[]⟩), (.str ⟨#[]⟩), (.int .i64 0)])⟩ := by kernel_rfl
theorem ti58 : ti Tryz.prog 58 = some ⟨1, 8, .func, .nilFunc⟩ := by kernel_rfl
theorem ti59 : ti Tryz.prog 59 = some ⟨1, 8, .func, .nilFunc⟩ := by kernel_rfl
theorem ti60 : ti Tryz.prog 60 = some ⟨1, 8, .func, .nilFunc⟩ := by kernel_rfl
theorem ti61 : ti Tryz.prog 61 = some ⟨1, 8, .func, .nilFunc⟩ := by kernel_rfl
theorem ti62 : ti Tryz.prog 62 = some ⟨1, 0, .other, .undef⟩ := by kernel_rfl
theorem ti63 : ti Tryz.prog 63 = some ⟨1, 8, .func, .nilFunc⟩ := by kernel_rfl
theorem ti64 : ti Tryz.prog 64 = some ⟨1, 8, .func, .nilFunc⟩ := by kernel_rfl
theorem ti65 : ti Tryz.prog 65 = some ⟨1, 8, .func, .nilFunc⟩ := by kernel_rfl
theorem ti66 : ti Tryz.prog 66 = some ⟨1, 8, .func, .nilFunc⟩ := by kernel_rfl
theorem ti67 : ti Tryz.prog 67 = some ⟨1, 8, .func, .nilFunc⟩ := by kernel_rfl
theorem ti68 : ti Tryz.prog 68 = some ⟨1, 8, .func, .nilFunc⟩ := by kernel_rfl
theorem ti69 : ti Tryz.prog 69 = some ⟨4, 64, (.struct [(0, 3), (1, 3), (2, 31), (3, 31)]), (.agg [(.int .i64 0), (.int .i64 0), (.crows []), (.crows [])])⟩ := by kernel_rfl
theorem ti70 : ti Tryz.prog 70 = some ⟨4, 64, (.struct [(0, 3), (1, 3), (2, 31), (3, 31)]), (.agg [(.int .i64 0), (.int .i64 0), (.crows []), (.crows [])])⟩ := by kernel_rfl
theorem ti71 : ti Tryz.prog 71 = some ⟨1, 8, .func, .nilFunc⟩ := by kernel_rfl
theorem ti72 : ti Tryz.prog 72 = some ⟨1, 0, .other, .undef⟩ := by kernel_rfl
theorem ti73 : ti Tryz.prog 73 = some ⟨1, 8, .func, .nilFunc⟩ := by kernel_rfl
theorem ti74 : ti Tryz.prog 74 = some ⟨5, 80, (.struct [(0, 9), (1, 70)]), (.agg [(.str ⟨#[]⟩), (.int .i64 0), (.int .i64 0), (.crows []), (.crows [])])⟩ := by kernel_rfl
theorem ti75 : ti Tryz.prog 75 = some ⟨5, 80, (.struct [(0, 9), (1, 70)]), (.agg [(.str ⟨#[]⟩), (.int .i64 0), (.int .i64 0), (.crows []), (.crows [])])⟩ := by kernel_rfl
theorem ti76 : ti Tryz.prog 76 = some ⟨1, 8, .func, .nilFunc⟩ := by kernel_rfl
theorem ti77 : ti Tryz.prog 77 = some ⟨1, 8, (.pointer 41), .nilPtr⟩ := by kernel_rfl
theorem ti78 : ti Tryz.prog 78 = some ⟨1, 8, .func, .nilFunc⟩ := by kernel_rfl
theorem ti79 : ti Tryz.prog 79 = some ⟨1, 24, (.slice 82), (.crows [])⟩ := by kernel_rfl
theorem ti80 : ti Tryz.prog 80 = some ⟨1, 8, .func, .nilFunc⟩ := by kernel_rfl
theorem ti81 : ti Tryz.prog 81 = some ⟨5, 72, (.struct [(0, 3), (1, 70)]), (.agg [(.int .i64 0), (.int .i64 0), (.int .i64 0), (.crows []), (.crows [])])⟩ := by kernel_rfl
theorem ti82 : ti Tryz.prog 82 = some ⟨5, 72, (.struct [(0, 3), (1, 70)]), (.agg [(.int .i64 0), (.int .i64 0), (.int .i64 0), (.crows []), (.crows [])])⟩ := by kernel_rfl
theorem ti83 : ti Tryz.prog 83 = some ⟨1, 8, .func, .nilFunc⟩ := by kernel_rfl
theorem ti84 : ti Tryz.prog 84 = some ⟨1, 8, .func, .nilFunc⟩ := by kernel_rfl
theorem ti85 : ti Tryz.prog 85 = some ⟨1, 8, .func, .nilFunc⟩ := by kernel_rfl
theorem ti86 : ti Tryz.prog 86 = some ⟨1, 8, .func, .nilFunc⟩ := by kernel_rfl
theorem ti87 : ti Tryz.prog 87 = some ⟨1, 8, .func, .nilFunc⟩ := by kernel_rfl
theorem ti88 : ti Tryz.prog 88 = some ⟨1, 8, .func, .nilFunc⟩ := by kernel_rfl
theorem ti89 : ti Tryz.prog 89 = some ⟨1, 8, .func, .nilFunc⟩ := by kernel_rfl
theorem ti90 : ti Tryz.prog 90 = some ⟨1, 0, .other, .undef⟩ := by kernel_rfl
theorem ti91 : ti Tryz.prog 91 = some ⟨1, 8, .func, .nilFunc⟩ := by kernel_rfl
theorem ti92 : ti Tryz.prog 92 = some ⟨1, 24, (.slice 4), (.crows [])⟩ := by kernel_rfl
theorem ti93 : ti Tryz.prog 93 = some ⟨1, 8, .func, .nilFunc⟩ := by kernel_rfl
theorem ti94 : ti Tryz.prog 94 = some ⟨1, 8, .func, .nilFunc⟩ := by kernel_rfl
theorem ti95 : ti Tryz.prog 95 = some ⟨1, 0, .other, .undef⟩ := by kernel_rfl
theorem ti96 : ti Tryz.prog 96 = some ⟨1, 8, .func, .nilFunc⟩ := by kernel_rfl
theorem ti97 : ti Tryz.prog 97 = some ⟨1, 8, .func, .nilFunc⟩ := by kernel_rfl
theorem ti98 : ti Tryz.prog 98 = some ⟨1, 8, .func, .nilFunc⟩ := by kernel_rfl
theorem ti99 : ti Tryz.prog 99 = some ⟨1, 8, .func, .nilFunc⟩ := by kernel_rfl
theorem ti100 : ti Tryz.prog 100 = some ⟨1, 0, .other, .undef⟩ := by kernel_rfl
theorem ti101 : ti Tryz.prog 101 = some ⟨1, 8, .func, .nilFunc⟩ := by kernel_rfl
theorem ti102 : ti Tryz.prog 102 = some ⟨1, 8, .func, .nilFunc⟩ := by kernel_rfl
theorem ti103 : ti Tryz.prog 103 = some ⟨1, 8, .func, .nilFunc⟩ := by kernel_rfl
theorem ti104 : ti Tryz.prog 104 = some ⟨1, 8, .func, .nilFunc⟩ := by kernel_rfl
theorem ti105 : ti Tryz.prog 105 = some ⟨1, 8, .func, .nilFunc⟩ := by kernel_rfl
theorem ti106 : ti Tryz.prog 106 = some ⟨1, 8, .func, .nilFunc⟩ := by kernel_rfl
theorem ti107 : ti Tryz.prog 107 = some ⟨1, 8, .func, .nilFunc⟩ := by kernel_rfl
theorem ti108 : ti Tryz.prog 108 = some ⟨1, 0, .other, .undef⟩ := by kernel_rfl
theorem ti109 : ti Tryz.prog 109 = some ⟨1, 8, .func, .nilFunc⟩ := by kernel_rfl
theorem ti110 : ti Tryz.prog 110 = some ⟨1, 8, .func, .nilFunc⟩ := by kernel_rfl
theorem ti111 : ti Tryz.prog 111 = some ⟨1, 8, .func, .nilFunc⟩ := by kernel_rfl
theorem ti112 : ti Tryz.prog 112 = some ⟨1, 8, .func, .nilFunc⟩ := by kernel_rfl
theorem ti113 : ti Tryz.prog 113 = some ⟨1, 8, .func, .nilFunc⟩ := by kernel_rfl
theorem ti114 : ti Tryz.prog 114 = some ⟨1, 8, .func, .nilFunc⟩ := by kernel_rfl
theorem ti115 : ti Tryz.prog 115 = some ⟨1, 8, .func, .nilFunc⟩ := by kernel_rfl
theorem ti116 : ti Tryz.prog 116 = some ⟨1, 8, .func, .nilFunc⟩ := by kernel_rfl
theorem ti117 : ti Tryz.prog 117 = some ⟨1, 0, .other, .undef⟩ := by kernel_rfl
theorem ti118 : ti Tryz.prog 118 = some ⟨1, 8, .func, .nilFunc⟩ := by kernel_rfl
theorem ti119 : ti Tryz.prog 119 = some ⟨1, 8, .func, .nilFunc⟩ := by kernel_rfl
theorem ti120 : ti Tryz.prog 120 = some ⟨1, 8, .func, .nilFunc⟩ := by kernel_rfl
theorem ti121 : ti Tryz.prog 121 = some ⟨1, 8, (.int .u64), (.int .u64 0)⟩ := by kernel_rfl
theorem ti122 : ti Tryz.prog 122 = some ⟨1, 0, .other, .undef⟩ := by kernel_rfl
theorem ti123 : ti Tryz.prog 123 = some ⟨1, 8, .func, .nilFunc⟩ := by kernel_rfl
theorem ti124 : ti Tryz.prog 124 = some ⟨1, 8, .func, .nilFunc⟩ := by kernel_rfl
theorem ti125 : ti Tryz.prog 125 = some ⟨1, 8, .func, .nilFunc⟩ := by kernel_rfl
theorem ti126 : ti Tryz.prog 126 = some ⟨1, 24, (.slice 5), (.crows [])⟩ := by kernel_rfl
theorem ti127 : ti Tryz.prog 127 = some ⟨1, 8, .func, .nilFunc⟩ := by kernel_rfl
theorem ti128 : ti Tryz.prog 128 = some ⟨1, 8, .func, .nilFunc⟩ := by kernel_rfl
theorem ti129 : ti Tryz.prog 129 = some ⟨1, 8, (.int .i64), (.int .i64 0)⟩ := by kernel_rfl
theorem ti130 : ti Tryz.prog 130 = some ⟨1, 0, .other, .undef⟩ := by kernel_rfl
theorem ti131 : ti Tryz.prog 131 = some ⟨1, 8, .func, .nilFunc⟩ := by kernel_rfl
theorem ti132 : ti Tryz.prog 132 = some ⟨1, 8, .func, .nilFunc⟩ := by kernel_rfl
theorem ti133 : ti Tryz.prog 133 = some ⟨1, 8, .func, .nilFunc⟩ := by kernel_rfl
theorem ti134 : ti Tryz.prog 134 = some ⟨1, 8, .func, .nilFunc⟩ := by kernel_rfl
theorem ti135 : ti Tryz.prog 135 = some ⟨1, 8, .func, .nilFunc⟩ := by kernel_rfl
theorem ti136 : ti Tryz.prog 136 = some ⟨1, 4, (.int .u32), (.int .u32 0)⟩ := by kernel_rfl
theorem ti137 : ti Tryz.prog 137 = some ⟨1, 8, .func, .nilFunc⟩ := by kernel_rfl
theorem ti138 : ti Tryz.prog 138 = some ⟨1, 8, (.int .u64), (.int .u64 0)⟩ := by kernel_rfl
theorem ti139 : ti Tryz.prog 139 = some ⟨1, 0, .other, .undef⟩ := by kernel_rfl
theorem ti140 : ti Tryz.prog 140 = some ⟨1, 8, .func, .nilFunc⟩ := by kernel_rfl
theorem ti141 : ti Tryz.prog 141 = some ⟨1, 0, .other, .undef⟩ := by kernel_rfl
theorem ti142 : ti Tryz.prog 142 = some ⟨1, 8, .func, .nilFunc⟩ := by kernel_rfl
theorem ti143 : ti Tryz.prog 143 = some ⟨1, 8, .func, .nilFunc⟩ := by kernel_rfl
theorem ti144 : ti Tryz.prog 144 = some ⟨1, 8, (.pointer 70), .nilPtr⟩ := by kernel_rfl
theorem ti145 : ti Tryz.prog 145 = some ⟨1, 8, (.pointer 36), .nilPtr⟩ := by kernel_rfl
theorem ti146 : ti Tryz.prog 146 = some ⟨1, 8, (.pointer 148), .nilPtr⟩ := by kernel_rfl
theorem ti147 : ti Tryz.prog 147 = some ⟨1, 16, (.struct [(0, 9)]), (.agg [(.str ⟨#[]⟩)])⟩ := by kernel_rfl
theorem ti148 : ti Tryz.prog 148 = some ⟨1, 16, (.struct [(0, 9)]), (.agg [(.str ⟨#[]⟩)])⟩ := by kernel_rfl
theorem ti149 : ti Tryz.prog 149 = some ⟨1, 8, .func, .nilFunc⟩ := by kernel_rfl
theorem ti150 : ti Tryz.prog 150 = some ⟨3, 72, (.array 3 31), (.agg [(.crows []), (.crows []), (.crows [])])⟩ := by kernel_rfl
theorem ti151 : ti Tryz.prog 151 = some ⟨1, 8, (.int .u64), (.int .u64 0)⟩ := by kernel_rfl
theorem ti152 : ti Tryz.prog 152 = some ⟨1, 8, .func, .nilFunc⟩ := by kernel_rfl
theorem ti153 : ti Tryz.prog 153 = some ⟨1, 8, .func, .nilFunc⟩ := by kernel_rfl
theorem ti154 : ti Tryz.prog 154 = some ⟨1, 8, .func, .nilFunc⟩ := by kernel_rfl
theorem ti155 : ti Tryz.prog 155 = some ⟨1, 8, (.pointer 3), .nilPtr⟩ := by kernel_rfl
theorem ti156 : ti Tryz.prog 156 = some ⟨1, 8, .func, .nilFunc⟩ := by kernel_rfl
theorem ti157 : ti Tryz.prog 157 = some ⟨1, 0, .other, .undef⟩ := by kernel_rfl
theorem ti158 : ti Tryz.prog 158 = some ⟨1, 8, .func, .nilFunc⟩ := by kernel_rfl
theorem ti159 : ti Tryz.prog 159 = some ⟨4, 4, (.array 4 5), (.agg [(.int .u8 0), (.int .u8 0), (.int .u8 0), (.int .u8 0)])⟩ := by kernel_rfl
theorem ti160 : ti Tryz.prog 160 = some ⟨1, 8, (.pointer 151), .nilPtr⟩ := by kernel_rfl
theorem ti161 : ti Tryz.prog 161 = some ⟨1, 0, .other, .undef⟩ := by kernel_rfl
theorem ti162 : ti Tryz.prog 162 = some ⟨1, 8, .func, .nilFunc⟩ := by kernel_rfl
theorem ti163 : ti Tryz.prog 163 = some ⟨1, 0, .other, .undef⟩ := by kernel_rfl
theorem ti164 : ti Tryz.prog 164 = some ⟨1, 8, .func, .nilFunc⟩ := by kernel_rfl
theorem ti165 : ti Tryz.prog 165 = some ⟨1, 8, .func, .nilFunc⟩ := by kernel_rfl
theorem ti166 : ti Tryz.prog 166 = some ⟨1, 8, .func, .nilFunc⟩ := by kernel_rfl
theorem ti167 : ti Tryz.prog 167 = some ⟨1, 8, .func, .nilFunc⟩ := by kernel_rfl
theorem ti168 : ti Tryz.prog 168 = some ⟨4, 40, (.struct [(0, 17), (1, 17), (2, 17), (3, 9)]), (.agg [.nilPtr, .nilPtr, .nilPtr, (.str ⟨#[]⟩)])⟩ := by kernel_rfl
theorem ti169 : ti Tryz.prog 169 = some ⟨4, 40, (.struct [(0, 17), (1, 17), (2, 17), (3, 9)]), (.agg [.nilPtr, .nilPtr, .nilPtr, (.str ⟨#[]⟩)])⟩ := by kernel_rfl
theorem ti170 : ti Tryz.prog 170 = some ⟨0, 0, (.array 0 16), (.agg [])⟩ := by kernel_rfl
theorem ti171 : ti Tryz.prog 171 = some ⟨0, 0, (.struct [(0, 170)]), (.agg [])⟩ := by kernel_rfl
theorem ti172 : ti Tryz.prog 172 = some ⟨0, 0, (.struct [(0, 170)]), (.agg [])⟩ := by kernel_rfl
theorem ti173 : ti Tryz.prog 173 = some ⟨1, 8, .func, .nilFunc⟩ := by kernel_rfl
theorem ti174 : ti Tryz.prog 174 = some ⟨1, 1, (.int .u8), (.int .u8 0)⟩ := by kernel_rfl
theorem ti175 : ti Tryz.prog 175 = some ⟨1, 1, (.int .u8), (.int .u8 0)⟩ := by kernel_rfl
theorem ti176 : ti Tryz.prog 176 = some ⟨1, 8, .func, .nilFunc⟩ := by kernel_rfl
theorem ti177 : ti Tryz.prog 177 = some ⟨1, 8, (.pointer 5), .nilPtr⟩ := by kernel_rfl
theorem ti178 : ti Tryz.prog 178 = some ⟨1, 4, (.int .i32), (.int .i32 0)⟩ := by kernel_rfl
theorem ti179 : ti Tryz.prog 179 = some ⟨1, 4, (.int .i32), (.int .i32 0)⟩ := by kernel_rfl
theorem ti180 : ti Tryz.prog 180 = some ⟨11, 48, (.struct [(0, 12), (1, 12), (2, 136), (3, 174), (4, 5), (5, 5), (6, 175), (7, 176), (8, 177), (9, 178), (10, 179)]), (.agg [(.int .u64 0), (.int .u64 0), (.int .u32 0), (.int .u8 0), (.int .u8 0), (.int .u8 0), (.int .u8 0), .nilFunc, .nilPtr, (.int .i32 0), (.int .i32 0)])⟩ := by kernel_rfl
theorem ti181 : ti Tryz.prog 181 = some ⟨11, 48, (.struct [(0, 12), (1, 12), (2, 136), (3, 174), (4, 5), (5, 5), (6, 175), (7, 176), (8, 177), (9, 178), (10, 179)]), (.agg [(.int .u64 0), (.int .u64 0), (.int .u32 0), (.int .u8 0), (.int .u8 0), (.int .u8 0), (.int .u8 0), .nilFunc, .nilPtr, (.int .i32 0), (.int .i32 0)])⟩ := by kernel_rfl
theorem ti182 : ti Tryz.prog 182 = some ⟨1, 8, .other, .nilPtr⟩ := by kernel_rfl
attribute [go_sem] ti0 ti1 ti2 ti3 ti4 ti5 ti6 ti7 ti8 ti9 ti10 ti11 ti12 ti13 ti14 ti15 ti16 ti17 ti18 ti19 ti20 ti21 ti22 ti23 ti24 ti25 ti26 ti27 ti28 ti29 ti30 ti31 ti32 ti33 ti34 ti35 ti36 ti37 ti38 ti39 ti40 ti41 ti42 ti43 ti44 ti45 ti46 ti47 ti48 ti49 ti50 ti51 ti52 ti53 ti54 ti55 ti56 ti57 ti58 ti59 ti60 ti61 ti62 ti63 ti64 ti65 ti66 ti67 ti68 ti69 ti70 ti71 ti72 ti73 ti74 ti75 ti76 ti77 ti78 ti79 ti80 ti81 ti82 ti83 ti84 ti85 ti86 ti87 ti88 ti89 ti90 ti91 ti92 ti93 ti94 ti95 ti96 ti97 ti98 ti99 ti100 ti101 ti102 ti103 ti104 ti105 ti106 ti107 ti108 ti109 ti110 ti111 ti112 ti113 ti114 ti115 ti116 ti117 ti118 ti119 ti120 ti121 ti122 ti123 ti124 ti125 ti126 ti127 ti128 ti129 ti130 ti131 ti132 ti133 ti134 ti135 ti136 ti137 ti138 ti139 ti140 ti141 ti142 ti143 ti144 ti145 ti146 ti147 ti148 ti149 ti150 ti151 ti152 ti153 ti154 ti155 ti156 ti157 ti158 ti159 ti160 ti161 ti162 ti163 ti164 ti165 ti166 ti167 ti168 ti169 ti170 ti171 ti172 ti173 ti174 ti175 ti176 ti177 ti178 ti179 ti180 ti181 ti182
end Go.Proofs.YtpncgjcflkhemabGreat
namespace Clk
open Go Go.Proofs Go.Shelf Go.Sort Go.RowKit Go.Lib
def cmpI (x y : Int) : Int := if x < y then -1 else if y < x then 1 else 0
def orI (x y : Int) : Int := if x = 0 then y else x
def cfK {α : Type} (key : α -> Int × Int) (x y : α) : Int := orI (cmpI (key x).1 (key y).1) (cmpI (key x).2 (key y).2)
theorem z00b {α : Type} (key : α -> Int × Int) (x y : α) : ltOf (cfK key) x y = true ↔ ((key x).1 < (key y).1 \/ ((key x).1 = (key y).1 /\ (key x).2 < (key y).2)) := by
 unfold ltOf cfK orI cmpI; rw [decide_eq_true_iff]; repeat' split
 all_goals (constructor <;> intro h <;> omega)
theorem zo9 {α : Type} (key : α -> Int × Int) (x y : α) : ltOf (cfK key) x y = false ↔ ¬ ((key x).1 < (key y).1 \/ ((key x).1 = (key y).1 /\ (key x).2 < (key y).2)) := by
 rw [<- z00b]; simp
theorem z00c {α : Type} (key : α -> Int × Int) : SWO (ltOf (cfK key)) where
 irrefl x := by rw [zo9]; omega
 trans x y z h1 h2 := by rw [z00b] at *; omega
 ntrans x y z h1 h2 := by rw [zo9] at *; omega
theorem z03v {α : Type} (key : α -> Int × Int) (hd : ∀ x y, key x = key y -> x = y) (x y : α) (h1 : ltOf (cfK key) x y = false) (h2 : ltOf (cfK key) y x = false) : x = y := by
 rw [zo9] at *; exact hd x y (Prod.ext (by omega) (by omega))
theorem z02n {α : Type} (key : α -> Int × Int) (x y : α) : ltOf (cfK key) x y = aheadK (some (key x)) (some (key y)) := by
 rw [Bool.eq_iff_iff, z00b]; simp [aheadK]
def insL {α : Type} (lt : α -> α -> Bool) : List α -> α -> List α
 | [], r => [r]
 | x :: l, r => if lt r x then r :: x :: l else x :: insL lt l r
theorem zk5 {α : Type} (lt : α -> α -> Bool) : ∀ (l : List α) (r : α), (insL lt l r).Perm (r :: l)
 | [], r => List.Perm.refl _
 | x :: l, r => by
   rw [insL]; split
   · exact List.Perm.refl _
   · exact ((zk5 lt l r).cons x).trans (List.Perm.swap r x l)
theorem zk6 {α : Type} {lt : α -> α -> Bool} (hS : SWO lt) : ∀ (l : List α) (r : α), l.Pairwise (fun x y => lt y x = false) -> (insL lt l r).Pairwise (fun x y => lt y x = false)
 | [], r, _ => by simp [insL]
 | x :: l, r, h => by
   rw [List.pairwise_cons] at h; rw [insL]; split
   · rename_i hlt; refine List.pairwise_cons.2 ⟨fun y hy => ?_, List.pairwise_cons.2 h⟩; rcases List.mem_cons.1 hy with rfl | hy
     · cases hc : lt y r with
       | false => rfl
       | true => have := hS.trans _ _ _ hc hlt; rw [hS.irrefl] at this; cases this
     · cases hc : lt y r with
       | false => rfl
       | true => have := hS.trans _ _ _ hc hlt; rw [h.1 y hy] at this; cases this
   · rename_i hlt; refine List.pairwise_cons.2 ⟨fun y hy => ?_, zk6 hS l r h.2⟩; rcases List.mem_cons.1 ((zk5 lt l r).mem_iff.1 hy) with rfl | hy
     · simpa using hlt
     · exact h.1 y hy
theorem zgp {α : Type} {lt : α -> α -> Bool} (hS : SWO lt) : ∀ (l acc : List α), acc.Pairwise (fun x y => lt y x = false) -> (l.foldl (insL lt) acc).Pairwise (fun x y => lt y x = false) /\ (l.foldl (insL lt) acc).Perm (l ++ acc)
 | [], acc, h => ⟨h, List.Perm.refl _⟩
 | x :: l, acc, h => by
   obtain ⟨h1, h2⟩ := zgp hS l (insL lt acc x) (zk6 hS acc x h); refine ⟨h1, h2.trans ?_⟩; exact ((zk5 lt acc x).append_left l).trans List.perm_middle
theorem z05f {α : Type} [Inhabited α] {lt : α -> α -> Bool} (hS : SWO lt) (hT : ∀ x y, lt x y = false -> lt y x = false -> x = y) (d : Array α) : d.toList.mergeSort (fun x y => !lt y x) = d.toList.foldl (insL lt) [] := by
 obtain ⟨h1, h2⟩ := zgp hS d.toList [] .nil; rw [List.append_nil] at h2; refine List.Perm.eq_of_pairwise (le := fun x y => (!lt y x) = true) ?_ ?_ ?_ ((List.mergeSort_perm _ _).trans h2.symm)
 · intro a b _ _ h3 h4; exact hT a b (by simpa using h4) (by simpa using h3)
 · refine List.pairwise_mergeSort ?_ ?_ _
   · intro a b c h3 h4; simp only [Bool.not_eq_true'] at *; exact hS.ntrans _ _ _ h4 h3
   · intro a b; cases hc : lt b a with
     | false => simp
     | true =>
       cases hc2 : lt a b with
       | false => simp
       | true => have := hS.trans _ _ _ hc hc2; rw [hS.irrefl] at this; cases this
 · exact h1.imp fun h => by simp [h]
end Clk
namespace Clk
open Go Go.Proofs Go.Shelf Go.Sort Go.RowKit Go.Lib
theorem z05g {w : World} {N : Nat -> Prop} {β : z0n} {f : FuncId} {u : Value} (h : Rel w N β (.fn f [] []) u) : u = .func (.func f) #[] #[] := by
 cases h with
 | imm h => cases h with | fn h _ h' _ => simp at h h'; subst h; subst h'; rfl
 | fn h _ h' _ => simp at h h'; subst h; subst h'; rfl
theorem zxd {row : List AV} (h : (rowKey row).isSome = true) : ∃ p k s a b, row = [.int .i64 p, .int .i64 k, .int .i64 s, a, b] /\ rowKey row = some (s, p) := by
 unfold rowKey at h; split at h
 · exact ⟨_, _, _, _, _, rfl, rfl⟩
 · cases h
theorem zqt : ∀ {l : List (List AV)}, distA l = true -> (∀ (i : Nat) row, l[i]? = some row -> (rowKey row).isSome = true /\ row.all AV.leaf = true) /\ ∀ (i j : Nat) r s, l[i]? = some r -> l[j]? = some s -> rowKey r = rowKey s -> i = j
 | [], _ => ⟨fun i row h => by simp at h, fun i j r s h => by simp at h⟩
 | x :: l, h => by
   simp only [distA, Bool.and_eq_true] at h; obtain ⟨h1, h2⟩ := zqt h.2; have hne : ∀ y ∈ l, rowKey x ≠ rowKey y := fun y hy e => by
    have := List.all_eq_true.1 h.1.2 y hy; simp [e] at this
   refine ⟨fun i row hi => ?_, fun i j r s hi hj e => ?_⟩
   · cases i with
     | zero => simp at hi; subst hi; exact h.1.1
     | succ i => exact h1 i row (by simpa using hi)
   · cases i with
     | zero =>
       cases j with
       | zero => rfl
       | succ j =>
         simp at hi hj; subst hi; exact absurd e (hne s (List.mem_of_getElem? hj))
     | succ i =>
       cases j with
       | zero =>
         simp at hi hj; subst hj; exact absurd e.symm (hne r (List.mem_of_getElem? hi))
       | succ j =>
         rw [h2 i j r s (by simpa using hi) (by simpa using hj) e]
theorem zlm (w : World) (blk : Nat) (f : Array Value -> Array Value) : (mapBlock w blk f).heap.size = w.heap.size := by simp [mapBlock]
theorem ztg {w : World} {blk : Nat} {f : Array Value -> Array Value} {c : Array Value} {e : TypeId} {fr : Nat × Nat} (h : w.heap[blk]? = some (.cells c e fr)) : (mapBlock w blk f).heap[blk]? = some (.cells (f c) e fr) := by
 show (w.heap.modify blk (onCells f))[blk]? = _; rw [Array.getElem?_modify, if_pos rfl, h]; rfl
theorem zth {w : World} {blk r : Nat} {f : Array Value -> Array Value} (h : r ≠ blk) : (mapBlock w blk f).heap[r]? = w.heap[r]? := by
 show (w.heap.modify blk (onCells f))[r]? = _; rw [Array.getElem?_modify, if_neg fun e => h e.symm]
structure SortAt (P : Program) (f g : Nat) : Prop where
 none : ∀ (p : Option Addr) (cap : Nat) (fv : Value) (w : World), Calls P f #[.slice p 0 cap, fv] w fun e w' => e = .returned (.tuple #[]) /\ w' = w
 sort : ∀ (m : Nat) (enc : Fin (m + 1) -> List Value), (∀ x, (enc x).length = 5) -> (∀ x, ∀ v ∈ enc x, v.oneCell' = true) -> ∀ (cf : Fin (m + 1) -> Fin (m + 1) -> Int), SWO (ltOf cf) -> ∀ (blk off cap : Nat) (d : Array (Fin (m + 1))) (w : World),
  CmpLays P g #[] enc 5 cf blk off d.size w -> HoldsK enc 5 w blk off d -> blk < w.heap.size -> d.size < 4611686018427387904 -> (∀ x y, (ltOf cf) x y = false -> (ltOf cf) y x = false -> x = y) ->
  Calls P f #[.slice (some ⟨blk, off, .none⟩) d.size cap, .func (.func g) #[] #[]] w fun e w' => e = .returned (.tuple #[]) /\ ∃ n os, w' = sortWorldK enc 5 w blk off n (d.toList.mergeSort fun x y => !(ltOf cf) y x).toArray os
 cmp : ∀ (p k s : Int) (u v : Value) (p' k' s' : Int) (u' v' : Value), u.oneCell' = true -> v.oneCell' = true -> u'.oneCell' = true -> v'.oneCell' = true -> ∀ W : World,
  Calls P g #[.agg #[.int .i64 p, .int .i64 k, .int .i64 s, u, v], .agg #[.int .i64 p', .int .i64 k', .int .i64 s', u', v']] W fun e w' => e = .returned (.int .i64 (orI (cmpI s s') (cmpI p p'))) /\ ∃ q os', w' = grow (W.drewN q) os'
theorem z00d {P : Program} {f g : Nat} (S : SortAt P f g) : ∀ args H v ch, sortA g H.length args H = some (v, ch) -> ∀ (w : World) (X : Nat -> Prop) (β : z0n) (vs : Array Value), HRel w X β H -> ARel w (NN X β H) β args vs -> CallsIn (WF none) 0 P f vs w (Ends w X β H v (zg H ch)) := by
 intro args H v ch h w X β vs hr ha; have stay : ∀ (p : Option Addr) (cap : Nat) (fv : Value), CallsIn (WF none) 0 P f #[.slice p 0 cap, fv] w (Ends w X β H (.tup []) H) := fun p cap fv =>
  callsIn_wide.2 ((S.none p cap fv w).mono fun e w' ⟨h1, h2⟩ => by
   subst h2; exact ⟨.tuple #[], β, h1, Post.refl hr, .imm (.tup rfl fun i a v h => by simp at h)⟩)
 unfold sortA at h; split at h
 · rename_i x f'; split at h
   · rename_i hf; subst hf; obtain ⟨hs, hc⟩ := ha; obtain ⟨u0, u1, rfl⟩ : ∃ u0 u1, vs = #[u0, u1] := by
      obtain ⟨l⟩ := vs; match l, hs with
      | [a, b], _ => exact ⟨a, b, rfl⟩
     have r0 := hc 0 x u0 rfl rfl; have r1 := z05g (hc 1 _ u1 rfl rfl); subst r1; split at h
     · cases h; cases r0 with | imm r0 => cases r0 with
        | crows hk ha' hu hr' => exact stay _ _ _
     · rename_i b vv n; split at h
       · rename_i k v' rows hH; split at h
         · rename_i hcond; obtain ⟨rfl, rfl, rfl, hdist, hlen⟩ := hcond; cases h; cases r0 with
           | imm r0 => cases r0
           | @ref _ _ _ _ c bi a hb hv hc' hcur =>
             have hbl : b < H.length := by
              rcases Nat.lt_or_ge b H.length with h | h
              · exact h
              · rw [zI, List.getElem?_eq_none h] at hH; cases hH
             have hob := hr.obj b bi hb; rw [hH] at hob; obtain ⟨hbk, hbv, _, _, cs, T, hcs, hfit, hrow, hcell⟩ := hob; cases hn : rows.length with
             | zero =>
               have hnil : rows = [] := List.eq_nil_of_length_eq_zero hn; subst hnil; have : zg H (some (b, .blk 5 vv true (List.foldl insA [] []))) = H := by
                show (if b < H.length then H.set b _ else _) = H; rw [if_pos hbl]; exact zuo hH
               rw [this]; exact stay _ _ _
             | succ m =>
               obtain ⟨ha0, _⟩ := hcur hbv.symm; have ha1 := ha0 (by omega); rw [Nat.zero_mul] at ha1; subst ha1; obtain ⟨d1, d2⟩ := zqt hdist; let row := fun i : Fin (m + 1) => rows.getD i.val []
               have hrowi : ∀ i : Fin (m + 1), rows[i.val]? = some (row i) := fun i => by
                have : i.val < rows.length := by rw [hn]; exact i.isLt
                simp only [row, zI, zH this]; rfl
               let enc := fun i : Fin (m + 1) => (List.range 5).map fun j => cs[i.val * 5 + j]!
               let key := fun i : Fin (m + 1) => (rowKey (row i)).getD (0, 0)
               have hin : ∀ (i : Fin (m + 1)) j, j < 5 -> cs[i.val * 5 + j]? = some cs[i.val * 5 + j]! := fun i j hj => by
                have hlt : i.val * 5 + j < cs.size := by have := i.isLt; rw [hn] at hfit; omega
                rw [Array.getElem?_eq_getElem hlt, getElem!_pos cs _ hlt]
               have hkey : ∀ i : Fin (m + 1), rowKey (row i) = some (key i) := fun i => by
                have := (d1 i.val (row i) (hrowi i)).1; obtain ⟨x, hx⟩ := Option.isSome_iff_exists.1 this; simp only [key, hx]; rfl
               have hinv : ∀ i : Fin (m + 1), ∃ k a b, row i = [.int .i64 (key i).2, .int .i64 k, .int .i64 (key i).1, a, b] := fun i => by
                obtain ⟨p, k, s, a, b, e1, e2⟩ := zxd (d1 i.val (row i) (hrowi i)).1; rw [hkey i] at e2; injection e2 with e2
                exact ⟨k, a, b, by rw [e1, e2]⟩
               have hrel : ∀ (i : Fin (m + 1)) j x, (row i)[j]? = some x -> Rel w (NN X β H) β x cs[i.val * 5 + j]! := fun i j x hx => by
                have hj : j < 5 := by have := (zG.1 hx).1; rw [hrow _ _ (hrowi i)] at this; exact this
                exact hcell i.val (row i) j x _ (hrowi i) hx (hin i j hj)
               have hone : ∀ (i : Fin (m + 1)) j, j < 5 -> (cs[i.val * 5 + j]!).oneCell' = true := fun i j hj => by
                have hl := hrow _ _ (hrowi i); have hx := zH (show j < (row i).length by rw [hl]; exact hj); exact (z6h (hrel i j _ hx) (List.all_eq_true.1 (d1 i.val (row i) (hrowi i)).2 _ (List.getElem_mem _))).1
               have henc : ∀ i : Fin (m + 1), ∃ k, enc i = [.int .i64 (key i).2, .int .i64 k, .int .i64 (key i).1, cs[i.val * 5 + 3]!, cs[i.val * 5 + 4]!] := fun i => by
                obtain ⟨k, a, b, e⟩ := hinv i; refine ⟨k, ?_⟩; have e0 := z0h (hrel i 0 _ (by rw [e]; rfl)); have e1 := z0h (hrel i 1 _ (by rw [e]; rfl)); have e2 := z0h (hrel i 2 _ (by rw [e]; rfl)); show [cs[i.val * 5 + 0]!, cs[i.val * 5 + 1]!, cs[i.val * 5 + 2]!, cs[i.val * 5 + 3]!, cs[i.val * 5 + 4]!] = _; rw [e0, e1, e2]
               have hdk : ∀ x y : Fin (m + 1), key x = key y -> x = y := fun x y e => Fin.ext (d2 x.val y.val _ _ (hrowi x) (hrowi y) (by rw [hkey, hkey, e]))
               let d : Array (Fin (m + 1)) := Array.ofFn fun i => i
               have hds : d.size = m + 1 := by simp [d]
               have hblk : bi.r < w.heap.size := (Array.getElem?_eq_some_iff.1 hcs).1; have hH5 : HoldsK enc 5 w bi.r 0 d := by
                intro j hj; have hj' : j < (m + 1) * 5 := by simpa [hds] using hj
                have hjd : j / 5 < m + 1 := by omega
                have hlt : j < cs.size := by rw [hn] at hfit; omega
                have hjm : j % 5 < 5 := Nat.mod_lt _ (by omega); have e5 : (flatK enc 5 d)[j]! = cs[j]! := by
                 rw [get_flatK enc 5 d j (by rw [hds]; exact hj')]; have : d[j / 5]! = (⟨j / 5, hjd⟩ : Fin (m + 1)) := by
                  rw [getElem!_pos d _ (by rw [hds]; exact hjd)]; simp [d]
                 rw [this]; show ((List.range 5).map fun q => cs[j / 5 * 5 + q]!)[j % 5]! = _; rw [getElem!_pos _ _ (by simpa using hjm)]; simp only [List.getElem_map, List.getElem_range]; rw [show j / 5 * 5 + j % 5 = j by omega]
                rw [e5, Nat.zero_add]; refine ⟨?_, ?_⟩
                · unfold World.cell?; rw [hcs]; show cs[j]? = _; rw [Array.getElem?_eq_getElem hlt, getElem!_pos cs _ hlt]; rfl
                · unfold World.frozen?; rw [hcs]; simp
               have hcmp : CmpLays P f' #[] enc 5 (cfK key) bi.r 0 d.size w := fun mm os dk hsz x y => by
                obtain ⟨k, ex⟩ := henc x; obtain ⟨k', ey⟩ := henc y; have := S.cmp (key x).2 k (key x).1 _ _ (key y).2 k' (key y).1 _ _ (hone x 3 (by omega)) (hone x 4 (by omega)) (hone y 3 (by omega)) (hone y 4 (by omega)) (sortWorldK enc 5 w bi.r 0 mm dk os); rw [ex, ey]; exact this
               have call := S.sort m enc (fun x => by simp [enc]) (fun x v hv => by
                obtain ⟨j, hj, rfl⟩ := List.mem_map.1 hv; exact hone x j (List.mem_range.1 hj)) (cfK key) (z00c key) bi.r 0 c d w hcmp hH5 hblk (by rw [hds]; omega) (z03v key hdk)
               rw [hds] at call; refine callsIn_wide.2 (call.mono fun e w' ⟨he, q, os, hw⟩ => ?_); rw [z05f (z00c key) (z03v key hdk)] at hw; generalize hl : d.toList.foldl (insL (ltOf (cfK key))) [] = l at hw; have hlp : l.Perm d.toList := by
                have := (zgp (z00c key) d.toList [] .nil).2; rw [List.append_nil, hl] at this; exact this
               have hll : l.length = m + 1 := by rw [hlp.length_eq]; simp [d]
               have hrows : rows.foldl insA [] = l.map row := by
                have h1 : rows = d.toList.map row := by
                 apply List.ext_getElem?
                 intro i; simp only [d, Array.toList_ofFn, List.getElem?_map, List.getElem?_ofFn]; by_cases hi : i < m + 1
                 · rw [dif_pos hi]; exact hrowi ⟨i, hi⟩
                 · rw [dif_neg hi, List.getElem?_eq_none (by omega)]; rfl
                have h2 : ∀ (a b : List (Fin (m + 1))), (a.map row).foldl insA (b.map row) = (a.foldl (insL (ltOf (cfK key))) b).map row := by
                 intro a; induction a with
                 | nil => intro b; rfl
                 | cons x a ih =>
                   intro b; rw [List.map_cons, List.foldl_cons, List.foldl_cons, <- ih]; congr 1
                   exact (zv3 (f := row) (ins := insL (ltOf (cfK key))) (ah := ltOf (cfK key)) (fun _ => rfl) (fun _ _ _ => rfl) (fun a b => by rw [z02n, hkey, hkey]) b x).symm
                rw [<- hl]; have := h2 d.toList []; rw [<- h1] at this; exact this
               have hat : (Sort.ahead w q).heap[bi.r]? = some (.cells cs T (0, 0)) := hcs; let cs' := putCells id 0 (flatK enc 5 l.toArray) cs
               have hget : ∀ (i j : Nat) (x : Fin (m + 1)), l[i]? = some x -> j < 5 -> cs'[i * 5 + j]? = some cs[x.val * 5 + j]! := fun i j x hx hj => by
                have hi : i < m + 1 := by have := (zG.1 hx).1; omega
                have hlt : i * 5 + j < cs.size := by rw [hn] at hfit; omega
                have hlt2 : i * 5 + j < (m + 1) * 5 := by omega
                simp only [cs', putCells, Array.getElem?_mapIdx, Array.getElem?_eq_getElem hlt, Option.map_some, size_flatK, List.size_toArray, hll]; rw [if_pos ⟨Nat.zero_le _, by omega⟩, Nat.sub_zero, get_flatK enc 5 l.toArray _ (by simpa [hll] using hlt2), show (i * 5 + j) / 5 = i by omega, show (i * 5 + j) % 5 = j by omega]; have : l.toArray[i]! = x := by
                 have hil : i < l.toArray.size := by simpa [hll] using hi
                 rw [getElem!_pos l.toArray i hil]; have h9 := (zG.1 hx).2; simpa using h9
                rw [this]; show some (((List.range 5).map fun q => cs[x.val * 5 + q]!)[j]!) = _; rw [getElem!_pos ((List.range 5).map fun q => cs[x.val * 5 + q]!) j (by simpa using hj)]; simp
               have wr := hr.write (w' := putRowK enc 5 (Sort.ahead w q) bi.r 0 l.toArray) (rows' := rows.foldl insA []) (cs' := cs') hb hH rfl rfl rfl (zlm _ _ _) hcs (ztg hat) (fun r hne => zth hne) (by simp [cs', putCells]) (by rw [hrows]; simp [hll]; rw [hn] at hfit; omega)
                (fun i rw' hi => by
                  rw [hrows, List.getElem?_map, Option.map_eq_some_iff] at hi; obtain ⟨x, hx, rfl⟩ := hi; exact hrow _ _ (hrowi x))
                (fun i rw' j y u hi hj hu => by
                  rw [hrows, List.getElem?_map, Option.map_eq_some_iff] at hi; obtain ⟨x, hx, rfl⟩ := hi; have hj5 : j < 5 := by have := (zG.1 hj).1; rw [hrow _ _ (hrowi x)] at this; exact this
                  rw [hget i j x hx hj5] at hu; cases hu; exact hrel x j y hj)
               obtain ⟨wr1, wr2⟩ := wr; obtain ⟨g1, g2⟩ := wr1.ext (w' := w') (by rw [hw]; show _ <= (_ ++ os).size; rw [Array.size_append]; exact Nat.le_add_right _ _) (fun r hlt => by
                rw [hw]; show ((putRowK enc 5 (Sort.ahead w q) bi.r 0 l.toArray).heap ++ os)[r]? = _; rw [Array.getElem?_append_left hlt]) (by rw [hw]; rfl) (by rw [hw]; rfl) (by rw [hw]; rfl)
               have hap : zg H (some (b, .blk 5 vv true (rows.foldl insA []))) = H.set b (.blk 5 vv true (rows.foldl insA [])) := by
                show (if b < H.length then H.set b _ else _) = _; rw [if_pos hbl]
               rw [hap]; exact ⟨.tuple #[], β, he, ⟨g1, wr2.trans g2, fun _ _ h => h, by simp⟩, .imm (.tup rfl fun i a v h => by simp at h)⟩
         · cases h
       · cases h
     · cases h
   · cases h
 · cases h
end Clk
namespace Go.Proofs
open Go.Shelf
def Tryz.sortL_ren : Go.Shelf.Ren := ⟨fun | 6 => 46 | 15 => 63 | 14 => 62 | 28 => 79 | 29 => 80 | 20 => 71 | 21 => 72 | 22 => 73 | 23 => 74 | 24 => 75 | 25 => 76 | 26 => 77 | 27 => 78 | 46 => 91 | 47 => 92 | 48 => 93 | 49 => 94 | 50 => 95 | 57 => 100 | n => n, fun | 22 => 79 | 24 => 82 | 25 => 105 | 3 => 3 | 39 => 121 | 0 => 0 | 53 => 136 | 55 => 138 | 4 => 4 | 46 => 130 | 45 => 129 | 50 => 108 | 5 => 5 | 9 => 9 | 66 => 151 | 70 => 155 | 76 => 160 | 77 => 161 | n => n, fun | n => n⟩
theorem Tryz.sortL : Go.Proofs.SlLaysF0.n6 Tryz.prog Tryz.sortL_ren := {
 mixed := by kernel_rfl
 f6 := ⟨Tryz.f46.name, by decide, Tryz.func46.trans (congrArg some (by kernel_rfl))⟩
 f14 := ⟨Tryz.f62.name, by decide, Tryz.func62.trans (congrArg some (by kernel_rfl))⟩
 f15 := Tryz.func63.trans (congrArg some (by kernel_rfl))
 f20 := ⟨Tryz.f71.name, by decide, Tryz.func71.trans (congrArg some (by kernel_rfl))⟩
 f21 := ⟨Tryz.f72.name, by decide, Tryz.func72.trans (congrArg some (by kernel_rfl))⟩
 f22 := ⟨Tryz.f73.name, by decide, Tryz.func73.trans (congrArg some (by kernel_rfl))⟩
 f23 := ⟨Tryz.f74.name, by decide, Tryz.func74.trans (congrArg some (by kernel_rfl))⟩
 f24 := ⟨Tryz.f75.name, by decide, Tryz.func75.trans (congrArg some (by kernel_rfl))⟩
 f25 := ⟨Tryz.f76.name, by decide, Tryz.func76.trans (congrArg some (by kernel_rfl))⟩
 f26 := ⟨Tryz.f77.name, by decide, Tryz.func77.trans (congrArg some (by kernel_rfl))⟩
 f27 := ⟨Tryz.f78.name, by decide, Tryz.func78.trans (congrArg some (by kernel_rfl))⟩
 f28 := Tryz.func79.trans (congrArg some (by kernel_rfl))
 f29 := Tryz.func80.trans (congrArg some (by kernel_rfl))
 f46 := ⟨Tryz.f91.name, by decide, Tryz.func91.trans (congrArg some (by kernel_rfl))⟩
 f47 := Tryz.func92.trans (congrArg some (by kernel_rfl))
 f48 := Tryz.func93.trans (congrArg some (by kernel_rfl))
 f49 := ⟨Tryz.f94.name, by decide, Tryz.func94.trans (congrArg some (by kernel_rfl))⟩
 f50 := ⟨Tryz.f95.name, by decide, Tryz.func95.trans (congrArg some (by kernel_rfl))⟩
 f57 := ⟨Tryz.f100.name, by decide, Tryz.func100.trans (congrArg some (by kernel_rfl))⟩
 t0 := Tryz.underlying0
 a0 := Tryz.isAgg0
 z0 := Tryz.sizeOf0
 v0 := Tryz.zeroValue0
 t3 := Tryz.underlying3
 a3 := Tryz.isAgg3
 z3 := Tryz.sizeOf3
 v3 := Tryz.zeroValue3
 t4 := Tryz.underlying4
 a4 := Tryz.isAgg4
 z4 := Tryz.sizeOf4
 v4 := Tryz.zeroValue4
 t5 := Tryz.underlying5
 a5 := Tryz.isAgg5
 z5 := Tryz.sizeOf5
 v5 := Tryz.zeroValue5
 t9 := Tryz.underlying9
 a9 := Tryz.isAgg9
 z9 := Tryz.sizeOf9
 v9 := Tryz.zeroValue9
 t22 := Tryz.underlying79
 a22 := Tryz.isAgg79
 z22 := Tryz.sizeOf79
 v22 := Tryz.zeroValue79
 t25 := Tryz.underlying105
 a25 := Tryz.isAgg105
 z25 := Tryz.sizeOf105
 v25 := Tryz.zeroValue105
 t39 := Tryz.underlying121
 a39 := Tryz.isAgg121
 z39 := Tryz.sizeOf121
 v39 := Tryz.zeroValue121
 t45 := Tryz.underlying129
 a45 := Tryz.isAgg129
 z45 := Tryz.sizeOf129
 v45 := Tryz.zeroValue129
 t46 := Tryz.underlying130
 a46 := Tryz.isAgg130
 z46 := Tryz.sizeOf130
 v46 := Tryz.zeroValue130
 t50 := Tryz.underlying108
 a50 := Tryz.isAgg108
 z50 := Tryz.sizeOf108
 v50 := Tryz.zeroValue108
 t53 := Tryz.underlying136
 a53 := Tryz.isAgg136
 z53 := Tryz.sizeOf136
 v53 := Tryz.zeroValue136
 t55 := Tryz.underlying138
 a55 := Tryz.isAgg138
 z55 := Tryz.sizeOf138
 v55 := Tryz.zeroValue138
 t66 := Tryz.underlying151
 a66 := Tryz.isAgg151
 z66 := Tryz.sizeOf151
 v66 := Tryz.zeroValue151
 t70 := Tryz.underlying155
 a70 := Tryz.isAgg155
 z70 := Tryz.sizeOf155
 v70 := Tryz.zeroValue155
 t76 := Tryz.underlying160
 a76 := Tryz.isAgg160
 z76 := Tryz.sizeOf160
 v76 := Tryz.zeroValue160
 t77 := Tryz.underlying161
 a77 := Tryz.isAgg161
 z77 := Tryz.sizeOf161
 v77 := Tryz.zeroValue161 }
end Go.Proofs
namespace Go.Proofs.YtpncgjcflkhemabGreat
open Clk Go Go.Proofs Go.Shelf Go.RowKit Go.Lib Go.Sort
theorem nan64 (x : Int) (W : World) : Calls Tryz.prog 64 #[.int .i64 x] W fun e w' => e = .returned (.bool false) /\ w' = W := by
 go_enter Tryz.func64, Tryz.ntmps64
 go_wp2
 go_ret
 simp
set_option maxHeartbeats 1000000 in
theorem cmp49 (x y : Int) (W : World) : Calls Tryz.prog 49 #[.int .i64 x, .int .i64 y] W fun e w' => e = .returned (.int .i64 (cmpI x y)) /\ w' = W := by
 have hn := nan64; unfold cmpI; go_enter Tryz.func49, Tryz.ntmps49
 go_wp2_with (go_at_call 64; refine (hn _ _).mono ?_; rintro e w' ⟨rfl, rfl⟩)
 all_goals go_ret
 all_goals refine ⟨?_, rfl⟩
 all_goals first
  | rfl
  | rw [if_pos (by assumption)]
  | rw [if_neg (by omega), if_pos (by assumption)]
  | rw [if_neg (by omega), if_neg (by omega)]
set_option maxHeartbeats 2000000 in
theorem or48 (b o c : Nat) (x y : Int) (W : World) (h0 : W.cell? ⟨b, o, none⟩ = some (.int .i64 x)) (h1 : W.cell? ⟨b, o + 1, none⟩ = some (.int .i64 y)) :
 Calls Tryz.prog 48 #[.slice (some ⟨b, o, none⟩) 2 c] W fun e w' => e = .returned (.int .i64 (orI x y)) /\ w' = W := by
 by_cases hx : x = 0
 · subst hx; have e : orI 0 y = y := rfl; rw [e]; go_enter Tryz.func48, Tryz.ntmps48
   go_wp2
   refine wp_loop_rounds 3 ?_; rw [rounds_succ]; go_wp2
   all_goals rw [rounds_succ]
   go_wp2
   all_goals try (go_ret; exact ⟨rfl, rfl⟩)
   rename_i hy; have hy : y = 0 := by simpa using hy
   subst hy; rw [rounds_succ]; go_wp2
   go_ret
   exact ⟨rfl, rfl⟩
 · have e : orI x y = x := if_neg hx; rw [e]; have hx2 : (x != 0) = true := by simpa using hx
   go_enter Tryz.func48, Tryz.ntmps48
   go_wp2
   refine wp_loop_rounds 3 ?_; rw [rounds_succ]; go_wp2
   all_goals try (go_ret; exact ⟨rfl, rfl⟩)
theorem zms {W W3 : World} {o1 o2 : Obj} {c1 : Array Value} {t1 : TypeId} {fz : Nat × Nat} (h : W3.heap = (W.heap.push o1).push o2) (e : o1 = .cells c1 t1 fz) (i : Nat) : W3.cell? ⟨W.heap.size, i, none⟩ = c1[i]? := by
 subst e; have : W3.heap[W.heap.size]? = some (.cells c1 t1 fz) := by rw [h, Array.getElem?_push, if_neg (by simp), Array.getElem?_push, if_pos rfl]
 unfold World.cell?; rw [this]; rfl
theorem zmt {W W3 : World} {o1 o2 : Obj} {c1 : Array Value} {t1 : TypeId} {fz : Nat × Nat} (h : W3.heap = (W.heap.push o1).push o2) (e : o2 = .cells c1 t1 fz) (i : Nat) : W3.cell? ⟨W.heap.size + 1, i, none⟩ = c1[i]? := by
 subst e; have : W3.heap[W.heap.size + 1]? = some (.cells c1 t1 fz) := by rw [h, Array.getElem?_push, if_pos (by simp)]
 unfold World.cell?; rw [this]; rfl
theorem or48n (x y : Int) (W : World) : Calls Tryz.prog 48 #[.slice (some ⟨W.heap.size, 0, none⟩) 2 2] (W.alloc (.cells #[.int .i64 x, .int .i64 y] 3)) fun e w' => e = .returned (.int .i64 (orI x y)) /\ w' = W.alloc (.cells #[.int .i64 x, .int .i64 y] 3) := by
 have h : (W.alloc (.cells #[.int .i64 x, .int .i64 y] 3)).heap[W.heap.size]? = some (.cells #[.int .i64 x, .int .i64 y] 3) := by
  show (W.heap.push _)[W.heap.size]? = _; rw [Array.getElem?_push, if_pos rfl]
 exact or48 W.heap.size 0 2 x y _ (by unfold World.cell?; rw [h]; rfl) (by unfold World.cell?; rw [h]; rfl)
set_option maxHeartbeats 4000000 in
theorem cmp47 (p k s : Int) (u v : Value) (p' k' s' : Int) (u' v' : Value) (hu : u.oneCell' = true) (hv : v.oneCell' = true) (hu' : u'.oneCell' = true) (hv' : v'.oneCell' = true) (W : World) :
 Calls Tryz.prog 47 #[.agg #[.int .i64 p, .int .i64 k, .int .i64 s, u, v], .agg #[.int .i64 p', .int .i64 k', .int .i64 s', u', v']] W fun e w' => e = .returned (.int .i64 (orI (cmpI s s') (cmpI p p'))) /\ ∃ q os', w' = grow (W.drewN q) os' := by
 have hc := cmp49; have ho := or48n; go_enter Tryz.func47, Tryz.ntmps47
 go_wp2
 refine wp_region_still_tail 12 (by kernel_rfl) (by kernel_rfl) ?_; simp only [List.take_succ_cons, List.take_zero, List.drop_succ_cons, List.drop_zero]; generalize hW3 : ({ (W.alloc _).alloc _ with drawn := _ } : World) = W3; have hh : W3.heap = (W.heap.push (.cells #[.int .i64 p, .int .i64 k, .int .i64 s, u, v] 82)).push (.cells #[.int .i64 p', .int .i64 k', .int .i64 s', u', v'] 82) := by rw [<- hW3]; rfl
 have hq : W3 = grow (W.drewN 1) #[.cells #[.int .i64 p, .int .i64 k, .int .i64 s, u, v] 82, .cells #[.int .i64 p', .int .i64 k', .int .i64 s', u', v'] 82] := by rw [<- hW3]; rfl
 have f1 : W3.cell? ⟨W.heap.size, 2, none⟩ = some (.int .i64 s) := zms hh rfl 2; have f2 : W3.cell? ⟨W.heap.size, 0, none⟩ = some (.int .i64 p) := zms hh rfl 0; have f3 : W3.cell? ⟨W.heap.size + 1, 2, none⟩ = some (.int .i64 s') := zmt hh rfl 2; have f4 : W3.cell? ⟨W.heap.size + 1, 0, none⟩ = some (.int .i64 p') := zmt hh rfl 0; have hg : ∃ os, W3 = grow (W.drewN 1) os := ⟨_, hq⟩; clear hW3 hh hq; repeat still_step
 still_call (hc _ _ _)
 repeat still_step
 still_call (hc _ _ _)
 refine wpStill_nil ?_; go_wp2_with (go_at_call 48; refine (ho _ _ _).mono ?_; rintro e w' ⟨rfl, rfl⟩)
 obtain ⟨os, rfl⟩ := hg; go_ret
 exact ⟨rfl, 1, os ++ #[.cells #[.int .i64 (cmpI s s'), .int .i64 (cmpI p p')] 3], by rw [alloc_eq_grow, grow_grow]⟩
theorem sortAt : SortAt Tryz.prog 46 47 where
 none p cap fv w := AnyF.slices_SortFunc_none (P := Tryz.prog) (ρ := Tryz.sortL_ren) Tryz.sortL p cap fv w
 sort m enc hk h1 cf hO blk off cap d w hcmp hH hblk hsz hT := AnyQ.slices_SortFunc_total Tryz.sortL 5 Tryz.isAgg82 Tryz.sizeOf82 enc hk h1 cf hO 47 #[] blk off cap d w (enters_of Tryz.func47 (by kernel_rfl) rfl) hcmp hH hblk hsz hT
 cmp := cmp47
end Go.Proofs.YtpncgjcflkhemabGreat
namespace Go.Proofs.YtpncgjcflkhemabGreat
open Go Go.Proofs Clk
theorem zmu {H : List AO} {te : TI} {x : AV} {rs : List (List AV)} (h : z0i H x = some rs) : newRows H te x = some rs := by
 cases x <;> first | exact h | (simp [z0i] at h)
theorem z3f : Clk.Good Tryz.prog := ⟨by kernel_rfl, fun f fn h hn => by
 have : Tryz.prog.funcs.all (fun fn => fn.name != "runtime.NumGoroutine") = true := by kernel_rfl
 rw [Array.all_eq_true] at this; obtain ⟨hi, h'⟩ := Array.getElem?_eq_some_iff.1 h; have := this f hi; rw [h', hn] at this; simp at this⟩
theorem clone51 : ∀ args H v ch, cloneA 1 8 H.length args H = some (v, ch) -> ∀ (w : World) (X : Nat -> Prop) (β : z0n) (vs : Array Value), HRel w X β H -> ARel w (NN X β H) β args vs -> CallsIn (WF none) 0 Tryz.prog 51 vs w (Clk.Ends w X β H v (zg H ch)) := by
 refine zzb z3f Tryz.func51 (by rfl) (by rfl) (by rfl) (by rfl) (by rfl) (by rfl) (by rfl) (by rfl) (by rfl) Tryz.underlying31 (fun x H => ⟨20, ?_⟩) (fun x H => ⟨20, ?_⟩) (fun x H v ch h => ?_)
 · simp (config := {dsimp := false}) only [go_sem]
 · simp (config := {dsimp := false}) only [go_sem]
 · unfold cloneA at h; simp only at h; split at h
   · rename_i hrs; cases h; have hnr : ∀ te, newRows H te x = some [] := fun te => zmu hrs
     refine ⟨20, ?_⟩; simp (config := {dsimp := false}) only [go_sem, hnr, reduceIte, Nat.reduceEqDiff, reduceCtorEq, Nat.zero_mul, Nat.not_lt_zero, gt_iff_lt, or_self, Nat.zero_le]; refine ⟨_, rfl, ?_⟩; rfl
   · rename_i rs hne hrs; split at h
     · rename_i hc; cases h; simp only [Bool.and_eq_true, decide_eq_true_eq] at hc; have hnr : ∀ te, newRows H te x = some rs := fun te => zmu hrs
       have h1 : ¬ (z00 < rs.length * 8) := Nat.not_lt.2 hc.1.2; have h2 : ¬ (z00 < rs.length) := Nat.not_lt.2 hc.2; have h3 : rs.all (fun r => r.length == 1) = true := hc.1.1; have h4 : rs.length ≠ 0 := fun e => hne (List.eq_nil_of_length_eq_zero e)
       refine ⟨20, ?_⟩; simp (config := {dsimp := false}) only [go_sem, hnr, reduceIte, Nat.reduceEqDiff, reduceCtorEq, gt_iff_lt, h1, h2, h3, h4, or_self, Bool.and_self]; refine ⟨_, rfl, ?_⟩; rfl
     · cases h
   · cases h
def primW : FuncId -> Option (Nat -> List AV -> List AO -> Res) := fun f => if f = 51 then some (cloneA 1 8) else if f = 46 then some (sortA 47) else none
theorem z02o : PrimOk Tryz.prog primW := by
 intro f h e; unfold primW at e; split at e
 · rename_i hf; subst hf; cases e; exact ⟨⟨_, Tryz.func51, by rfl⟩, clone51⟩
 · split at e
   · rename_i hf; subst hf; cases e; exact ⟨⟨_, Tryz.func46, by rfl⟩, z00d sortAt⟩
   · cases e
end Go.Proofs.YtpncgjcflkhemabGreat
namespace Go.Proofs.YtpncgjcflkhemabGreat
open Clk Go.Proofs
theorem z05h : z2g.prim = primW := by
 funext f
 by_cases h : f < 123
 · have key : (List.range 123).map z2g.prim = (List.range 123).map primW := by kernel_rfl
   have := congrArg (fun l => l[f]?) key; simp only [List.getElem?_map, List.getElem?_range h, Option.map_some] at this; exact Option.some.inj this
 · have h' : 123 <= f := Nat.le_of_not_lt h; have hl : z2g.cl.length = 123 := by kernel_rfl
   have h1 : z2g.cl.length <= f := Nat.le_trans (Nat.le_of_eq hl) h'; have n1 : f ≠ 51 := fun e => absurd (e ▸ h') (by decide)
   have n2 : f ≠ 46 := fun e => absurd (e ▸ h') (by decide)
   unfold Seat.prim primW; rw [zI, List.getElem?_eq_none h1, if_neg n1, if_neg n2]; rfl
theorem zm : PrimOk Tryz.prog z2g.prim := by rw [z05h]; exact z02o
end Go.Proofs.YtpncgjcflkhemabGreat
namespace Go.Proofs.YtpncgjcflkhemabGreat
open Clk Go Go.Proofs
theorem zoa {W : World} {b : Nat} {s : ByteArray} {t : TypeId} (h : W.heap[b]? = some (.cells #[.string s] t (0, 0))) : W.cell? ⟨b, 0, none⟩ = some (.string s) /\ W.frozen? ⟨b, 0, none⟩ = false := by
 constructor
 · unfold World.cell?; rw [h]; rfl
 · unfold World.frozen?; rw [h]; simp
set_option maxHeartbeats 1000000 in
theorem zob {U : Str -> Option (List Int × Str × Int)} (hU : z9m Tryz.prog 96 U) {s r : Str} {l : List Int} (h : U s = some (l, r, 0)) (b : Nat) (t : TypeId) (w : World) (N : Nat -> Prop) (hN : ∀ x, N x -> x < w.heap.size) (hb : w.heap[b]? = some (.cells #[.string ⟨s.toArray⟩] t (0, 0))) (hNb : N b) :
 Calls Tryz.prog 85 #[.pointer (some ⟨b, 0, none⟩)] w fun en w' => ∃ v, en = .returned v /\ Gr (fun x => x = b) w w' /\ RelI w' N (eInts l) v /\ w'.heap[b]? = some (.cells #[.string ⟨r.toArray⟩] t (0, 0)) := by
 obtain ⟨c1, c2⟩ := zoa hb; have hc := hU s l r 0 h w N hN; have hbl : b < w.heap.size := (Array.getElem?_eq_some_iff.1 hb).1; go_enter Tryz.func85, Tryz.ntmps85
 go_wp2_with (go_at_call 96; refine hc.mono ?_; rintro e w' ⟨v, rfl, hg, hv⟩; obtain ⟨c3, c4⟩ := zoa ((hg.same b hbl id).trans hb))
 go_ret
 have hs := (hg.wider (L' := fun x => x = b) fun _ h => h.elim).trans (Gr.setCell (L := fun x => x = b) w' b 0 (.string ⟨r.toArray⟩) rfl); refine ⟨v, rfl, hs, (Gr.setCell (L := fun x => x = b) w' b 0 (.string ⟨r.toArray⟩) rfl).rel' (fun x e => by subst e; exact hNb) hv, ?_⟩; rw [z3c, if_pos rfl, (hg.same b hbl id).trans hb]; rfl
set_option maxHeartbeats 1000000 in
theorem zvg {U : Str -> Option (List Int × Str × Int)} (hU : z9m Tryz.prog 96 U) {s r : Str} {l : List Int} {e : Int} (h : U s = some (l, r, e)) (he : e ≠ 0) (b : Nat) (t : TypeId) (w : World) (hb : w.heap[b]? = some (.cells #[.string ⟨s.toArray⟩] t (0, 0))) :
 Calls Tryz.prog 85 #[.pointer (some ⟨b, 0, none⟩)] w fun en w' => en = .panicked [{ v := .iface 36 (.int .i64 30), recovered := false }] /\ Gr (fun _ => False) w w' := by
 obtain ⟨c1, c2⟩ := zoa hb; have hc := hU s l r e h w (fun _ => False) (fun _ h => h.elim); have hd : (e != 0) = true := by simpa using he
 go_enter Tryz.func85, Tryz.ntmps85
 go_wp2_with (go_at_call 96; refine hc.mono ?_; rintro e w' ⟨v, rfl, hg, hv⟩)
 exact ⟨rfl, rfl, hg⟩
set_option maxHeartbeats 2000000 in
theorem zhm (p q : Nat) (pc : Array Value) (qc : Value) (older : List PanicEntry) (w : World) (hp : w.heap[p]? = some (.cells pc 70 (0, 0))) (hps : pc.size = 4) (hq : w.heap[q]? = some (.cells #[qc] 36 (0, 0))) (hpq : p ≠ q) :
 CallsD Tryz.prog 84 #[.pointer (some ⟨p, 0, none⟩), .pointer (some ⟨q, 0, none⟩)] (.panicking ({ v := .iface 36 (.int .i64 30), recovered := false } :: older)) w fun e u' w' =>
  e = .returned (.tuple #[]) /\ u' = .panicking ({ v := .iface 36 (.int .i64 30), recovered := true } :: older) /\ Gr (fun x => x = p \/ x = q) w w' /\
  w'.heap[p]? = some (.cells #[.int .i64 0, .int .i64 0, .slice none 0 0, .slice none 0 0] 70 (0, 0)) /\ w'.heap[q]? = some (.cells #[.int .i64 30] 36 (0, 0)) := by
 refine callsD_of_wpS Tryz.func84 rfl fun c₀ cs hu => ?_
 apply wpS_seq
 apply wpS_region
 simp [wpOpsS, go_sem, recoverD, hu, Tryz.ntmps84, Exit.thenS]; apply wpS_seq
 apply wpS_region
 simp [wpOpsS, go_sem, Exit.thenS]; refine wpS_cond (t := true) (by simp [Act.eval, Array.replicate]) ?_; simp only [if_true]; refine wpS_of_wp ?_; change Code.wp Tryz.prog _ _ { tmps := #[.pointer (some ⟨p, 0, none⟩), .pointer (some ⟨q, 0, none⟩), undef, undef, .iface 36 (.int .i64 30), .iface 36 (.int .i64 30), .iface 36 (.int .i64 30), .bool true, undef, undef, undef, undef, undef, undef, undef], defers := [] } w
 have hf : ∀ i, w.frozen? ⟨p, i, none⟩ = false := fun i => by unfold World.frozen?; rw [hp]; simp
 have hcl : ∀ i, i < 4 -> ∃ v, w.cell? ⟨p, i, none⟩ = some v := fun i hi => by
  unfold World.cell?; rw [hp]; exact ⟨pc[i]'(by omega), by show pc[i]? = _; rw [Array.getElem?_eq_getElem]⟩
 obtain ⟨p0, c0⟩ := hcl 0 (by omega); obtain ⟨p1, c1⟩ := hcl 1 (by omega); obtain ⟨p2, c2⟩ := hcl 2 (by omega); obtain ⟨p3, c3⟩ := hcl 3 (by omega); have f0 := hf 0; have f1 := hf 1; have f2 := hf 2; have f3 := hf 3; have d0 : w.cell? ⟨q, 0, none⟩ = some qc := by unfold World.cell?; rw [hq]; rfl
 have g0 : w.frozen? ⟨q, 0, none⟩ = false := by unfold World.frozen?; rw [hq]; simp
 have hT : ∀ W : World, (Instr.typeAssert (.iface 36 (.int .i64 30)) 20 36 false).run Tryz.prog W = .ok (.int .i64 30) W := fun W => by kernel_rfl
 go_region
 cases c₀; simp only [bodyPostS, results, Tryz.results84]; obtain ⟨s1, s2⟩ := store4 w hp hps (.int .i64 0) (.int .i64 0) (.slice none 0 0) (.slice none 0 0); obtain ⟨s3, s4⟩ := store1 _ ((s1.same q (Array.getElem?_eq_some_iff.1 hq).1 fun e => hpq e.symm).trans hq) (.int .i64 30); refine ⟨trivial, _, rfl, .tuple #[], by simp [go_sem], rfl, rfl, (((s1.wider (L' := fun x => x = p \/ x = q) fun _ h => .inl h).trans (s3.wider fun _ h => .inr h))).drew, ?_, s4⟩; exact (s3.same p (Nat.lt_of_lt_of_le (Array.getElem?_eq_some_iff.1 hp).1 s1.size) hpq).trans s2
set_option maxHeartbeats 2000000 in
theorem zk7 (p q : Value) (w : World) :
 CallsD Tryz.prog 84 #[p, q] .returning w fun e u' w' => e = .returned (.tuple #[]) /\ u' = .returning /\ w' = w := by
 refine callsD_of_wpS Tryz.func84 rfl fun c₀ cs hu => ?_
 apply wpS_seq
 apply wpS_region
 simp [wpOpsS, go_sem, recoverD, hu, Tryz.ntmps84, Exit.thenS]; apply wpS_seq
 apply wpS_region
 simp [wpOpsS, go_sem, Exit.thenS]; refine wpS_cond (t := false) (by simp [Act.eval, Array.replicate]) ?_; simp only [Bool.false_eq_true, if_false]; refine wpS_of_wp (wp_skip ?_); cases c₀; simp_all [bodyPostS, results, Tryz.results84]
set_option maxHeartbeats 4000000 in
theorem z00e {U : Str -> Option (List Int × Str × Int)} (hU : z9m Tryz.prog 96 U) {s r : Str} {l : List Int} {e : Int} (h : U s = some (l, r, e)) (he : e ≠ 0) (w : World) :
 Calls Tryz.prog 69 #[.string ⟨s.toArray⟩] w fun en w' => en = .returned (.tuple #[.agg #[.int .i64 0, .int .i64 0, .slice none 0 0, .slice none 0 0], .int .i64 30]) /\ Gr (fun _ => False) w w' := by
 obtain ⟨z1, z2, z3, z4, z5⟩ := alloc3 w (.cells #[.int .i64 0, .int .i64 0, .slice none 0 0, .slice none 0 0] 70) (.cells #[.int .i64 0] 36) (.cells #[.string ⟨s.toArray⟩] 148); go_enter_defers Tryz.func69, Tryz.ntmps69
 go_wp2_with (go_at_call 85; refine (zvg hU h he _ 148 _ z4).mono ?_; rintro e w' ⟨rfl, hg⟩)
 refine leaves_cons (f := 84) (args := #[.pointer (some ⟨w.heap.size, 0, none⟩), .pointer (some ⟨w.heap.size + 1, 0, none⟩)]) (by simp) (by simp [go_sem]) ?_; refine (zhm w.heap.size (w.heap.size + 1) _ _ [] _ ((hg.same _ (by omega) id).trans z2) rfl ((hg.same _ (by omega) id).trans z3) (by omega)).mono ?_; rintro e u' w'' ⟨rfl, rfl, k1, k2, k3⟩
 obtain ⟨q0, q1, q2, q3, _⟩ := cells4 k2; obtain ⟨q4, _⟩ := cells1 k3; simp [Leaves, settle, results, Tryz.results69, go_sem, q0, q1, q2, q3, q4]; exact (z1.trans hg).hide k1 (fun r h => by omega)
set_option maxHeartbeats 4000000 in
theorem z02p {U : Str -> Option (List Int × Str × Int)} (hU : z9m Tryz.prog 96 U) {s r : Str} {l : List Int} (h : U s = some (l, r, 0)) (hl : l.length ≠ 2) (w : World) :
 Calls Tryz.prog 69 #[.string ⟨s.toArray⟩] w fun en w' => en = .returned (.tuple #[.agg #[.int .i64 0, .int .i64 0, .slice none 0 0, .slice none 0 0], .int .i64 30]) /\ Gr (fun _ => False) w w' := by
 obtain ⟨z1, z2, z3, z4, z5⟩ := alloc3 w (.cells #[.int .i64 0, .int .i64 0, .slice none 0 0, .slice none 0 0] 70) (.cells #[.int .i64 0] 36) (.cells #[.string ⟨s.toArray⟩] 148); have hd : ((l.length : Int) != 2) = true := by simp; omega
 go_enter_defers Tryz.func69, Tryz.ntmps69
 go_wp2_with (go_at_call 85; refine (zob hU h _ 148 _ (fun x => x = w.heap.size + 1 + 1) (fun x hx => by omega) z4 rfl).mono ?_; rintro e w' ⟨v, rfl, hg, hv, hb⟩; obtain ⟨a, c, rfl, hv⟩ := zii hv; have y2 := (hg.same w.heap.size (by omega) (by omega)).trans z2; have y3 := (hg.same (w.heap.size + 1) (by omega) (by omega)).trans z3; obtain ⟨q0, q1, q2, q3, q4, q5, q6, q7⟩ := cells4 y2; obtain ⟨q8, q9⟩ := cells1 y3)
 obtain ⟨s1, s2⟩ := store4 w' y2 rfl (.int .i64 0) (.int .i64 0) (.slice none 0 0) (.slice none 0 0); have y3' := (s1.same (w.heap.size + 1) (Nat.lt_of_lt_of_le (by omega) hg.size) (by omega)).trans y3; obtain ⟨s3, s4⟩ := store1 _ y3' (.int .i64 30); have s5 := (s3.same w.heap.size (Nat.lt_of_lt_of_le (by omega) (Nat.le_trans hg.size s1.size)) (by omega)).trans s2; refine leaves_cons (f := 84) (args := #[.pointer (some ⟨w.heap.size, 0, none⟩), .pointer (some ⟨w.heap.size + 1, 0, none⟩)]) (by simp) (by simp [go_sem]) ?_; refine (zk7 _ _ _).mono ?_; rintro e u' w'' ⟨rfl, rfl, rfl⟩
 obtain ⟨q0, q1, q2, q3, _⟩ := cells4 s5; obtain ⟨q4, _⟩ := cells1 s4; simp [Leaves, settle, results, Tryz.results69, go_sem, q0, q1, q2, q3, q4]; exact ((z1.hide hg (fun r h => by omega)).hide s1 (fun r h => by omega)).hide s3 (fun r h => by omega)
set_option maxHeartbeats 4000000 in
theorem zqu {U : Str -> Option (List Int × Str × Int)} (hU : z9m Tryz.prog 96 U) {M : List Int -> Option (List Int)} (hM : MovedAt Tryz.prog 86 M) {s r1 r2 r3 : Str} {l1 l2 l3 l4 : List Int} {e3 : Int} (h1 : U s = some (l1, r1, 0)) (hl : l1.length = 2) (h2 : U r1 = some (l2, r2, 0)) (h3 : U r2 = some (l3, r3, e3)) (h4 : e3 = 0 -> M l3 = some l4) (w : World) :
 Calls Tryz.prog 69 #[.string ⟨s.toArray⟩] w fun en w' => ∃ v, en = .returned (.tuple #[v, .int .i64 (if e3 = 0 then 0 else 30)]) /\ Gr (fun _ => False) w w' /\ RelI w' (fun x => x < w.heap.size) (.agg (eRecord (if e3 = 0 then ⟨l1[0], l1[1], l2, l4⟩ else ⟨0, 0, [], []⟩))) v := by
 obtain ⟨z1, z2, z3, z4, z5⟩ := alloc3 w (.cells #[.int .i64 0, .int .i64 0, .slice none 0 0, .slice none 0 0] 70) (.cells #[.int .i64 0] 36) (.cells #[.string ⟨s.toArray⟩] 148); have hd : ((2 : Int) != 2) = false := rfl; go_enter_defers Tryz.func69, Tryz.ntmps69
 go_wp2_with (go_at_call 85; refine (zob hU h1 _ 148 _ (fun x => x < w.heap.size + 3) (fun x hx => by omega) z4 (by omega)).mono ?_; rintro e w' ⟨v, rfl, hg, hv, hb⟩; obtain ⟨a, c, rfl, hvc⟩ := zii hv; have y2 := (hg.same w.heap.size (by omega) (by omega)).trans z2; have y3 := (hg.same (w.heap.size + 1) (by omega) (by omega)).trans z3; obtain ⟨q0, q1, q2, q3, q4, q5, q6, q7⟩ := cells4 y2; obtain ⟨q8, q9⟩ := cells1 y3; obtain ⟨ad, rfl, g1, g2, g3, g4⟩ := hvc 0 (by omega); obtain ⟨ad', e', g1', g2', g3', g4'⟩ := hvc 1 (by omega); cases e'; rw [hl])
 obtain ⟨ab, ao, sp⟩ := ad; simp only at g1 g3 g4 g4' g2; subst g1; rw [Nat.add_zero] at g4; have n2 : ab ≠ w.heap.size + 1 + 1 := by omega
 have n3 : ab ≠ w.heap.size := by omega
 have hz := hg.size; go_region_held3 (fun W : World => W.cell? ⟨ab, ao, none⟩ = some (.int .i64 l1[0]) /\ W.cell? ⟨ab, ao + 1, none⟩ = some (.int .i64 l1[1])) (first | exact ⟨g4, g4'⟩ | exact ⟨kk1, kk2⟩ | (refine ⟨?_, ?_⟩ <;> simp only [zk0 _ _ _ _ _ _ n3, kk1, kk2])) (first | (go_at_call 85; refine (zob hU h2 _ 148 w'.drew (fun x => x < w.heap.size + 3) (fun x hx => Nat.lt_of_lt_of_le hx (by show w.heap.size + 3 <= w'.heap.size; omega)) hb (by omega)).mono ?_; rintro e w2 ⟨v2, rfl, hg2, hv2, hb2⟩; obtain ⟨a2, c2, hve, _⟩ := zii hv2; subst hve; have yy2 := (hg2.same w.heap.size (by show w.heap.size < w'.heap.size; omega) (by omega)).trans y2; obtain ⟨Q0, Q1, Q2, Q3, Q4, Q5, Q6, Q7⟩ := cells4 yy2; have kk0 := hg2.same ab g3 n2; have kk1 := (z37 kk0).trans g4; have kk2 := (z37 kk0).trans g4'))
 obtain ⟨s1, s2⟩ := store4 w2 yy2 rfl (.int .i64 l1[0]) (.int .i64 l1[1]) (.slice a2 l2.length c2) (.slice none 0 0); have tz : Gr (fun _ => False) w ((((w2.setCell ⟨w.heap.size, 0, none⟩ (.int .i64 l1[0])).setCell ⟨w.heap.size, 1, none⟩ (.int .i64 l1[1])).setCell ⟨w.heap.size, 2, none⟩ (.slice a2 l2.length c2)).setCell ⟨w.heap.size, 3, none⟩ (.slice none 0 0)) :=
  (((z1.hide hg (fun r h => by omega)).drew).hide hg2 (fun r h => by omega)).hide s1 (fun r h => by omega)
 have hz2 : w.heap.size + 3 <= w2.heap.size := Nat.le_trans (by show _ <= w'.heap.size; omega) hg2.size; have t4 := (s1.same (w.heap.size + 1 + 1) (by omega) (by omega)).trans hb2; have t3 := (s1.same (w.heap.size + 1) (by omega) (by omega)).trans ((hg2.same (w.heap.size + 1) (by show _ < w'.heap.size; omega) (by omega)).trans y3); have tv := s1.rel' (N := fun x => x < w.heap.size + 3) (fun x e => by omega) hv2; have hz3 := Nat.le_trans hz2 s1.size; generalize ((((w2.setCell ⟨w.heap.size, 0, none⟩ (.int .i64 l1[0])).setCell ⟨w.heap.size, 1, none⟩ (.int .i64 l1[1])).setCell ⟨w.heap.size, 2, none⟩ (.slice a2 l2.length c2)).setCell ⟨w.heap.size, 3, none⟩ (.slice none 0 0)) = w3 at s1 s2 tz t4 t3 tv hz3 ⊢; clear q0 q1 q2 q3 q4 q5 q6 q7 q8 q9 Q0 Q1 Q2 Q3 Q4 Q5 Q6 Q7 kk0 kk1 kk2 g4 g4'; by_cases he : e3 = 0
 · subst he; have hm : M l3 = some l4 := h4 rfl; go_wp2_with (go_at_call 85; refine (zob hU h3 _ 148 w3 (fun x => x < w.heap.size + 3) (fun x hx => Nat.lt_of_lt_of_le hx hz3) t4 (by omega)).mono ?_; rintro e w4 ⟨v3, rfl, hg3, hv3, hb3⟩; have u2 := (hg3.same w.heap.size (by omega) (by omega)).trans s2; have u1 := (hg3.same (w.heap.size + 1) (by omega) (by omega)).trans t3; have hz4 := Nat.le_trans hz3 hg3.size)
   refine (hM l3 l4 hm w4 (fun x => x < w.heap.size + 3) v3 (fun x hx => Nat.lt_of_lt_of_le hx hz4) hv3).mono ?_; rintro e w5 ⟨v4, rfl, hg4, hv4⟩
   obtain ⟨a4, c4, hve4, _⟩ := zii hv4; subst hve4; have x2 := (hg4.same w.heap.size (by omega) id).trans u2; have x1 := (hg4.same (w.heap.size + 1) (by omega) id).trans u1; obtain ⟨Q0, Q1, Q2, Q3, Q4, Q5, Q6, Q7⟩ := cells4 x2; obtain ⟨Q8, Q9⟩ := cells1 x1; go_wp2
   obtain ⟨a1, a2'⟩ := store3 w5 x2 (.slice a4 l4.length c4); obtain ⟨b1, b2⟩ := store4 _ a2' rfl (.int .i64 l1[0]) (.int .i64 l1[1]) (.slice a2 l2.length c2) (.slice a4 l4.length c4); have hz5 := Nat.le_trans hz4 hg4.size; have b3 := (b1.same (w.heap.size + 1) (Nat.lt_of_lt_of_le (by omega) a1.size) (by omega)).trans ((a1.same (w.heap.size + 1) (by omega) (by omega)).trans x1); obtain ⟨d1, d2⟩ := store1 _ b3 (.int .i64 0); have d3 := (d1.same w.heap.size (Nat.lt_of_lt_of_le (by omega) (Nat.le_trans a1.size b1.size)) (by omega)).trans b2; have gAll : Gr (fun x => x < w.heap.size + 3) w3 _ := ((((hg3.wider fun _ h => by omega).trans (hg4.wider fun _ h => h.elim)).trans (a1.wider fun _ h => by omega)).trans (b1.wider fun _ h => by omega)).trans (d1.wider fun _ h => by omega); have gTail : Gr (fun x => x < w.heap.size + 3) w5 _ := ((a1.wider fun _ h => by omega).trans (b1.wider fun _ h => by omega)).trans (d1.wider fun _ h => by omega); refine leaves_cons (f := 84) (args := #[.pointer (some ⟨w.heap.size, 0, none⟩), .pointer (some ⟨w.heap.size + 1, 0, none⟩)]) (by simp) (by simp [go_sem]) ?_; refine (zk7 _ _ _).mono ?_; rintro e u' w'' ⟨rfl, rfl, rfl⟩
   obtain ⟨q0, q1, q2, q3, _⟩ := cells4 d3; obtain ⟨q4, _⟩ := cells1 d2; have fin1 := ((((tz.hide hg3 (fun r h => by omega)).hide hg4 (fun r h => h.elim)).hide a1 (fun r h => by omega)).hide b1 (fun r h => by omega)).hide d1 (fun r h => by omega); have fin2 := zo7 (a := l1[0]) (b := l1[1]) (gAll.rel (N' := fun x => x < w.heap.size) (fun _ h => h) (fun _ h => by omega) tv) (gTail.rel (N' := fun x => x < w.heap.size) (fun _ h => h) (fun _ h => by omega) hv4); simp [Leaves, settle, results, Tryz.results69, go_sem, q0, q1, q2, q3, q4]; exact ⟨fin1, fin2⟩
 · go_wp2_with (go_at_call 85; refine (zvg hU h3 he _ 148 w3 t4).mono ?_; rintro e w4 ⟨rfl, hg3⟩)
   refine leaves_cons (f := 84) (args := #[.pointer (some ⟨w.heap.size, 0, none⟩), .pointer (some ⟨w.heap.size + 1, 0, none⟩)]) (by simp) (by simp [go_sem]) ?_; refine (zhm w.heap.size (w.heap.size + 1) _ _ [] _ ((hg3.same _ (by omega) id).trans s2) rfl ((hg3.same _ (by omega) id).trans t3) (by omega)).mono ?_; rintro e u' w'' ⟨rfl, rfl, k1, k2, k3⟩
   obtain ⟨q0, q1, q2, q3, _⟩ := cells4 k2; obtain ⟨q4, _⟩ := cells1 k3; have fin1 := (tz.hide hg3 (fun r h => h.elim)).hide k1 (fun r h => by omega); have fin2 := zo7 (w := w'') (N := fun x => x < w.heap.size) (a := 0) (b := 0) zge zge; simp [Leaves, settle, results, Tryz.results69, go_sem, q0, q1, q2, q3, q4, he]; exact ⟨fin1, fin2⟩
theorem z05i {U : Str -> Option (List Int × Str × Int)} (hU : z9m Tryz.prog 96 U) {M : List Int -> Option (List Int)} (hM : MovedAt Tryz.prog 86 M) : ReadAt Tryz.prog 69 U M := by
 intro s r e h w; unfold readF at h; split at h
 · cases h
 · rename_i l1 r1 e1 h1; by_cases he1 : e1 = 0
   · subst he1; rw [zT rfl, zC] at h; by_cases hl : l1.length = 2
     · rw [zT hl, zC] at h; split at h
       · cases h
       · rename_i l2 r2 e2 h2; by_cases he2 : e2 = 0
         · subst he2; rw [zT rfl, zC] at h; split at h
           · cases h
           · rename_i l3 r3 e3 h3; by_cases he3 : e3 = 0
             · rw [zT he3, zC] at h; split at h
               · cases h
               · rename_i l4 h4; cases h; have := zqu hU hM h1 hl h2 h3 (fun _ => h4) w; rw [if_pos he3, if_pos he3] at this; rw [show l1.getD 0 0 = l1[0] by simp [zI, zH (show 0 < l1.length by omega)], show l1.getD 1 0 = l1[1] by simp [zI, zH (show 1 < l1.length by omega)]]; exact this
             · rw [zF he3, zD] at h; cases h; have := zqu hU hM (l4 := []) h1 hl h2 h3 (fun e => absurd e he3) w; rw [if_neg he3, if_neg he3] at this; exact this
         · rw [zF he2, zD] at h; cases h
     · rw [zF hl, zD] at h; cases h; exact (z02p hU h1 hl w).mono fun en w' ⟨k1, k2⟩ => ⟨_, k1, k2, zo7 zge zge⟩
   · rw [zF he1, zD] at h; cases h; exact (z00e hU h1 he1 w).mono fun en w' ⟨k1, k2⟩ => ⟨_, k1, k2, zo7 zge zge⟩
end Go.Proofs.YtpncgjcflkhemabGreat
namespace Clk.YtpncgjcflkhemabGreat
open Go Go.Proofs Go.Proofs.YtpncgjcflkhemabGreat
noncomputable def LN : List (FuncId × Spec) := []
theorem ok_N : zo Tryz.prog (zq LN) := z005
noncomputable def zdf : Nat -> Option Tmpl := fun _ => none
noncomputable def zdg : Nat -> Nat -> Option (Nat × Nat) := fun _ _ => none
theorem zoc (N : Nat) (a0 : Int) : z34 (z2g.mk' (z1s LN) zdf zdg) N 400 5 [(.int .u8)] [.geometry] a0 = z5r a0 := by kernel_rfl
noncomputable def zae : List (FuncId × Spec) := (5, ⟨[(.int .u8)], [.geometry], z5s⟩) :: LN
theorem zln : zo Tryz.prog (zq zae) := z8 z06 z3f zm ok_N (by kernel_rfl) ⟨_, Tryz.func5, by rfl⟩ (tm := zdf) (gh := zdg) fun x y h => ⟨0, 400, (zoc 0 x).trans h⟩
noncomputable def zc4 : Nat -> Option Tmpl := fun cx => cond (Nat.beq cx 1) (some ⟨[], [], 19, [], ([.var (.list .bool), .var .bool, J, J, J, J, J, .var .i, .var .i] ++ jN 10), [], []⟩) <| none
theorem zlo (N : Nat) (a0 : (List Bool)) (a1 : Bool) : z34 (z2g.mk' (z1s zae) zc4 zdg) N 400 54 [(.list .bool), .bool] [.i] (a0, a1) = zde N a0 a1 := by kernel_rfl
noncomputable def z8o : List (FuncId × Spec) := (54, ⟨[(.list .bool), .bool], [.i], z8m⟩) :: zae
theorem zk8 : zo Tryz.prog (zq z8o) := z8 z06 z3f zm zln (by kernel_rfl) ⟨_, Tryz.func54, by rfl⟩ (tm := zc4) (gh := zdg) fun x y h => by obtain ⟨N, h⟩ := zp h; exact ⟨N, 400, (zlo N x.1 x.2).trans h⟩
theorem zgq (N : Nat) (a0 : (List Bool)) (a1 : Bool) : z34 (z2g.mk' (z1s z8o) zdf zdg) N 400 41 [(.list .bool), .bool] [.bool] (a0, a1) = z2e a0 a1 := by kernel_rfl
noncomputable def z4e : List (FuncId × Spec) := (41, ⟨[(.list .bool), .bool], [.bool], z4c⟩) :: z8o
theorem zfc : zo Tryz.prog (zq z4e) := z8 z06 z3f zm zk8 (by kernel_rfl) ⟨_, Tryz.func41, by rfl⟩ (tm := zdf) (gh := zdg) fun x y h => ⟨0, 400, (zgq 0 x.1 x.2).trans h⟩
theorem zxe (N : Nat) (a0 : (List Bool)) : z34 (z2g.mk' (z1s z4e) zdf zdg) N 400 26 [(.list .bool)] [.bool] a0 = zd1 a0 := by kernel_rfl
noncomputable def zgr : List (FuncId × Spec) := (26, ⟨[(.list .bool)], [.bool], zgl⟩) :: z4e
theorem zti : zo Tryz.prog (zq zgr) := z8 z06 z3f zm zfc (by kernel_rfl) ⟨_, Tryz.func26, by rfl⟩ (tm := zdf) (gh := zdg) fun x y h => ⟨0, 400, (zxe 0 x).trans h⟩
theorem zod (N : Nat) (a0 : Int) (a1 : Int) (a2 : Int) : z34 (z2g.mk' (z1s zgr) zdf zdg) N 400 27 [.i, .i, .i] [.bool] (a0, a1, a2) = z69 a0 a1 a2 := by kernel_rfl
noncomputable def zaf : List (FuncId × Spec) := (27, ⟨[.i, .i, .i], [.bool], z2f⟩) :: zgr
theorem zlp : zo Tryz.prog (zq zaf) := z8 z06 z3f zm zti (by kernel_rfl) ⟨_, Tryz.func27, by rfl⟩ (tm := zdf) (gh := zdg) fun x y h => ⟨0, 400, (zod 0 x.1 x.2.1 x.2.2).trans h⟩
theorem ztj (N : Nat) (a0 : Geometry) : z34 (z2g.mk' (z1s zaf) zdf zdg) N 400 12 [.geometry] [.bool] a0 = za8 a0 := by kernel_rfl
noncomputable def ze9 : List (FuncId × Spec) := (12, ⟨[.geometry], [.bool], z4d⟩) :: zaf
theorem zqv : zo Tryz.prog (zq ze9) := z8 z06 z3f zm zlp (by kernel_rfl) ⟨_, Tryz.func12, by rfl⟩ (tm := zdf) (gh := zdg) fun x y h => ⟨0, 400, (ztj 0 x).trans h⟩
theorem z00f (N : Nat) (a0 : Chip) : z34 (z2g.mk' (z1s ze9) zdf zdg) N 400 19 [.chip] [.chip] a0 = zqs a0 := by kernel_rfl
noncomputable def zk9 : List (FuncId × Spec) := (19, ⟨[.chip], [.chip], zc3⟩) :: ze9
theorem zxf : zo Tryz.prog (zq zk9) := z8 z06 z3f zm zqv (by kernel_rfl) ⟨_, Tryz.func19, by rfl⟩ (tm := zdf) (gh := zdg) fun x y h => ⟨0, 400, (z00f 0 x).trans h⟩
theorem zoe (N : Nat) (a0 : Int) (a1 : Str) (a2 : Bool) : z34 (z2g.mk' (z1s zk9) zdf zdg) N 400 105 [.i, .str, .bool] [.i, .str, .bool] (a0, a1, a2) = z63 a0 a1 a2 := by kernel_rfl
noncomputable def zag : List (FuncId × Spec) := (105, ⟨[.i, .str, .bool], [.i, .str, .bool], z64⟩) :: zk9
theorem zlq : zo Tryz.prog (zq zag) := z8 z06 z3f zm zxf (by kernel_rfl) ⟨_, Tryz.func105, by rfl⟩ (tm := zdf) (gh := zdg) fun x y h => ⟨0, 400, (zoe 0 x.1 x.2.1 x.2.2).trans h⟩
noncomputable def zhn : Nat -> Option Tmpl := fun cx => cond (Nat.beq cx 1) (some ⟨[], [], 42, [], ([.var .str, J, .var .i] ++ jN 6 ++ [.var .i, .var .i] ++ jN 31), [], []⟩) <| none
theorem ztk (N : Nat) (a0 : Str) : z34 (z2g.mk' (z1s zag) zhn zdg) N 400 101 [.str] [.i, .str, .bool] a0 = zk3 N a0 := by kernel_rfl
noncomputable def zea : List (FuncId × Spec) := (101, ⟨[.str], [.i, .str, .bool], za3⟩) :: zag
theorem zqw : zo Tryz.prog (zq zea) := z8 z06 z3f zm zlq (by kernel_rfl) ⟨_, Tryz.func101, by rfl⟩ (tm := zhn) (gh := zdg) fun x y h => by obtain ⟨N, h⟩ := zp h; exact ⟨N, 400, (ztk N x).trans h⟩
noncomputable def zdh : Nat -> Option Tmpl := fun cx => cond (Nat.beq cx 6) (some ⟨[.tmp 2 .i], [(0, .i)], 40, [.dead, .blk .i 0 true], ([J, J, .fix (.bref 1 0), .var .str] ++ jN 18 ++ [.var .i, .var .i] ++ jN 16 ++ [.var (.list .i)]), [], []⟩) <| none
theorem zof (N : Nat) (a0 : Str) : z34 (z2g.mk' (z1s zea) zdh zdg) N 400 96 [.str] [(.list .i), .str, .i] a0 = z65 N a0 := by kernel_rfl
noncomputable def zah : List (FuncId × Spec) := (96, ⟨[.str], [(.list .i), .str, .i], z3r⟩) :: zea
theorem zlr : zo Tryz.prog (zq zah) := z8 z06 z3f zm zqw (by kernel_rfl) ⟨_, Tryz.func96, by rfl⟩ (tm := zdh) (gh := zdg) fun x y h => by obtain ⟨N, h⟩ := zp h; exact ⟨N, 400, (zof N x).trans h⟩
noncomputable def zho : Nat -> Option Tmpl := fun cx => cond (Nat.beq cx 1) (some ⟨[], [], 22, [.blk .i 0 false], ([.fix (.bref 0 0), .var .i, J, J, J, J, J, .fix (.bref 0 0), .fix (.bref 0 0), .var .i, .var .i] ++ jN 11 ++ [.var (.list .i)]), [], []⟩) <| none
theorem ztl (N : Nat) (a0 : (List Int)) (a1 : Int) : z34 (z2g.mk' (z1s zah) zho zdg) N 400 86 [(.list .i), .i] [(.list .i)] (a0, a1) = za1 N a0 a1 := by kernel_rfl
noncomputable def zka : List (FuncId × Spec) := (86, ⟨[(.list .i), .i], [(.list .i)], z35⟩) :: zah
theorem zc5 : zo Tryz.prog (zq zka) := z8 z06 z3f zm zlr (by kernel_rfl) ⟨_, Tryz.func86, by rfl⟩ (tm := zho) (gh := zdg) fun x y h => by obtain ⟨N, h⟩ := zp h; exact ⟨N, 400, (ztl N x.1 x.2).trans h⟩
noncomputable def zgs : List (FuncId × Spec) := (69, ⟨[.str], [.record, .i], zgj⟩) :: zka
theorem ztm : zo Tryz.prog (zq zgs) := z00a (U := z3r) (M := fun l => z35 (l, -1)) zc5 ⟨_, Tryz.func69, by rfl⟩ (z05i (z009 zc5 (by kernel_rfl)) (z02m (h := z35) zc5 (by kernel_rfl)))
theorem ztn (N : Nat) (a0 : Int) : z34 (z2g.mk' (z1s zgs) zdf zdg) N 400 64 [.i] [.bool] a0 = ze1 a0 := by kernel_rfl
noncomputable def zeb : List (FuncId × Spec) := (64, ⟨[.i], [.bool], z9u⟩) :: zgs
theorem zqx : zo Tryz.prog (zq zeb) := z8 z06 z3f zm ztm (by kernel_rfl) ⟨_, Tryz.func64, by rfl⟩ (tm := zdf) (gh := zdg) fun x y h => ⟨0, 400, (ztn 0 x).trans h⟩
theorem zxg (N : Nat) (a0 : Int) (a1 : Int) : z34 (z2g.mk' (z1s zeb) zdf zdg) N 400 106 [.i, .i] [.bool] (a0, a1) = zcy a0 a1 := by kernel_rfl
noncomputable def zgt : List (FuncId × Spec) := (106, ⟨[.i, .i], [.bool], zgf⟩) :: zeb
theorem zto : zo Tryz.prog (zq zgt) := z8 z06 z3f zm zqx (by kernel_rfl) ⟨_, Tryz.func106, by rfl⟩ (tm := zdf) (gh := zdg) fun x y h => ⟨0, 400, (zxg 0 x.1 x.2).trans h⟩
noncomputable def z83 : Nat -> Option Tmpl := fun cx => cond (Nat.beq cx 1) (some ⟨[], [], 21, [], ([.var (.list .i), J, J, .var .i] ++ jN 17), [], []⟩) <| none
theorem zgu (N : Nat) (a0 : (List Int)) : z34 (z2g.mk' (z1s zgt) z83 zdg) N 400 103 [(.list .i)] [.bool] a0 = z49 N a0 := by kernel_rfl
noncomputable def z4f : List (FuncId × Spec) := (103, ⟨[(.list .i)], [.bool], z4a⟩) :: zgt
theorem zfd : zo Tryz.prog (zq z4f) := z8 z06 z3f zm zto (by kernel_rfl) ⟨_, Tryz.func103, by rfl⟩ (tm := z83) (gh := zdg) fun x y h => by obtain ⟨N, h⟩ := zp h; exact ⟨N, 400, (zgu N x).trans h⟩
noncomputable def zkb : Nat -> Option Tmpl := fun cx => cond (Nat.beq cx 1) (some ⟨[], [], 19, [], ([.var (.list .i), .fix (.fn 102 [] []), J, J, J, J, J, .var .i, .var .i] ++ jN 10), [], []⟩) <| cond (Nat.beq cx 5) (some ⟨[], [], 19, [.blk .i 0 false], ([.var (.list .i), .fix (.fn 102 [] []), J, J, J, J, J, .var .i, .var .i] ++ jN 10 ++ [.var (.list .i)]), [], []⟩) <| cond (Nat.beq cx 6) (some ⟨[], [], 61, [.blk .i 0 false], ([.fix (.bref 0 0), J, J, .var .i, J, J, .fix (.bref 0 0)] ++ jN 54 ++ [.var (.list .i)]), [], []⟩) <| cond (Nat.beq cx 110) (some ⟨[], [], 19, [.blk .i 0 false], ([.var (.list .i), .fix (.fn 102 [] []), J, J, J, J, J, .var .i, .var .i] ++ jN 10 ++ [.var (.list .i)]), [], []⟩) <| cond (Nat.beq cx 437) (some ⟨[], [], 61, [.blk .i 0 false, .dead, .dead, .dead, .dead, .dead, .dead, .dead, .dead, .dead, .dead], ([.fix (.bref 0 0), J, J, .var .i, .sub 0 0, .var .i, .fix (.bref 0 0), J, J, J, J, .fix (.bref 0 0), J, J, J, J, .fix (.bref 0 0), J, J, J, .fix (.bref 0 0), J, J, J, J, J, .fix (.bref 0 0)] ++ jN 34 ++ [.var (.list .i)]), [], []⟩) <| cond (Nat.beq cx 7006) (some ⟨[], [], 19, [.blk .i 0 false, .dead, .dead, .dead, .dead, .dead, .dead, .dead, .dead, .dead, .dead], ([.var (.list .i), .fix (.fn 102 [] []), J, J, J, J, J, .var .i, .var .i] ++ jN 10 ++ [.var (.list .i)]), [], []⟩) <| none
theorem zxh (N : Nat) (a0 : (List Int)) : z34 (z2g.mk' (z1s z4f) zkb zdg) N 400 98 [(.list .i)] [.bool] a0 = zgg N a0 := by kernel_rfl
noncomputable def zgv : List (FuncId × Spec) := (98, ⟨[(.list .i)], [.bool], zgh⟩) :: z4f
theorem ztp : zo Tryz.prog (zq zgv) := z8 z06 z3f zm zfd (by kernel_rfl) ⟨_, Tryz.func98, by rfl⟩ (tm := zkb) (gh := zdg) fun x y h => by obtain ⟨N, h⟩ := zp h; exact ⟨N, 400, (zxh N x).trans h⟩
noncomputable def zhp : Nat -> Option Tmpl := fun cx => cond (Nat.beq cx 106) (some ⟨[], [], 19, [.st .record], ([.var (.list .i), .fix (.fn 97 [] []), J, J, J, J, J, .var .i, .var .i] ++ jN 10 ++ [.agg .record]), [], []⟩) <| none
theorem ztq (N : Nat) (a0 : Record) : z34 (z2g.mk' (z1s zgv) zhp zdg) N 400 87 [.record] [.bool] a0 = ze2 N a0 := by kernel_rfl
noncomputable def zec : List (FuncId × Spec) := (87, ⟨[.record], [.bool], ze3⟩) :: zgv
theorem zqy : zo Tryz.prog (zq zec) := z8 z06 z3f zm ztp (by kernel_rfl) ⟨_, Tryz.func87, by rfl⟩ (tm := zhp) (gh := zdg) fun x y h => by obtain ⟨N, h⟩ := zp h; exact ⟨N, 400, (ztq N x).trans h⟩
noncomputable def zkc : Nat -> Option Tmpl := fun cx => cond (Nat.beq cx 6) (some ⟨[.tmp 3 (.int .u8)], [(0, (.int .u8))], 26, [.dead, .blk (.int .u8) 0 true], ([.var .i, J, J, .fix (.bref 1 0)] ++ jN 22 ++ [.var (.list (.int .u8))]), [], []⟩) <| none
theorem zxi (N : Nat) (a0 : Int) : z34 (z2g.mk' (z1s zec) zkc zdg) N 400 99 [.i] [.str] a0 = zgi N a0 := by kernel_rfl
noncomputable def zgw : List (FuncId × Spec) := (99, ⟨[.i], [.str], zcz⟩) :: zec
theorem ztr : zo Tryz.prog (zq zgw) := z8 z06 z3f zm zqy (by kernel_rfl) ⟨_, Tryz.func99, by rfl⟩ (tm := zkc) (gh := zdg) fun x y h => by obtain ⟨N, h⟩ := zp h; exact ⟨N, 400, (zxi N x).trans h⟩
noncomputable def zhq : Nat -> Option Tmpl := fun cx => cond (Nat.beq cx 1) (some ⟨[], [], 26, [], ([J, J, J, J, .var .str] ++ jN 6 ++ [.var (.list .i), .var .i, .var .i] ++ jN 12), [], []⟩) <| none
theorem zts (N : Nat) (a0 : (List Int)) : z34 (z2g.mk' (z1s zgw) zhq zdg) N 400 88 [(.list .i)] [.str, .i] a0 = ze4 N a0 := by kernel_rfl
noncomputable def zed : List (FuncId × Spec) := (88, ⟨[(.list .i)], [.str, .i], z72⟩) :: zgw
theorem zqz : zo Tryz.prog (zq zed) := z8 z06 z3f zm ztr (by kernel_rfl) ⟨_, Tryz.func88, by rfl⟩ (tm := zhq) (gh := zdg) fun x y h => by obtain ⟨N, h⟩ := zp h; exact ⟨N, 400, (zts N x).trans h⟩
noncomputable def zhr : Nat -> Option Tmpl := fun cx => cond (Nat.beq cx 6) (some ⟨[], [], 23, [.blk (.int .u8) 0 false], ([.var .i, J, J, .fix (.ptr 0 0 0 0)] ++ jN 6 ++ [.var .i] ++ jN 12 ++ [.var (.list (.int .u8))]), [], []⟩) <| none
theorem ztt (N : Nat) (a0 : Int) : z34 (z2g.mk' (z1s zed) zhr zdg) N 400 89 [.i] [.str] a0 = ze5 N a0 := by kernel_rfl
noncomputable def zee : List (FuncId × Spec) := (89, ⟨[.i], [.str], ze6⟩) :: zed
theorem zr0 : zo Tryz.prog (zq zee) := z8 z06 z3f zm zqz (by kernel_rfl) ⟨_, Tryz.func89, by rfl⟩ (tm := zhr) (gh := zdg) fun x y h => by obtain ⟨N, h⟩ := zp h; exact ⟨N, 400, (ztt N x).trans h⟩
noncomputable def zmv : Nat -> Option Tmpl := fun cx => cond (Nat.beq cx 1) (some ⟨[], [], 32, [], ([.var .str, J, J, .var (.int .u32), J, J, J, .var .i, .var .i] ++ jN 23), [], []⟩) <| cond (Nat.beq cx 29) (some ⟨[], [], 32, [], ([.var .str, J, J, .var (.int .u32), J, J, J, .var .i, .var .i] ++ jN 8 ++ [.var .i] ++ jN 14), [], []⟩) <| none
theorem z00g (N : Nat) (a0 : Str) : z34 (z2g.mk' (z1s zee) zmv zdg) N 400 90 [.str] [.i] a0 = zqr N a0 := by kernel_rfl
noncomputable def zkd : List (FuncId × Spec) := (90, ⟨[.str], [.i], zk2⟩) :: zee
theorem zxj : zo Tryz.prog (zq zkd) := z8 z06 z3f zm zr0 (by kernel_rfl) ⟨_, Tryz.func90, by rfl⟩ (tm := zmv) (gh := zdg) fun x y h => by obtain ⟨N, h⟩ := zp h; exact ⟨N, 400, (z00g N x).trans h⟩
theorem zr1 (N : Nat) (a0 : Record) (a1 : Str) : z34 (z2g.mk' (z1s zkd) zdf zdg) N 400 70 [.record, .str] [.str, .i] (a0, a1) = z7x a0 a1 := by kernel_rfl
noncomputable def zc6 : List (FuncId × Spec) := (70, ⟨[.record, .str], [.str, .i], zbx⟩) :: zkd
theorem zog : zo Tryz.prog (zq zc6) := z8 z06 z3f zm zxj (by kernel_rfl) ⟨_, Tryz.func70, by rfl⟩ (tm := zdf) (gh := zdg) fun x y h => ⟨0, 400, (zr1 0 x.1 x.2).trans h⟩
theorem zr2 (N : Nat) (a0 : Str) (a1 : Str) : z34 (z2g.mk' (z1s zc6) zdf zdg) N 400 61 [.str, .str] [.record, .i] (a0, a1) = z7z a0 a1 := by kernel_rfl
noncomputable def zc7 : List (FuncId × Spec) := (61, ⟨[.str, .str], [.record, .i], zc2⟩) :: zc6
theorem zoh : zo Tryz.prog (zq zc7) := z8 z06 z3f zm zog (by kernel_rfl) ⟨_, Tryz.func61, by rfl⟩ (tm := zdf) (gh := zdg) fun x y h => ⟨0, 400, (zr2 0 x.1 x.2).trans h⟩
theorem ztu (N : Nat) (a0 : Page) : z34 (z2g.mk' (z1s zc7) zdf zdg) N 400 45 [.page] [.i, .record] a0 = za4 a0 := by kernel_rfl
noncomputable def zef : List (FuncId × Spec) := (45, ⟨[.page], [.i, .record], ze7⟩) :: zc7
theorem zr3 : zo Tryz.prog (zq zef) := z8 z06 z3f zm zoh (by kernel_rfl) ⟨_, Tryz.func45, by rfl⟩ (tm := zdf) (gh := zdg) fun x y h => ⟨0, 400, (ztu 0 x).trans h⟩
theorem zr4 (N : Nat) (a0 : Int) (a1 : Int) : z34 (z2g.mk' (z1s zef) zdf zdg) N 400 60 [.i, .i] [.i] (a0, a1) = zhl a0 a1 := by kernel_rfl
noncomputable def zc8 : List (FuncId × Spec) := (60, ⟨[.i, .i], [.i], zby⟩) :: zef
theorem zoi : zo Tryz.prog (zq zc8) := z8 z06 z3f zm zr3 (by kernel_rfl) ⟨_, Tryz.func60, by rfl⟩ (tm := zdf) (gh := zdg) fun x y h => ⟨0, 400, (zr4 0 x.1 x.2).trans h⟩
end Clk.YtpncgjcflkhemabGreat
namespace Clk.YtpncgjcflkhemabGreat
open Go Go.Proofs Go.Proofs.YtpncgjcflkhemabGreat
noncomputable def zke : Nat -> Option Tmpl := fun cx => cond (Nat.beq cx 1) (some ⟨[.cell 1 0 0 .found], [(5, .found)], 38, [.raw 4 1, .raw 1 1, .raw 4 1, .dfr, .loop 27, .dead, .blk .found 0 true], ([.fix (.yield 4), .fix (.ptr 2 0 0 0)] ++ jN 6 ++ [.fix (.ptr 2 0 0 0), .var (.list .block), .var .i, .var .i] ++ jN 30 ++ [.fix (.bref 6 0), J, J, J, J, J, .fix (.ptr 0 0 0 0), .fix (.ptr 1 0 0 0), J, J, J, J, J, .fix (.fn 59 [] [(.ptr 2 0 0 0)])] ++ jN 18 ++ [.var (.list .found)]), [], [.bk 8 6]⟩) <| cond (Nat.beq cx 29) (some ⟨[], [(6, .found)], 38, [.raw 4 1, .raw 1 1, .raw 4 1, .dfr, .loop 27, .dead, .dead, .raw 4 1, .blk .found 0 true], ([.fix (.yield 4), .fix (.ptr 2 0 0 0), J, .var .i, .fix (.ptr 7 0 0 0), J, J, J, .fix (.ptr 2 0 0 0), .var (.list .block), .var .i, .var .i, J, J, J, J, .fix (.ptr 7 0 0 0), .var (.list .page), .var .i, .var .i] ++ jN 22 ++ [.fix (.bref 8 0), J, J, J, J, J, .fix (.ptr 0 0 0 0), .fix (.ptr 1 0 0 0), J, J, J, J, J, .fix (.fn 59 [] [(.ptr 2 0 0 0)])] ++ jN 22 ++ [.var (.list .found)]), [], []⟩) <| none
theorem zxk (N : Nat) (a0 : Chip) : z34 (z2g.mk' (z1s zc8) zke zdg) N 400 32 [.chip] [(.list .found)] a0 = zd0 N a0 := by kernel_rfl
noncomputable def zgx : List (FuncId × Spec) := (32, ⟨[.chip], [(.list .found)], zgk⟩) :: zc8
theorem ztv : zo Tryz.prog (zq zgx) := z8 z06 z3f zm zoi (by kernel_rfl) ⟨_, Tryz.func32, by rfl⟩ (tm := zke) (gh := zdg) fun x y h => by obtain ⟨N, h⟩ := zp h; exact ⟨N, 400, (zxk N x).trans h⟩
theorem zgy (N : Nat) (a0 : Int) (a1 : Int) : z34 (z2g.mk' (z1s zgx) zdf zdg) N 400 82 [(.int .u64), (.int .u64)] [(.int .u64), (.int .u64)] (a0, a1) = z9a a0 a1 := by kernel_rfl
noncomputable def z4g : List (FuncId × Spec) := (82, ⟨[(.int .u64), (.int .u64)], [(.int .u64), (.int .u64)], z9b⟩) :: zgx
theorem zfe : zo Tryz.prog (zq z4g) := z8 z06 z3f zm ztv (by kernel_rfl) ⟨_, Tryz.func82, by rfl⟩ (tm := zdf) (gh := zdg) fun x y h => ⟨0, 400, (zgy 0 x.1 x.2).trans h⟩
theorem zkf (N : Nat) (a0 : Int) (a1 : Int) : z34 (z2g.mk' (z1s z4g) zdf zdg) N 400 65 [(.int .u64), (.int .u64)] [(.int .u64), (.int .u64)] (a0, a1) = zbz a0 a1 := by kernel_rfl
noncomputable def z79 : List (FuncId × Spec) := (65, ⟨[(.int .u64), (.int .u64)], [(.int .u64), (.int .u64)], zc0⟩) :: z4g
theorem zi6 : zo Tryz.prog (zq z79) := z8 z06 z3f zm zfe (by kernel_rfl) ⟨_, Tryz.func65, by rfl⟩ (tm := zdf) (gh := zdg) fun x y h => ⟨0, 400, (zkf 0 x.1 x.2).trans h⟩
noncomputable def zb6 : Nat -> Option Tmpl := fun cx => cond (Nat.beq cx 26) (some ⟨[], [], 48, [.blk .i 0 false], (jN 7 ++ [.fix (.bref 0 0), .var .i] ++ jN 21 ++ [.fix (.bref 0 0), .fix (.bref 0 0)] ++ jN 16 ++ [.var (.list .i)]), [], []⟩) <| none
theorem zkg (N : Nat) (a0 : (List Int)) (a1 : Int) : z34 (z2g.mk' (z1s z79) zb6 zdg) N 400 50 [(.list .i), .i] [(.list .i)] (a0, a1) = z73 N a0 a1 := by kernel_rfl
noncomputable def z7a : List (FuncId × Spec) := (50, ⟨[(.list .i), .i], [(.list .i)], z3q⟩) :: z79
theorem zi7 : zo Tryz.prog (zq z7a) := z8 z06 z3f zm zi6 (by kernel_rfl) ⟨_, Tryz.func50, by rfl⟩ (tm := zb6) (gh := zdg) fun x y h => by obtain ⟨N, h⟩ := zp h; exact ⟨N, 400, (zkg N x.1 x.2).trans h⟩
theorem zr5 (N : Nat) (a0 : Int) : z34 (z2g.mk' (z1s z7a) zdf zdg) N 400 35 [.i] [.table] a0 = z7y a0 := by kernel_rfl
noncomputable def zc9 : List (FuncId × Spec) := (35, ⟨[.i], [.table], zc1⟩) :: z7a
theorem zoj : zo Tryz.prog (zq zc9) := z8 z06 z3f zm zi7 (by kernel_rfl) ⟨_, Tryz.func35, by rfl⟩ (tm := zdf) (gh := zdg) fun x y h => ⟨0, 400, (zr5 0 x).trans h⟩
theorem zls (N : Nat) (a0 : Found) (a1 : Int) : z34 (z2g.mk' (z1s zc9) zdf zdg) N 400 52 [.found, .i] [.i, .bool] (a0, a1) = z4u a0 a1 := by kernel_rfl
noncomputable def z8p : List (FuncId × Spec) := (52, ⟨[.found, .i], [.i, .bool], z8j⟩) :: zc9
theorem zkh : zo Tryz.prog (zq z8p) := z8 z06 z3f zm zoj (by kernel_rfl) ⟨_, Tryz.func52, by rfl⟩ (tm := zdf) (gh := zdg) fun x y h => ⟨0, 400, (zls 0 x.1 x.2).trans h⟩
noncomputable def zca : Nat -> Option Tmpl := fun cx => cond (Nat.beq cx 1) (some ⟨[], [], 62, [.raw 2 1, .st .found, .raw 2 1, .dead, .dead, .dead, .dead, .dead, .dead, .dead, .dead, .dead, .dead, .blk .i 0 false, .blk .i 0 false], ([J, J, .fix (.ptr 0 0 0 0), .fix (.ptr 1 0 0 0), .fix (.ptr 2 0 0 0), J, J, J, J, .fix (.ptr 0 0 0 0), J, .fix (.bref 13 0), .fix (.ptr 0 0 0 1), J, .fix (.bref 14 0), .fix (.ptr 0 0 0 0), .fix (.ptr 0 0 0 1), .fix (.ptr 1 0 0 1), .fix (.ptr 1 0 0 3), .var (.list .i), .var .i, .var .i] ++ jN 40 ++ [.fix (.bref 13 0), .fix (.bref 14 0), .agg .found, J, J, .var (.list .i), .var (.list .i)]), [], []⟩) <| none
theorem zlt (N : Nat) (a0 : Table) (a1 : Found) : z34 (z2g.mk' (z1s z8p) zca zdg) N 400 36 [.table, .found] [.table] (a0, a1) = z4v N a0 a1 := by kernel_rfl
noncomputable def z8q : List (FuncId × Spec) := (36, ⟨[.table, .found], [.table], z8k⟩) :: z8p
theorem zki : zo Tryz.prog (zq z8q) := z8 z06 z3f zm zkh (by kernel_rfl) ⟨_, Tryz.func36, by rfl⟩ (tm := zca) (gh := zdg) fun x y h => by obtain ⟨N, h⟩ := zp h; exact ⟨N, 400, (zlt N x.1 x.2).trans h⟩
noncomputable def zb7 : Nat -> Option Tmpl := fun cx => cond (Nat.beq cx 1) (some ⟨[], [], 21, [.raw 4 1, .raw 2 1, .st .table, .raw 2 1], ([J, J, .fix (.fn 36 [] []), J, .fix (.ptr 2 0 0 0), J, .fix (.ptr 3 0 0 0), J, J, .var (.list .found), .var .i, .var .i] ++ jN 15 ++ [.agg .table, J, J]), [], []⟩) <| cond (Nat.beq cx 30) (some ⟨[], [], 21, [.raw 4 1, .raw 2 1, .raw 2 1, .raw 2 1], ([J, .var .i, .fix (.fn 33 [] [])] ++ jN 6 ++ [.var (.list .found), .var .i, .var .i] ++ jN 19), [], []⟩) <| none
theorem zkj (N : Nat) (a0 : Chip) (a1 : Int) : z34 (z2g.mk' (z1s z8q) zb7 zdg) N 400 20 [.chip, .i] [.table, .i] (a0, a1) = z3u N a0 a1 := by kernel_rfl
noncomputable def z7b : List (FuncId × Spec) := (20, ⟨[.chip, .i], [.table, .i], z20⟩) :: z8q
theorem zi8 : zo Tryz.prog (zq z7b) := z8 z06 z3f zm zki (by kernel_rfl) ⟨_, Tryz.func20, by rfl⟩ (tm := zb7) (gh := zdg) fun x y h => by obtain ⟨N, h⟩ := zp h; exact ⟨N, 400, (zkj N x.1 x.2).trans h⟩
noncomputable def zff : Nat -> Option Tmpl := fun cx => cond (Nat.beq cx 1) (some ⟨[], [], 19, [.st .geometry, .st .chip, .raw 12 1], ([.var (.list .block), .fix (.fn 17 [] [(.ptr 0 0 0 0)]), J, J, J, J, J, .var .i, .var .i] ++ jN 10 ++ [.agg .geometry, .agg .chip] ++ jN 12), [], []⟩) <| cond (Nat.beq cx 122) (some ⟨[], [], 19, [.st .geometry, .raw 4 1, .raw 12 1, .dead, .dead, .dead, .dead, .st .device, .dead], ([.var (.list .block), .fix (.fn 22 [] [(.ptr 0 0 0 0)]), J, J, J, J, J, .var .i, .var .i] ++ jN 10 ++ [.agg .geometry] ++ jN 16 ++ [.agg .device]), [], []⟩) <| cond (Nat.beq cx 470) (some ⟨[], [], 19, [.st .geometry, .raw 4 1, .raw 12 1, .raw 4 1, .dead, .dead, .dead, .dead, .st .device, .dead], ([.var (.list .block), .fix (.fn 22 [] [(.ptr 0 0 0 0)]), J, J, J, J, J, .var .i, .var .i] ++ jN 10 ++ [.agg .geometry] ++ jN 20 ++ [.agg .device]), [], []⟩) <| none
theorem zr6 (N : Nat) (a0 : Geometry) (a1 : Chip) : z34 (z2g.mk' (z1s z7b) zff zdg) N 400 7 [.geometry, .chip] [.device, .i] (a0, a1) = z82 N a0 a1 := by kernel_rfl
noncomputable def zcb : List (FuncId × Spec) := (7, ⟨[.geometry, .chip], [.device, .i], z23⟩) :: z7b
theorem zok : zo Tryz.prog (zq zcb) := z8 z06 z3f zm zi8 (by kernel_rfl) ⟨_, Tryz.func7, by rfl⟩ (tm := zff) (gh := zdg) fun x y h => by obtain ⟨N, h⟩ := zp h; exact ⟨N, 400, (zr6 N x.1 x.2).trans h⟩
noncomputable def zhs : Nat -> Option Tmpl := fun cx => cond (Nat.beq cx 1) (some ⟨[], [], 18, [.raw 4 1], ([J, .fix (.ptr 0 0 0 0), .var .i, J, J, .fix (.ptr 0 0 0 0), .var (.list .block), .var .i, .var .i] ++ jN 13), [], []⟩) <| none
theorem ztw (N : Nat) (a0 : Chip) : z34 (z2g.mk' (z1s zcb) zhs zdg) N 400 23 [.chip] [.i] a0 = zk4 N a0 := by kernel_rfl
noncomputable def zeg : List (FuncId × Spec) := (23, ⟨[.chip], [.i], zab⟩) :: zcb
theorem zr7 : zo Tryz.prog (zq zeg) := z8 z06 z3f zm zok (by kernel_rfl) ⟨_, Tryz.func23, by rfl⟩ (tm := zhs) (gh := zdg) fun x y h => by obtain ⟨N, h⟩ := zp h; exact ⟨N, 400, (ztw N x).trans h⟩
theorem zlu (N : Nat) (a0 : Device) : z34 (z2g.mk' (z1s zeg) zdf zdg) N 400 9 [.device] [.i] a0 = z4x a0 := by kernel_rfl
noncomputable def z8r : List (FuncId × Spec) := (9, ⟨[.device], [.i], z0c⟩) :: zeg
theorem zkk : zo Tryz.prog (zq z8r) := z8 z06 z3f zm zr7 (by kernel_rfl) ⟨_, Tryz.func9, by rfl⟩ (tm := zdf) (gh := zdg) fun x y h => ⟨0, 400, (zlu 0 x).trans h⟩
noncomputable def zkl : Nat -> Option Tmpl := fun cx => cond (Nat.beq cx 1) (some ⟨[], [], 19, [.raw 1 1, .raw 4 1], ([.var (.list .i), .fix (.fn 38 [] [(.ptr 0 0 0 0)]), J, J, J, J, J, .var .i, .var .i] ++ jN 10 ++ [.var .i, J, J, J, J]), [], []⟩) <| cond (Nat.beq cx 122) (some ⟨[], [], 64, [.raw 1 1, .raw 4 1, .nst false 0 false, .raw 4 1], ([J, .var .i, .var (.list .i), .fix (.ptr 0 0 0 0), J, J, .fix (.ptr 1 0 0 0), J, .fix (.fn 38 [] [(.ptr 0 0 0 0)]), .fix (.ptr 3 0 0 0), J, J, J, .fix (.fn 38 [] [(.ptr 0 0 0 0)])] ++ jN 16 ++ [.fix (.fn 38 [] [(.ptr 0 0 0 0)]), J, J, J, J, .fix (.bref 2 0), J, .fix (.ptr 3 0 0 0), .fix (.bref 2 0), .var .i, .var .i] ++ jN 28 ++ [.var (.list .block), .fix (.bref 2 0), .var .bool, .var .bool, .var .i]), [.nest 2 false], [.abs 2]⟩) <| cond (Nat.beq cx 470) (some ⟨[], [], 64, [.raw 1 1, .raw 4 1, .nst false 0 false, .raw 4 1], ([J, .var .i, .var (.list .i), .fix (.ptr 0 0 0 0), J, J, .fix (.ptr 1 0 0 0), J, .fix (.fn 38 [] [(.ptr 0 0 0 0)]), .fix (.ptr 3 0 0 0), J, J, J, .fix (.fn 38 [] [(.ptr 0 0 0 0)])] ++ jN 16 ++ [.fix (.fn 38 [] [(.ptr 0 0 0 0)]), J, J, J, J, .fix (.bref 2 0), J, .fix (.ptr 3 0 0 0), .fix (.bref 2 0), .var .i, .var .i] ++ jN 28 ++ [.var (.list .block), .fix (.bref 2 0), .var .bool, .var .bool, .var .i]), [.nest 2 false], [.abs 2]⟩) <| cond (Nat.beq cx 1966) (some ⟨[], [], 64, [.raw 1 1, .raw 4 1, .nst false 0 false, .raw 4 1], ([J, J, J, .fix (.ptr 0 0 0 0), J, J, .fix (.ptr 1 0 0 0), J, .fix (.fn 38 [] [(.ptr 0 0 0 0)]), .fix (.ptr 3 0 0 0), J, J, J, .fix (.fn 38 [] [(.ptr 0 0 0 0)])] ++ jN 16 ++ [.fix (.fn 38 [] [(.ptr 0 0 0 0)]), J, J, J, J, .fix (.bref 2 0), J, .fix (.ptr 3 0 0 0), .fix (.bref 2 0)] ++ jN 12 ++ [.var (.list .i), .var .i, .var .i] ++ jN 15 ++ [.var (.list .block), .fix (.bref 2 0), .var .bool, .var .bool, .var .i]), [], []⟩) <| cond (Nat.beq cx 7534) (some ⟨[], [], 64, [.raw 1 1, .raw 4 1, .nst false 0 false, .raw 4 1], ([J, J, J, .fix (.ptr 0 0 0 0), J, J, .fix (.ptr 1 0 0 0), J, .fix (.fn 38 [] [(.ptr 0 0 0 0)]), .fix (.ptr 3 0 0 0), J, J, J, .fix (.fn 38 [] [(.ptr 0 0 0 0)])] ++ jN 16 ++ [.fix (.fn 38 [] [(.ptr 0 0 0 0)]), J, J, J, J, .fix (.bref 2 0), J, .fix (.ptr 3 0 0 0), .fix (.bref 2 0)] ++ jN 12 ++ [.var (.list .i), .var .i, .var .i] ++ jN 15 ++ [.var (.list .block), .fix (.bref 2 0), .var .bool, .var .bool, .var .i]), [], []⟩) <| none
theorem zxl (N : Nat) (a0 : Int) (a1 : Int) (a2 : (List Int)) : z34 (z2g.mk' (z1s z8r) zkl zdg) N 400 24 [.i, .i, (.list .i)] [.chip, .i] (a0, a1, a2) = zd2 N a0 a1 a2 := by kernel_rfl
noncomputable def zgz : List (FuncId × Spec) := (24, ⟨[.i, .i, (.list .i)], [.chip, .i], zgm⟩) :: z8r
theorem ztx : zo Tryz.prog (zq zgz) := z8 z06 z3f zm zkk (by kernel_rfl) ⟨_, Tryz.func24, by rfl⟩ (tm := zkl) (gh := zdg) fun x y h => by obtain ⟨N, h⟩ := zp h; exact ⟨N, 400, (zxl N x.1 x.2.1 x.2.2).trans h⟩
theorem zol (N : Nat) (a0 : Geometry) (a1 : (List Int)) : z34 (z2g.mk' (z1s zgz) zdf zdg) N 400 10 [.geometry, (.list .i)] [.device, .i] (a0, a1) = z6d a0 a1 := by kernel_rfl
noncomputable def zai : List (FuncId × Spec) := (10, ⟨[.geometry, (.list .i)], [.device, .i], z6e⟩) :: zgz
theorem zlv : zo Tryz.prog (zq zai) := z8 z06 z3f zm ztx (by kernel_rfl) ⟨_, Tryz.func10, by rfl⟩ (tm := zdf) (gh := zdg) fun x y h => ⟨0, 400, (zol 0 x.1 x.2).trans h⟩
theorem zty (N : Nat) (a0 : Chip) (a1 : Int) : z34 (z2g.mk' (z1s zai) zdf zdg) N 400 40 [.chip, .i] [.page, .bool] (a0, a1) = za7 a0 a1 := by kernel_rfl
noncomputable def zeh : List (FuncId × Spec) := (40, ⟨[.chip, .i], [.page, .bool], ze8⟩) :: zai
theorem zr8 : zo Tryz.prog (zq zeh) := z8 z06 z3f zm zlv (by kernel_rfl) ⟨_, Tryz.func40, by rfl⟩ (tm := zdf) (gh := zdg) fun x y h => ⟨0, 400, (zty 0 x.1 x.2).trans h⟩
theorem zxm (N : Nat) (a0 : Chip) (a1 : Table) (a2 : Int) : z34 (z2g.mk' (z1s zeh) zdf zdg) N 400 25 [.chip, .table, .i] [.str] (a0, a1, a2) = zd3 a0 a1 a2 := by kernel_rfl
noncomputable def zh0 : List (FuncId × Spec) := (25, ⟨[.chip, .table, .i], [.str], zgn⟩) :: zeh
theorem ztz : zo Tryz.prog (zq zh0) := z8 z06 z3f zm zr8 (by kernel_rfl) ⟨_, Tryz.func25, by rfl⟩ (tm := zdf) (gh := zdg) fun x y h => ⟨0, 400, (zxm 0 x.1 x.2.1 x.2.2).trans h⟩
noncomputable def zkm : Nat -> Option Tmpl := fun cx => cond (Nat.beq cx 1) (some ⟨[], [], 26, [.st .device, .blk .str 0 false], ([J, .fix (.ptr 0 0 0 0), J, .fix (.bref 1 0), J, .fix (.ptr 0 0 0 8), .fix (.ptr 0 0 0 8), J, J, .fix (.bref 1 0), .fix (.bref 1 0), .var .i, .var .i] ++ jN 13 ++ [.agg .device, .var (.list .str)]), [], []⟩) <| none
theorem zxn (N : Nat) (a0 : Device) : z34 (z2g.mk' (z1s zh0) zkm zdg) N 400 11 [.device] [(.list .str)] a0 = zd4 N a0 := by kernel_rfl
noncomputable def zh1 : List (FuncId × Spec) := (11, ⟨[.device], [(.list .str)], zgo⟩) :: zh0
theorem zu0 : zo Tryz.prog (zq zh1) := z8 z06 z3f zm ztz (by kernel_rfl) ⟨_, Tryz.func11, by rfl⟩ (tm := zkm) (gh := zdg) fun x y h => by obtain ⟨N, h⟩ := zp h; exact ⟨N, 400, (zxn N x).trans h⟩
theorem zom (N : Nat) : z34 (z2g.mk' (z1s zh1) zdf zdg) N 400 4 [] [.bool] () = z6g := by kernel_rfl
noncomputable def zaj : List (FuncId × Spec) := (4, ⟨[], [.bool], zad⟩) :: zh1
theorem zlw : zo Tryz.prog (zq zaj) := z8 z06 z3f zm zu0 (by kernel_rfl) ⟨_, Tryz.func4, by rfl⟩ (tm := zdf) (gh := zdg) fun x y h => ⟨0, 400, (zom 0 ).trans h⟩
noncomputable def zht : Nat -> Option Tmpl := fun cx => cond (Nat.beq cx 6) (some ⟨[.cell 1 0 0 .block], [(2, .block)], 68, [.raw 4 1, .raw 4 1, .dead, .nst true 0 true], ([.var .i, .var .i, .var (.list .i), J, J, J, .fix (.ptr 0 0 0 0), J, .fix (.ptr 1 0 0 0), .var .i] ++ jN 62 ++ [.fix (.bref 3 0), .var .bool, .var .bool, .var .i, .var (.list .block)]), [.nest 3 true], [.abs 3]⟩) <| cond (Nat.beq cx 110) (some ⟨[], [], 68, [.raw 4 1, .raw 4 1, .dead, .nst true 0 false], ([.var .i, J, .var (.list .i), J, J, J, .fix (.ptr 0 0 0 0), J, .fix (.ptr 1 0 0 0), J, .var .i] ++ jN 61 ++ [.fix (.bref 3 0), .var .bool, .var .bool, .var .i, .var (.list .block)]), [], []⟩) <| none
theorem zu1 (N : Nat) (a0 : Int) (a1 : Int) (a2 : (List Int)) : z34 (z2g.mk' (z1s zaj) zht zdg) N 400 13 [.i, .i, (.list .i)] [.chip, .i] (a0, a1, a2) = z9t N a0 a1 a2 := by kernel_rfl
noncomputable def zei : List (FuncId × Spec) := (13, ⟨[.i, .i, (.list .i)], [.chip, .i], ze0⟩) :: zaj
theorem zr9 : zo Tryz.prog (zq zei) := z8 z06 z3f zm zlw (by kernel_rfl) ⟨_, Tryz.func13, by rfl⟩ (tm := zht) (gh := zdg) fun x y h => by obtain ⟨N, h⟩ := zp h; exact ⟨N, 400, (zu1 N x.1 x.2.1 x.2.2).trans h⟩
noncomputable def zfg : Nat -> Option Tmpl := fun cx => cond (Nat.beq cx 1365) (some ⟨[.cell 2 0 2 .i, .cell 2 0 3 .i], [(4, .i), (5, .i)], 55, [.raw 1 1, .raw 4 1, .raw 4 1, .raw 1 1, .dead, .dead, .blk .i 0 true, .blk .i 0 true], ([J, .fix (.ptr 0 0 0 0), .fix (.ptr 1 0 0 0), .fix (.ptr 2 0 0 0), .fix (.ptr 3 0 0 0), .fix (.fn 42 [] [(.ptr 3 0 0 0), (.ptr 0 0 0 0)]), .var .i, .var .i, .fix (.fn 42 [] [(.ptr 3 0 0 0), (.ptr 0 0 0 0)]), .fix (.fn 42 [] [(.ptr 3 0 0 0), (.ptr 0 0 0 0)]), J, J, .fix (.ptr 2 0 0 0), .fix (.fn 42 [] [(.ptr 3 0 0 0), (.ptr 0 0 0 0)]), J, .fix (.fn 42 [] [(.ptr 3 0 0 0), (.ptr 0 0 0 0)]), J, J, J, .fix (.ptr 2 0 0 1), .fix (.fn 42 [] [(.ptr 3 0 0 0), (.ptr 0 0 0 0)]), J, .fix (.fn 42 [] [(.ptr 3 0 0 0), (.ptr 0 0 0 0)])] ++ jN 32 ++ [.var (.list (.int .u16)), J, J, J, J, .var .i, .var .i, .fix (.bref 6 0), .fix (.bref 7 0), .var .i, .var (.list .i), .var (.list .i)]), [], []⟩) <| cond (Nat.beq cx 1366) (some ⟨[.cell 2 0 2 .i, .cell 2 0 3 .i], [(4, .i), (5, .i)], 55, [.raw 1 1, .raw 4 1, .raw 4 1, .raw 1 1, .dead, .dead, .blk .i 0 true, .blk .i 0 true], ([J, .fix (.ptr 0 0 0 0), .fix (.ptr 1 0 0 0), .fix (.ptr 2 0 0 0), .fix (.ptr 3 0 0 0), .fix (.fn 42 [] [(.ptr 3 0 0 0), (.ptr 0 0 0 0)]), .var .i, .var .i, .fix (.fn 42 [] [(.ptr 3 0 0 0), (.ptr 0 0 0 0)]), .fix (.fn 42 [] [(.ptr 3 0 0 0), (.ptr 0 0 0 0)]), J, J, .fix (.ptr 2 0 0 0), .fix (.fn 42 [] [(.ptr 3 0 0 0), (.ptr 0 0 0 0)]), J, .fix (.fn 42 [] [(.ptr 3 0 0 0), (.ptr 0 0 0 0)]), J, J, J, .fix (.ptr 2 0 0 1), .fix (.fn 42 [] [(.ptr 3 0 0 0), (.ptr 0 0 0 0)]), J, .fix (.fn 42 [] [(.ptr 3 0 0 0), (.ptr 0 0 0 0)])] ++ jN 32 ++ [.var (.list (.int .u16)), J, J, J, J, .var .i, .var .i, .fix (.bref 6 0), .fix (.bref 7 0), .var .i, .var (.list .i), .var (.list .i)]), [], []⟩) <| cond (Nat.beq cx 1369) (some ⟨[.cell 2 0 2 .i, .cell 2 0 3 .i], [(4, .i), (5, .i)], 55, [.raw 1 1, .raw 4 1, .raw 4 1, .raw 1 1, .dead, .dead, .blk .i 0 true, .blk .i 0 true], ([J, .fix (.ptr 0 0 0 0), .fix (.ptr 1 0 0 0), .fix (.ptr 2 0 0 0), .fix (.ptr 3 0 0 0), .fix (.fn 42 [] [(.ptr 3 0 0 0), (.ptr 0 0 0 0)]), .var .i, .var .i, .fix (.fn 42 [] [(.ptr 3 0 0 0), (.ptr 0 0 0 0)]), .fix (.fn 42 [] [(.ptr 3 0 0 0), (.ptr 0 0 0 0)]), J, J, .fix (.ptr 2 0 0 0), .fix (.fn 42 [] [(.ptr 3 0 0 0), (.ptr 0 0 0 0)]), J, .fix (.fn 42 [] [(.ptr 3 0 0 0), (.ptr 0 0 0 0)]), J, J, J, .fix (.ptr 2 0 0 1), .fix (.fn 42 [] [(.ptr 3 0 0 0), (.ptr 0 0 0 0)]), J, .fix (.fn 42 [] [(.ptr 3 0 0 0), (.ptr 0 0 0 0)])] ++ jN 32 ++ [.var (.list (.int .u16)), J, J, J, J, .var .i, .var .i, .fix (.bref 6 0), .fix (.bref 7 0), .var .i, .var (.list .i), .var (.list .i)]), [], []⟩) <| cond (Nat.beq cx 1370) (some ⟨[.cell 2 0 2 .i, .cell 2 0 3 .i], [(4, .i), (5, .i)], 55, [.raw 1 1, .raw 4 1, .raw 4 1, .raw 1 1, .dead, .dead, .blk .i 0 true, .blk .i 0 true], ([J, .fix (.ptr 0 0 0 0), .fix (.ptr 1 0 0 0), .fix (.ptr 2 0 0 0), .fix (.ptr 3 0 0 0), .fix (.fn 42 [] [(.ptr 3 0 0 0), (.ptr 0 0 0 0)]), .var .i, .var .i, .fix (.fn 42 [] [(.ptr 3 0 0 0), (.ptr 0 0 0 0)]), .fix (.fn 42 [] [(.ptr 3 0 0 0), (.ptr 0 0 0 0)]), J, J, .fix (.ptr 2 0 0 0), .fix (.fn 42 [] [(.ptr 3 0 0 0), (.ptr 0 0 0 0)]), J, .fix (.fn 42 [] [(.ptr 3 0 0 0), (.ptr 0 0 0 0)]), J, J, J, .fix (.ptr 2 0 0 1), .fix (.fn 42 [] [(.ptr 3 0 0 0), (.ptr 0 0 0 0)]), J, .fix (.fn 42 [] [(.ptr 3 0 0 0), (.ptr 0 0 0 0)])] ++ jN 32 ++ [.var (.list (.int .u16)), J, J, J, J, .var .i, .var .i, .fix (.bref 6 0), .fix (.bref 7 0), .var .i, .var (.list .i), .var (.list .i)]), [], []⟩) <| cond (Nat.beq cx 1381) (some ⟨[.cell 2 0 2 .i, .cell 2 0 3 .i], [(4, .i), (5, .i)], 55, [.raw 1 1, .raw 4 1, .raw 4 1, .raw 1 1, .dead, .dead, .blk .i 0 true, .blk .i 0 true], ([J, .fix (.ptr 0 0 0 0), .fix (.ptr 1 0 0 0), .fix (.ptr 2 0 0 0), .fix (.ptr 3 0 0 0), .fix (.fn 42 [] [(.ptr 3 0 0 0), (.ptr 0 0 0 0)]), .var .i, .var .i, .fix (.fn 42 [] [(.ptr 3 0 0 0), (.ptr 0 0 0 0)]), .fix (.fn 42 [] [(.ptr 3 0 0 0), (.ptr 0 0 0 0)]), J, J, .fix (.ptr 2 0 0 0), .fix (.fn 42 [] [(.ptr 3 0 0 0), (.ptr 0 0 0 0)]), J, .fix (.fn 42 [] [(.ptr 3 0 0 0), (.ptr 0 0 0 0)]), J, J, J, .fix (.ptr 2 0 0 1), .fix (.fn 42 [] [(.ptr 3 0 0 0), (.ptr 0 0 0 0)]), J, .fix (.fn 42 [] [(.ptr 3 0 0 0), (.ptr 0 0 0 0)])] ++ jN 32 ++ [.var (.list (.int .u16)), J, J, J, J, .var .i, .var .i, .fix (.bref 6 0), .fix (.bref 7 0), .var .i, .var (.list .i), .var (.list .i)]), [], []⟩) <| cond (Nat.beq cx 1382) (some ⟨[.cell 2 0 2 .i, .cell 2 0 3 .i], [(4, .i), (5, .i)], 55, [.raw 1 1, .raw 4 1, .raw 4 1, .raw 1 1, .dead, .dead, .blk .i 0 true, .blk .i 0 true], ([J, .fix (.ptr 0 0 0 0), .fix (.ptr 1 0 0 0), .fix (.ptr 2 0 0 0), .fix (.ptr 3 0 0 0), .fix (.fn 42 [] [(.ptr 3 0 0 0), (.ptr 0 0 0 0)]), .var .i, .var .i, .fix (.fn 42 [] [(.ptr 3 0 0 0), (.ptr 0 0 0 0)]), .fix (.fn 42 [] [(.ptr 3 0 0 0), (.ptr 0 0 0 0)]), J, J, .fix (.ptr 2 0 0 0), .fix (.fn 42 [] [(.ptr 3 0 0 0), (.ptr 0 0 0 0)]), J, .fix (.fn 42 [] [(.ptr 3 0 0 0), (.ptr 0 0 0 0)]), J, J, J, .fix (.ptr 2 0 0 1), .fix (.fn 42 [] [(.ptr 3 0 0 0), (.ptr 0 0 0 0)]), J, .fix (.fn 42 [] [(.ptr 3 0 0 0), (.ptr 0 0 0 0)])] ++ jN 32 ++ [.var (.list (.int .u16)), J, J, J, J, .var .i, .var .i, .fix (.bref 6 0), .fix (.bref 7 0), .var .i, .var (.list .i), .var (.list .i)]), [], []⟩) <| cond (Nat.beq cx 1385) (some ⟨[.cell 2 0 2 .i, .cell 2 0 3 .i], [(4, .i), (5, .i)], 55, [.raw 1 1, .raw 4 1, .raw 4 1, .raw 1 1, .dead, .dead, .blk .i 0 true, .blk .i 0 true], ([J, .fix (.ptr 0 0 0 0), .fix (.ptr 1 0 0 0), .fix (.ptr 2 0 0 0), .fix (.ptr 3 0 0 0), .fix (.fn 42 [] [(.ptr 3 0 0 0), (.ptr 0 0 0 0)]), .var .i, .var .i, .fix (.fn 42 [] [(.ptr 3 0 0 0), (.ptr 0 0 0 0)]), .fix (.fn 42 [] [(.ptr 3 0 0 0), (.ptr 0 0 0 0)]), J, J, .fix (.ptr 2 0 0 0), .fix (.fn 42 [] [(.ptr 3 0 0 0), (.ptr 0 0 0 0)]), J, .fix (.fn 42 [] [(.ptr 3 0 0 0), (.ptr 0 0 0 0)]), J, J, J, .fix (.ptr 2 0 0 1), .fix (.fn 42 [] [(.ptr 3 0 0 0), (.ptr 0 0 0 0)]), J, .fix (.fn 42 [] [(.ptr 3 0 0 0), (.ptr 0 0 0 0)])] ++ jN 32 ++ [.var (.list (.int .u16)), J, J, J, J, .var .i, .var .i, .fix (.bref 6 0), .fix (.bref 7 0), .var .i, .var (.list .i), .var (.list .i)]), [], []⟩) <| cond (Nat.beq cx 1386) (some ⟨[.cell 2 0 2 .i, .cell 2 0 3 .i], [(4, .i), (5, .i)], 55, [.raw 1 1, .raw 4 1, .raw 4 1, .raw 1 1, .dead, .dead, .blk .i 0 true, .blk .i 0 true], ([J, .fix (.ptr 0 0 0 0), .fix (.ptr 1 0 0 0), .fix (.ptr 2 0 0 0), .fix (.ptr 3 0 0 0), .fix (.fn 42 [] [(.ptr 3 0 0 0), (.ptr 0 0 0 0)]), .var .i, .var .i, .fix (.fn 42 [] [(.ptr 3 0 0 0), (.ptr 0 0 0 0)]), .fix (.fn 42 [] [(.ptr 3 0 0 0), (.ptr 0 0 0 0)]), J, J, .fix (.ptr 2 0 0 0), .fix (.fn 42 [] [(.ptr 3 0 0 0), (.ptr 0 0 0 0)]), J, .fix (.fn 42 [] [(.ptr 3 0 0 0), (.ptr 0 0 0 0)]), J, J, J, .fix (.ptr 2 0 0 1), .fix (.fn 42 [] [(.ptr 3 0 0 0), (.ptr 0 0 0 0)]), J, .fix (.fn 42 [] [(.ptr 3 0 0 0), (.ptr 0 0 0 0)])] ++ jN 32 ++ [.var (.list (.int .u16)), J, J, J, J, .var .i, .var .i, .fix (.bref 6 0), .fix (.bref 7 0), .var .i, .var (.list .i), .var (.list .i)]), [], []⟩) <| cond (Nat.beq cx 1429) (some ⟨[.cell 2 0 2 .i, .cell 2 0 3 .i], [(4, .i), (5, .i)], 55, [.raw 1 1, .raw 4 1, .raw 4 1, .raw 1 1, .dead, .dead, .blk .i 0 true, .blk .i 0 true], ([J, .fix (.ptr 0 0 0 0), .fix (.ptr 1 0 0 0), .fix (.ptr 2 0 0 0), .fix (.ptr 3 0 0 0), .fix (.fn 42 [] [(.ptr 3 0 0 0), (.ptr 0 0 0 0)]), .var .i, .var .i, .fix (.fn 42 [] [(.ptr 3 0 0 0), (.ptr 0 0 0 0)]), .fix (.fn 42 [] [(.ptr 3 0 0 0), (.ptr 0 0 0 0)]), J, J, .fix (.ptr 2 0 0 0), .fix (.fn 42 [] [(.ptr 3 0 0 0), (.ptr 0 0 0 0)]), J, .fix (.fn 42 [] [(.ptr 3 0 0 0), (.ptr 0 0 0 0)]), J, J, J, .fix (.ptr 2 0 0 1), .fix (.fn 42 [] [(.ptr 3 0 0 0), (.ptr 0 0 0 0)]), J, .fix (.fn 42 [] [(.ptr 3 0 0 0), (.ptr 0 0 0 0)])] ++ jN 32 ++ [.var (.list (.int .u16)), J, J, J, J, .var .i, .var .i, .fix (.bref 6 0), .fix (.bref 7 0), .var .i, .var (.list .i), .var (.list .i)]), [], []⟩) <| cond (Nat.beq cx 1430) (some ⟨[.cell 2 0 2 .i, .cell 2 0 3 .i], [(4, .i), (5, .i)], 55, [.raw 1 1, .raw 4 1, .raw 4 1, .raw 1 1, .dead, .dead, .blk .i 0 true, .blk .i 0 true], ([J, .fix (.ptr 0 0 0 0), .fix (.ptr 1 0 0 0), .fix (.ptr 2 0 0 0), .fix (.ptr 3 0 0 0), .fix (.fn 42 [] [(.ptr 3 0 0 0), (.ptr 0 0 0 0)]), .var .i, .var .i, .fix (.fn 42 [] [(.ptr 3 0 0 0), (.ptr 0 0 0 0)]), .fix (.fn 42 [] [(.ptr 3 0 0 0), (.ptr 0 0 0 0)]), J, J, .fix (.ptr 2 0 0 0), .fix (.fn 42 [] [(.ptr 3 0 0 0), (.ptr 0 0 0 0)]), J, .fix (.fn 42 [] [(.ptr 3 0 0 0), (.ptr 0 0 0 0)]), J, J, J, .fix (.ptr 2 0 0 1), .fix (.fn 42 [] [(.ptr 3 0 0 0), (.ptr 0 0 0 0)]), J, .fix (.fn 42 [] [(.ptr 3 0 0 0), (.ptr 0 0 0 0)])] ++ jN 32 ++ [.var (.list (.int .u16)), J, J, J, J, .var .i, .var .i, .fix (.bref 6 0), .fix (.bref 7 0), .var .i, .var (.list .i), .var (.list .i)]), [], []⟩) <| cond (Nat.beq cx 1433) (some ⟨[.cell 2 0 2 .i, .cell 2 0 3 .i], [(4, .i), (5, .i)], 55, [.raw 1 1, .raw 4 1, .raw 4 1, .raw 1 1, .dead, .dead, .blk .i 0 true, .blk .i 0 true], ([J, .fix (.ptr 0 0 0 0), .fix (.ptr 1 0 0 0), .fix (.ptr 2 0 0 0), .fix (.ptr 3 0 0 0), .fix (.fn 42 [] [(.ptr 3 0 0 0), (.ptr 0 0 0 0)]), .var .i, .var .i, .fix (.fn 42 [] [(.ptr 3 0 0 0), (.ptr 0 0 0 0)]), .fix (.fn 42 [] [(.ptr 3 0 0 0), (.ptr 0 0 0 0)]), J, J, .fix (.ptr 2 0 0 0), .fix (.fn 42 [] [(.ptr 3 0 0 0), (.ptr 0 0 0 0)]), J, .fix (.fn 42 [] [(.ptr 3 0 0 0), (.ptr 0 0 0 0)]), J, J, J, .fix (.ptr 2 0 0 1), .fix (.fn 42 [] [(.ptr 3 0 0 0), (.ptr 0 0 0 0)]), J, .fix (.fn 42 [] [(.ptr 3 0 0 0), (.ptr 0 0 0 0)])] ++ jN 32 ++ [.var (.list (.int .u16)), J, J, J, J, .var .i, .var .i, .fix (.bref 6 0), .fix (.bref 7 0), .var .i, .var (.list .i), .var (.list .i)]), [], []⟩) <| cond (Nat.beq cx 1434) (some ⟨[.cell 2 0 2 .i, .cell 2 0 3 .i], [(4, .i), (5, .i)], 55, [.raw 1 1, .raw 4 1, .raw 4 1, .raw 1 1, .dead, .dead, .blk .i 0 true, .blk .i 0 true], ([J, .fix (.ptr 0 0 0 0), .fix (.ptr 1 0 0 0), .fix (.ptr 2 0 0 0), .fix (.ptr 3 0 0 0), .fix (.fn 42 [] [(.ptr 3 0 0 0), (.ptr 0 0 0 0)]), .var .i, .var .i, .fix (.fn 42 [] [(.ptr 3 0 0 0), (.ptr 0 0 0 0)]), .fix (.fn 42 [] [(.ptr 3 0 0 0), (.ptr 0 0 0 0)]), J, J, .fix (.ptr 2 0 0 0), .fix (.fn 42 [] [(.ptr 3 0 0 0), (.ptr 0 0 0 0)]), J, .fix (.fn 42 [] [(.ptr 3 0 0 0), (.ptr 0 0 0 0)]), J, J, J, .fix (.ptr 2 0 0 1), .fix (.fn 42 [] [(.ptr 3 0 0 0), (.ptr 0 0 0 0)]), J, .fix (.fn 42 [] [(.ptr 3 0 0 0), (.ptr 0 0 0 0)])] ++ jN 32 ++ [.var (.list (.int .u16)), J, J, J, J, .var .i, .var .i, .fix (.bref 6 0), .fix (.bref 7 0), .var .i, .var (.list .i), .var (.list .i)]), [], []⟩) <| cond (Nat.beq cx 1445) (some ⟨[.cell 2 0 2 .i, .cell 2 0 3 .i], [(4, .i), (5, .i)], 55, [.raw 1 1, .raw 4 1, .raw 4 1, .raw 1 1, .dead, .dead, .blk .i 0 true, .blk .i 0 true], ([J, .fix (.ptr 0 0 0 0), .fix (.ptr 1 0 0 0), .fix (.ptr 2 0 0 0), .fix (.ptr 3 0 0 0), .fix (.fn 42 [] [(.ptr 3 0 0 0), (.ptr 0 0 0 0)]), .var .i, .var .i, .fix (.fn 42 [] [(.ptr 3 0 0 0), (.ptr 0 0 0 0)]), .fix (.fn 42 [] [(.ptr 3 0 0 0), (.ptr 0 0 0 0)]), J, J, .fix (.ptr 2 0 0 0), .fix (.fn 42 [] [(.ptr 3 0 0 0), (.ptr 0 0 0 0)]), J, .fix (.fn 42 [] [(.ptr 3 0 0 0), (.ptr 0 0 0 0)]), J, J, J, .fix (.ptr 2 0 0 1), .fix (.fn 42 [] [(.ptr 3 0 0 0), (.ptr 0 0 0 0)]), J, .fix (.fn 42 [] [(.ptr 3 0 0 0), (.ptr 0 0 0 0)])] ++ jN 32 ++ [.var (.list (.int .u16)), J, J, J, J, .var .i, .var .i, .fix (.bref 6 0), .fix (.bref 7 0), .var .i, .var (.list .i), .var (.list .i)]), [], []⟩) <| cond (Nat.beq cx 1446) (some ⟨[.cell 2 0 2 .i, .cell 2 0 3 .i], [(4, .i), (5, .i)], 55, [.raw 1 1, .raw 4 1, .raw 4 1, .raw 1 1, .dead, .dead, .blk .i 0 true, .blk .i 0 true], ([J, .fix (.ptr 0 0 0 0), .fix (.ptr 1 0 0 0), .fix (.ptr 2 0 0 0), .fix (.ptr 3 0 0 0), .fix (.fn 42 [] [(.ptr 3 0 0 0), (.ptr 0 0 0 0)]), .var .i, .var .i, .fix (.fn 42 [] [(.ptr 3 0 0 0), (.ptr 0 0 0 0)]), .fix (.fn 42 [] [(.ptr 3 0 0 0), (.ptr 0 0 0 0)]), J, J, .fix (.ptr 2 0 0 0), .fix (.fn 42 [] [(.ptr 3 0 0 0), (.ptr 0 0 0 0)]), J, .fix (.fn 42 [] [(.ptr 3 0 0 0), (.ptr 0 0 0 0)]), J, J, J, .fix (.ptr 2 0 0 1), .fix (.fn 42 [] [(.ptr 3 0 0 0), (.ptr 0 0 0 0)]), J, .fix (.fn 42 [] [(.ptr 3 0 0 0), (.ptr 0 0 0 0)])] ++ jN 32 ++ [.var (.list (.int .u16)), J, J, J, J, .var .i, .var .i, .fix (.bref 6 0), .fix (.bref 7 0), .var .i, .var (.list .i), .var (.list .i)]), [], []⟩) <| cond (Nat.beq cx 1449) (some ⟨[.cell 2 0 2 .i, .cell 2 0 3 .i], [(4, .i), (5, .i)], 55, [.raw 1 1, .raw 4 1, .raw 4 1, .raw 1 1, .dead, .dead, .blk .i 0 true, .blk .i 0 true], ([J, .fix (.ptr 0 0 0 0), .fix (.ptr 1 0 0 0), .fix (.ptr 2 0 0 0), .fix (.ptr 3 0 0 0), .fix (.fn 42 [] [(.ptr 3 0 0 0), (.ptr 0 0 0 0)]), .var .i, .var .i, .fix (.fn 42 [] [(.ptr 3 0 0 0), (.ptr 0 0 0 0)]), .fix (.fn 42 [] [(.ptr 3 0 0 0), (.ptr 0 0 0 0)]), J, J, .fix (.ptr 2 0 0 0), .fix (.fn 42 [] [(.ptr 3 0 0 0), (.ptr 0 0 0 0)]), J, .fix (.fn 42 [] [(.ptr 3 0 0 0), (.ptr 0 0 0 0)]), J, J, J, .fix (.ptr 2 0 0 1), .fix (.fn 42 [] [(.ptr 3 0 0 0), (.ptr 0 0 0 0)]), J, .fix (.fn 42 [] [(.ptr 3 0 0 0), (.ptr 0 0 0 0)])] ++ jN 32 ++ [.var (.list (.int .u16)), J, J, J, J, .var .i, .var .i, .fix (.bref 6 0), .fix (.bref 7 0), .var .i, .var (.list .i), .var (.list .i)]), [], []⟩) <| cond (Nat.beq cx 1450) (some ⟨[.cell 2 0 2 .i, .cell 2 0 3 .i], [(4, .i), (5, .i)], 55, [.raw 1 1, .raw 4 1, .raw 4 1, .raw 1 1, .dead, .dead, .blk .i 0 true, .blk .i 0 true], ([J, .fix (.ptr 0 0 0 0), .fix (.ptr 1 0 0 0), .fix (.ptr 2 0 0 0), .fix (.ptr 3 0 0 0), .fix (.fn 42 [] [(.ptr 3 0 0 0), (.ptr 0 0 0 0)]), .var .i, .var .i, .fix (.fn 42 [] [(.ptr 3 0 0 0), (.ptr 0 0 0 0)]), .fix (.fn 42 [] [(.ptr 3 0 0 0), (.ptr 0 0 0 0)]), J, J, .fix (.ptr 2 0 0 0), .fix (.fn 42 [] [(.ptr 3 0 0 0), (.ptr 0 0 0 0)]), J, .fix (.fn 42 [] [(.ptr 3 0 0 0), (.ptr 0 0 0 0)]), J, J, J, .fix (.ptr 2 0 0 1), .fix (.fn 42 [] [(.ptr 3 0 0 0), (.ptr 0 0 0 0)]), J, .fix (.fn 42 [] [(.ptr 3 0 0 0), (.ptr 0 0 0 0)])] ++ jN 32 ++ [.var (.list (.int .u16)), J, J, J, J, .var .i, .var .i, .fix (.bref 6 0), .fix (.bref 7 0), .var .i, .var (.list .i), .var (.list .i)]), [], []⟩) <| cond (Nat.beq cx 1621) (some ⟨[.cell 2 0 2 .i, .cell 2 0 3 .i], [(4, .i), (5, .i)], 55, [.raw 1 1, .raw 4 1, .raw 4 1, .raw 1 1, .dead, .dead, .blk .i 0 true, .blk .i 0 true], ([J, .fix (.ptr 0 0 0 0), .fix (.ptr 1 0 0 0), .fix (.ptr 2 0 0 0), .fix (.ptr 3 0 0 0), .fix (.fn 42 [] [(.ptr 3 0 0 0), (.ptr 0 0 0 0)]), .var .i, .var .i, .fix (.fn 42 [] [(.ptr 3 0 0 0), (.ptr 0 0 0 0)]), .fix (.fn 42 [] [(.ptr 3 0 0 0), (.ptr 0 0 0 0)]), J, J, .fix (.ptr 2 0 0 0), .fix (.fn 42 [] [(.ptr 3 0 0 0), (.ptr 0 0 0 0)]), J, .fix (.fn 42 [] [(.ptr 3 0 0 0), (.ptr 0 0 0 0)]), J, J, J, .fix (.ptr 2 0 0 1), .fix (.fn 42 [] [(.ptr 3 0 0 0), (.ptr 0 0 0 0)]), J, .fix (.fn 42 [] [(.ptr 3 0 0 0), (.ptr 0 0 0 0)])] ++ jN 32 ++ [.var (.list (.int .u16)), J, J, J, J, .var .i, .var .i, .fix (.bref 6 0), .fix (.bref 7 0), .var .i, .var (.list .i), .var (.list .i)]), [], []⟩) <| cond (Nat.beq cx 1622) (some ⟨[.cell 2 0 2 .i, .cell 2 0 3 .i], [(4, .i), (5, .i)], 55, [.raw 1 1, .raw 4 1, .raw 4 1, .raw 1 1, .dead, .dead, .blk .i 0 true, .blk .i 0 true], ([J, .fix (.ptr 0 0 0 0), .fix (.ptr 1 0 0 0), .fix (.ptr 2 0 0 0), .fix (.ptr 3 0 0 0), .fix (.fn 42 [] [(.ptr 3 0 0 0), (.ptr 0 0 0 0)]), .var .i, .var .i, .fix (.fn 42 [] [(.ptr 3 0 0 0), (.ptr 0 0 0 0)]), .fix (.fn 42 [] [(.ptr 3 0 0 0), (.ptr 0 0 0 0)]), J, J, .fix (.ptr 2 0 0 0), .fix (.fn 42 [] [(.ptr 3 0 0 0), (.ptr 0 0 0 0)]), J, .fix (.fn 42 [] [(.ptr 3 0 0 0), (.ptr 0 0 0 0)]), J, J, J, .fix (.ptr 2 0 0 1), .fix (.fn 42 [] [(.ptr 3 0 0 0), (.ptr 0 0 0 0)]), J, .fix (.fn 42 [] [(.ptr 3 0 0 0), (.ptr 0 0 0 0)])] ++ jN 32 ++ [.var (.list (.int .u16)), J, J, J, J, .var .i, .var .i, .fix (.bref 6 0), .fix (.bref 7 0), .var .i, .var (.list .i), .var (.list .i)]), [], []⟩) <| cond (Nat.beq cx 1625) (some ⟨[.cell 2 0 2 .i, .cell 2 0 3 .i], [(4, .i), (5, .i)], 55, [.raw 1 1, .raw 4 1, .raw 4 1, .raw 1 1, .dead, .dead, .blk .i 0 true, .blk .i 0 true], ([J, .fix (.ptr 0 0 0 0), .fix (.ptr 1 0 0 0), .fix (.ptr 2 0 0 0), .fix (.ptr 3 0 0 0), .fix (.fn 42 [] [(.ptr 3 0 0 0), (.ptr 0 0 0 0)]), .var .i, .var .i, .fix (.fn 42 [] [(.ptr 3 0 0 0), (.ptr 0 0 0 0)]), .fix (.fn 42 [] [(.ptr 3 0 0 0), (.ptr 0 0 0 0)]), J, J, .fix (.ptr 2 0 0 0), .fix (.fn 42 [] [(.ptr 3 0 0 0), (.ptr 0 0 0 0)]), J, .fix (.fn 42 [] [(.ptr 3 0 0 0), (.ptr 0 0 0 0)]), J, J, J, .fix (.ptr 2 0 0 1), .fix (.fn 42 [] [(.ptr 3 0 0 0), (.ptr 0 0 0 0)]), J, .fix (.fn 42 [] [(.ptr 3 0 0 0), (.ptr 0 0 0 0)])] ++ jN 32 ++ [.var (.list (.int .u16)), J, J, J, J, .var .i, .var .i, .fix (.bref 6 0), .fix (.bref 7 0), .var .i, .var (.list .i), .var (.list .i)]), [], []⟩) <| cond (Nat.beq cx 1626) (some ⟨[.cell 2 0 2 .i, .cell 2 0 3 .i], [(4, .i), (5, .i)], 55, [.raw 1 1, .raw 4 1, .raw 4 1, .raw 1 1, .dead, .dead, .blk .i 0 true, .blk .i 0 true], ([J, .fix (.ptr 0 0 0 0), .fix (.ptr 1 0 0 0), .fix (.ptr 2 0 0 0), .fix (.ptr 3 0 0 0), .fix (.fn 42 [] [(.ptr 3 0 0 0), (.ptr 0 0 0 0)]), .var .i, .var .i, .fix (.fn 42 [] [(.ptr 3 0 0 0), (.ptr 0 0 0 0)]), .fix (.fn 42 [] [(.ptr 3 0 0 0), (.ptr 0 0 0 0)]), J, J, .fix (.ptr 2 0 0 0), .fix (.fn 42 [] [(.ptr 3 0 0 0), (.ptr 0 0 0 0)]), J, .fix (.fn 42 [] [(.ptr 3 0 0 0), (.ptr 0 0 0 0)]), J, J, J, .fix (.ptr 2 0 0 1), .fix (.fn 42 [] [(.ptr 3 0 0 0), (.ptr 0 0 0 0)]), J, .fix (.fn 42 [] [(.ptr 3 0 0 0), (.ptr 0 0 0 0)])] ++ jN 32 ++ [.var (.list (.int .u16)), J, J, J, J, .var .i, .var .i, .fix (.bref 6 0), .fix (.bref 7 0), .var .i, .var (.list .i), .var (.list .i)]), [], []⟩) <| cond (Nat.beq cx 1637) (some ⟨[.cell 2 0 2 .i, .cell 2 0 3 .i], [(4, .i), (5, .i)], 55, [.raw 1 1, .raw 4 1, .raw 4 1, .raw 1 1, .dead, .dead, .blk .i 0 true, .blk .i 0 true], ([J, .fix (.ptr 0 0 0 0), .fix (.ptr 1 0 0 0), .fix (.ptr 2 0 0 0), .fix (.ptr 3 0 0 0), .fix (.fn 42 [] [(.ptr 3 0 0 0), (.ptr 0 0 0 0)]), .var .i, .var .i, .fix (.fn 42 [] [(.ptr 3 0 0 0), (.ptr 0 0 0 0)]), .fix (.fn 42 [] [(.ptr 3 0 0 0), (.ptr 0 0 0 0)]), J, J, .fix (.ptr 2 0 0 0), .fix (.fn 42 [] [(.ptr 3 0 0 0), (.ptr 0 0 0 0)]), J, .fix (.fn 42 [] [(.ptr 3 0 0 0), (.ptr 0 0 0 0)]), J, J, J, .fix (.ptr 2 0 0 1), .fix (.fn 42 [] [(.ptr 3 0 0 0), (.ptr 0 0 0 0)]), J, .fix (.fn 42 [] [(.ptr 3 0 0 0), (.ptr 0 0 0 0)])] ++ jN 32 ++ [.var (.list (.int .u16)), J, J, J, J, .var .i, .var .i, .fix (.bref 6 0), .fix (.bref 7 0), .var .i, .var (.list .i), .var (.list .i)]), [], []⟩) <| cond (Nat.beq cx 1638) (some ⟨[.cell 2 0 2 .i, .cell 2 0 3 .i], [(4, .i), (5, .i)], 55, [.raw 1 1, .raw 4 1, .raw 4 1, .raw 1 1, .dead, .dead, .blk .i 0 true, .blk .i 0 true], ([J, .fix (.ptr 0 0 0 0), .fix (.ptr 1 0 0 0), .fix (.ptr 2 0 0 0), .fix (.ptr 3 0 0 0), .fix (.fn 42 [] [(.ptr 3 0 0 0), (.ptr 0 0 0 0)]), .var .i, .var .i, .fix (.fn 42 [] [(.ptr 3 0 0 0), (.ptr 0 0 0 0)]), .fix (.fn 42 [] [(.ptr 3 0 0 0), (.ptr 0 0 0 0)]), J, J, .fix (.ptr 2 0 0 0), .fix (.fn 42 [] [(.ptr 3 0 0 0), (.ptr 0 0 0 0)]), J, .fix (.fn 42 [] [(.ptr 3 0 0 0), (.ptr 0 0 0 0)]), J, J, J, .fix (.ptr 2 0 0 1), .fix (.fn 42 [] [(.ptr 3 0 0 0), (.ptr 0 0 0 0)]), J, .fix (.fn 42 [] [(.ptr 3 0 0 0), (.ptr 0 0 0 0)])] ++ jN 32 ++ [.var (.list (.int .u16)), J, J, J, J, .var .i, .var .i, .fix (.bref 6 0), .fix (.bref 7 0), .var .i, .var (.list .i), .var (.list .i)]), [], []⟩) <| cond (Nat.beq cx 1641) (some ⟨[.cell 2 0 2 .i, .cell 2 0 3 .i], [(4, .i), (5, .i)], 55, [.raw 1 1, .raw 4 1, .raw 4 1, .raw 1 1, .dead, .dead, .blk .i 0 true, .blk .i 0 true], ([J, .fix (.ptr 0 0 0 0), .fix (.ptr 1 0 0 0), .fix (.ptr 2 0 0 0), .fix (.ptr 3 0 0 0), .fix (.fn 42 [] [(.ptr 3 0 0 0), (.ptr 0 0 0 0)]), .var .i, .var .i, .fix (.fn 42 [] [(.ptr 3 0 0 0), (.ptr 0 0 0 0)]), .fix (.fn 42 [] [(.ptr 3 0 0 0), (.ptr 0 0 0 0)]), J, J, .fix (.ptr 2 0 0 0), .fix (.fn 42 [] [(.ptr 3 0 0 0), (.ptr 0 0 0 0)]), J, .fix (.fn 42 [] [(.ptr 3 0 0 0), (.ptr 0 0 0 0)]), J, J, J, .fix (.ptr 2 0 0 1), .fix (.fn 42 [] [(.ptr 3 0 0 0), (.ptr 0 0 0 0)]), J, .fix (.fn 42 [] [(.ptr 3 0 0 0), (.ptr 0 0 0 0)])] ++ jN 32 ++ [.var (.list (.int .u16)), J, J, J, J, .var .i, .var .i, .fix (.bref 6 0), .fix (.bref 7 0), .var .i, .var (.list .i), .var (.list .i)]), [], []⟩) <| cond (Nat.beq cx 1642) (some ⟨[.cell 2 0 2 .i, .cell 2 0 3 .i], [(4, .i), (5, .i)], 55, [.raw 1 1, .raw 4 1, .raw 4 1, .raw 1 1, .dead, .dead, .blk .i 0 true, .blk .i 0 true], ([J, .fix (.ptr 0 0 0 0), .fix (.ptr 1 0 0 0), .fix (.ptr 2 0 0 0), .fix (.ptr 3 0 0 0), .fix (.fn 42 [] [(.ptr 3 0 0 0), (.ptr 0 0 0 0)]), .var .i, .var .i, .fix (.fn 42 [] [(.ptr 3 0 0 0), (.ptr 0 0 0 0)]), .fix (.fn 42 [] [(.ptr 3 0 0 0), (.ptr 0 0 0 0)]), J, J, .fix (.ptr 2 0 0 0), .fix (.fn 42 [] [(.ptr 3 0 0 0), (.ptr 0 0 0 0)]), J, .fix (.fn 42 [] [(.ptr 3 0 0 0), (.ptr 0 0 0 0)]), J, J, J, .fix (.ptr 2 0 0 1), .fix (.fn 42 [] [(.ptr 3 0 0 0), (.ptr 0 0 0 0)]), J, .fix (.fn 42 [] [(.ptr 3 0 0 0), (.ptr 0 0 0 0)])] ++ jN 32 ++ [.var (.list (.int .u16)), J, J, J, J, .var .i, .var .i, .fix (.bref 6 0), .fix (.bref 7 0), .var .i, .var (.list .i), .var (.list .i)]), [], []⟩) <| cond (Nat.beq cx 1685) (some ⟨[.cell 2 0 2 .i, .cell 2 0 3 .i], [(4, .i), (5, .i)], 55, [.raw 1 1, .raw 4 1, .raw 4 1, .raw 1 1, .dead, .dead, .blk .i 0 true, .blk .i 0 true], ([J, .fix (.ptr 0 0 0 0), .fix (.ptr 1 0 0 0), .fix (.ptr 2 0 0 0), .fix (.ptr 3 0 0 0), .fix (.fn 42 [] [(.ptr 3 0 0 0), (.ptr 0 0 0 0)]), .var .i, .var .i, .fix (.fn 42 [] [(.ptr 3 0 0 0), (.ptr 0 0 0 0)]), .fix (.fn 42 [] [(.ptr 3 0 0 0), (.ptr 0 0 0 0)]), J, J, .fix (.ptr 2 0 0 0), .fix (.fn 42 [] [(.ptr 3 0 0 0), (.ptr 0 0 0 0)]), J, .fix (.fn 42 [] [(.ptr 3 0 0 0), (.ptr 0 0 0 0)]), J, J, J, .fix (.ptr 2 0 0 1), .fix (.fn 42 [] [(.ptr 3 0 0 0), (.ptr 0 0 0 0)]), J, .fix (.fn 42 [] [(.ptr 3 0 0 0), (.ptr 0 0 0 0)])] ++ jN 32 ++ [.var (.list (.int .u16)), J, J, J, J, .var .i, .var .i, .fix (.bref 6 0), .fix (.bref 7 0), .var .i, .var (.list .i), .var (.list .i)]), [], []⟩) <| cond (Nat.beq cx 1686) (some ⟨[.cell 2 0 2 .i, .cell 2 0 3 .i], [(4, .i), (5, .i)], 55, [.raw 1 1, .raw 4 1, .raw 4 1, .raw 1 1, .dead, .dead, .blk .i 0 true, .blk .i 0 true], ([J, .fix (.ptr 0 0 0 0), .fix (.ptr 1 0 0 0), .fix (.ptr 2 0 0 0), .fix (.ptr 3 0 0 0), .fix (.fn 42 [] [(.ptr 3 0 0 0), (.ptr 0 0 0 0)]), .var .i, .var .i, .fix (.fn 42 [] [(.ptr 3 0 0 0), (.ptr 0 0 0 0)]), .fix (.fn 42 [] [(.ptr 3 0 0 0), (.ptr 0 0 0 0)]), J, J, .fix (.ptr 2 0 0 0), .fix (.fn 42 [] [(.ptr 3 0 0 0), (.ptr 0 0 0 0)]), J, .fix (.fn 42 [] [(.ptr 3 0 0 0), (.ptr 0 0 0 0)]), J, J, J, .fix (.ptr 2 0 0 1), .fix (.fn 42 [] [(.ptr 3 0 0 0), (.ptr 0 0 0 0)]), J, .fix (.fn 42 [] [(.ptr 3 0 0 0), (.ptr 0 0 0 0)])] ++ jN 32 ++ [.var (.list (.int .u16)), J, J, J, J, .var .i, .var .i, .fix (.bref 6 0), .fix (.bref 7 0), .var .i, .var (.list .i), .var (.list .i)]), [], []⟩) <| cond (Nat.beq cx 1689) (some ⟨[.cell 2 0 2 .i, .cell 2 0 3 .i], [(4, .i), (5, .i)], 55, [.raw 1 1, .raw 4 1, .raw 4 1, .raw 1 1, .dead, .dead, .blk .i 0 true, .blk .i 0 true], ([J, .fix (.ptr 0 0 0 0), .fix (.ptr 1 0 0 0), .fix (.ptr 2 0 0 0), .fix (.ptr 3 0 0 0), .fix (.fn 42 [] [(.ptr 3 0 0 0), (.ptr 0 0 0 0)]), .var .i, .var .i, .fix (.fn 42 [] [(.ptr 3 0 0 0), (.ptr 0 0 0 0)]), .fix (.fn 42 [] [(.ptr 3 0 0 0), (.ptr 0 0 0 0)]), J, J, .fix (.ptr 2 0 0 0), .fix (.fn 42 [] [(.ptr 3 0 0 0), (.ptr 0 0 0 0)]), J, .fix (.fn 42 [] [(.ptr 3 0 0 0), (.ptr 0 0 0 0)]), J, J, J, .fix (.ptr 2 0 0 1), .fix (.fn 42 [] [(.ptr 3 0 0 0), (.ptr 0 0 0 0)]), J, .fix (.fn 42 [] [(.ptr 3 0 0 0), (.ptr 0 0 0 0)])] ++ jN 32 ++ [.var (.list (.int .u16)), J, J, J, J, .var .i, .var .i, .fix (.bref 6 0), .fix (.bref 7 0), .var .i, .var (.list .i), .var (.list .i)]), [], []⟩) <| cond (Nat.beq cx 1690) (some ⟨[.cell 2 0 2 .i, .cell 2 0 3 .i], [(4, .i), (5, .i)], 55, [.raw 1 1, .raw 4 1, .raw 4 1, .raw 1 1, .dead, .dead, .blk .i 0 true, .blk .i 0 true], ([J, .fix (.ptr 0 0 0 0), .fix (.ptr 1 0 0 0), .fix (.ptr 2 0 0 0), .fix (.ptr 3 0 0 0), .fix (.fn 42 [] [(.ptr 3 0 0 0), (.ptr 0 0 0 0)]), .var .i, .var .i, .fix (.fn 42 [] [(.ptr 3 0 0 0), (.ptr 0 0 0 0)]), .fix (.fn 42 [] [(.ptr 3 0 0 0), (.ptr 0 0 0 0)]), J, J, .fix (.ptr 2 0 0 0), .fix (.fn 42 [] [(.ptr 3 0 0 0), (.ptr 0 0 0 0)]), J, .fix (.fn 42 [] [(.ptr 3 0 0 0), (.ptr 0 0 0 0)]), J, J, J, .fix (.ptr 2 0 0 1), .fix (.fn 42 [] [(.ptr 3 0 0 0), (.ptr 0 0 0 0)]), J, .fix (.fn 42 [] [(.ptr 3 0 0 0), (.ptr 0 0 0 0)])] ++ jN 32 ++ [.var (.list (.int .u16)), J, J, J, J, .var .i, .var .i, .fix (.bref 6 0), .fix (.bref 7 0), .var .i, .var (.list .i), .var (.list .i)]), [], []⟩) <| cond (Nat.beq cx 1701) (some ⟨[.cell 2 0 2 .i, .cell 2 0 3 .i], [(4, .i), (5, .i)], 55, [.raw 1 1, .raw 4 1, .raw 4 1, .raw 1 1, .dead, .dead, .blk .i 0 true, .blk .i 0 true], ([J, .fix (.ptr 0 0 0 0), .fix (.ptr 1 0 0 0), .fix (.ptr 2 0 0 0), .fix (.ptr 3 0 0 0), .fix (.fn 42 [] [(.ptr 3 0 0 0), (.ptr 0 0 0 0)]), .var .i, .var .i, .fix (.fn 42 [] [(.ptr 3 0 0 0), (.ptr 0 0 0 0)]), .fix (.fn 42 [] [(.ptr 3 0 0 0), (.ptr 0 0 0 0)]), J, J, .fix (.ptr 2 0 0 0), .fix (.fn 42 [] [(.ptr 3 0 0 0), (.ptr 0 0 0 0)]), J, .fix (.fn 42 [] [(.ptr 3 0 0 0), (.ptr 0 0 0 0)]), J, J, J, .fix (.ptr 2 0 0 1), .fix (.fn 42 [] [(.ptr 3 0 0 0), (.ptr 0 0 0 0)]), J, .fix (.fn 42 [] [(.ptr 3 0 0 0), (.ptr 0 0 0 0)])] ++ jN 32 ++ [.var (.list (.int .u16)), J, J, J, J, .var .i, .var .i, .fix (.bref 6 0), .fix (.bref 7 0), .var .i, .var (.list .i), .var (.list .i)]), [], []⟩) <| cond (Nat.beq cx 1702) (some ⟨[.cell 2 0 2 .i, .cell 2 0 3 .i], [(4, .i), (5, .i)], 55, [.raw 1 1, .raw 4 1, .raw 4 1, .raw 1 1, .dead, .dead, .blk .i 0 true, .blk .i 0 true], ([J, .fix (.ptr 0 0 0 0), .fix (.ptr 1 0 0 0), .fix (.ptr 2 0 0 0), .fix (.ptr 3 0 0 0), .fix (.fn 42 [] [(.ptr 3 0 0 0), (.ptr 0 0 0 0)]), .var .i, .var .i, .fix (.fn 42 [] [(.ptr 3 0 0 0), (.ptr 0 0 0 0)]), .fix (.fn 42 [] [(.ptr 3 0 0 0), (.ptr 0 0 0 0)]), J, J, .fix (.ptr 2 0 0 0), .fix (.fn 42 [] [(.ptr 3 0 0 0), (.ptr 0 0 0 0)]), J, .fix (.fn 42 [] [(.ptr 3 0 0 0), (.ptr 0 0 0 0)]), J, J, J, .fix (.ptr 2 0 0 1), .fix (.fn 42 [] [(.ptr 3 0 0 0), (.ptr 0 0 0 0)]), J, .fix (.fn 42 [] [(.ptr 3 0 0 0), (.ptr 0 0 0 0)])] ++ jN 32 ++ [.var (.list (.int .u16)), J, J, J, J, .var .i, .var .i, .fix (.bref 6 0), .fix (.bref 7 0), .var .i, .var (.list .i), .var (.list .i)]), [], []⟩) <| cond (Nat.beq cx 1705) (some ⟨[.cell 2 0 2 .i, .cell 2 0 3 .i], [(4, .i), (5, .i)], 55, [.raw 1 1, .raw 4 1, .raw 4 1, .raw 1 1, .dead, .dead, .blk .i 0 true, .blk .i 0 true], ([J, .fix (.ptr 0 0 0 0), .fix (.ptr 1 0 0 0), .fix (.ptr 2 0 0 0), .fix (.ptr 3 0 0 0), .fix (.fn 42 [] [(.ptr 3 0 0 0), (.ptr 0 0 0 0)]), .var .i, .var .i, .fix (.fn 42 [] [(.ptr 3 0 0 0), (.ptr 0 0 0 0)]), .fix (.fn 42 [] [(.ptr 3 0 0 0), (.ptr 0 0 0 0)]), J, J, .fix (.ptr 2 0 0 0), .fix (.fn 42 [] [(.ptr 3 0 0 0), (.ptr 0 0 0 0)]), J, .fix (.fn 42 [] [(.ptr 3 0 0 0), (.ptr 0 0 0 0)]), J, J, J, .fix (.ptr 2 0 0 1), .fix (.fn 42 [] [(.ptr 3 0 0 0), (.ptr 0 0 0 0)]), J, .fix (.fn 42 [] [(.ptr 3 0 0 0), (.ptr 0 0 0 0)])] ++ jN 32 ++ [.var (.list (.int .u16)), J, J, J, J, .var .i, .var .i, .fix (.bref 6 0), .fix (.bref 7 0), .var .i, .var (.list .i), .var (.list .i)]), [], []⟩) <| cond (Nat.beq cx 1706) (some ⟨[.cell 2 0 2 .i, .cell 2 0 3 .i], [(4, .i), (5, .i)], 55, [.raw 1 1, .raw 4 1, .raw 4 1, .raw 1 1, .dead, .dead, .blk .i 0 true, .blk .i 0 true], ([J, .fix (.ptr 0 0 0 0), .fix (.ptr 1 0 0 0), .fix (.ptr 2 0 0 0), .fix (.ptr 3 0 0 0), .fix (.fn 42 [] [(.ptr 3 0 0 0), (.ptr 0 0 0 0)]), .var .i, .var .i, .fix (.fn 42 [] [(.ptr 3 0 0 0), (.ptr 0 0 0 0)]), .fix (.fn 42 [] [(.ptr 3 0 0 0), (.ptr 0 0 0 0)]), J, J, .fix (.ptr 2 0 0 0), .fix (.fn 42 [] [(.ptr 3 0 0 0), (.ptr 0 0 0 0)]), J, .fix (.fn 42 [] [(.ptr 3 0 0 0), (.ptr 0 0 0 0)]), J, J, J, .fix (.ptr 2 0 0 1), .fix (.fn 42 [] [(.ptr 3 0 0 0), (.ptr 0 0 0 0)]), J, .fix (.fn 42 [] [(.ptr 3 0 0 0), (.ptr 0 0 0 0)])] ++ jN 32 ++ [.var (.list (.int .u16)), J, J, J, J, .var .i, .var .i, .fix (.bref 6 0), .fix (.bref 7 0), .var .i, .var (.list .i), .var (.list .i)]), [], []⟩) <| none
theorem zra (N : Nat) (a0 : (List Int)) : z34 (z2g.mk' (z1s zei) zfg zdg) N 400 28 [(.list (.int .u16))] [.record] a0 = zbr N a0 := by kernel_rfl
noncomputable def zcc : List (FuncId × Spec) := (28, ⟨[(.list (.int .u16))], [.record], zbs⟩) :: zei
theorem zon : zo Tryz.prog (zq zcc) := z8 z06 z3f zm zr9 (by kernel_rfl) ⟨_, Tryz.func28, by rfl⟩ (tm := zfg) (gh := zdg) fun x y h => by obtain ⟨N, h⟩ := zp h; exact ⟨N, 400, (zra N x).trans h⟩
noncomputable def zfh : Nat -> Option Tmpl := fun cx => cond (Nat.beq cx 1) (some ⟨[], [], 46, [], ([.var (.list .i), J, J, .var .i] ++ jN 42), [], []⟩) <| none
theorem zrb (N : Nat) (a0 : (List Int)) : z34 (z2g.mk' (z1s zcc) zfh zdg) N 400 66 [(.list .i)] [.bool] a0 = zhj N a0 := by kernel_rfl
noncomputable def zcd : List (FuncId × Spec) := (66, ⟨[(.list .i)], [.bool], zbn⟩) :: zcc
theorem zoo : zo Tryz.prog (zq zcd) := z8 z06 z3f zm zon (by kernel_rfl) ⟨_, Tryz.func66, by rfl⟩ (tm := zfh) (gh := zdg) fun x y h => by obtain ⟨N, h⟩ := zp h; exact ⟨N, 400, (zrb N x).trans h⟩
noncomputable def zdi : Nat -> Option Tmpl := fun cx => cond (Nat.beq cx 26) (some ⟨[], [], 58, [.st .record], ([J, .fix (.ptr 0 0 0 0), J, .var .i, .fix (.ptr 0 0 0 1), J, J, J, .fix (.ptr 0 0 0 1), J, J, J, J, .fix (.ptr 0 0 0 2), J, J, J, J, .fix (.ptr 0 0 0 0)] ++ jN 39 ++ [.agg .record]), [], []⟩) <| none
theorem zop (N : Nat) (a0 : Record) : z34 (z2g.mk' (z1s zcd) zdi zdg) N 400 55 [.record] [.bool] a0 = z9n N a0 := by kernel_rfl
noncomputable def zak : List (FuncId × Spec) := (55, ⟨[.record], [.bool], z9o⟩) :: zcd
theorem zlx : zo Tryz.prog (zq zak) := z8 z06 z3f zm zoo (by kernel_rfl) ⟨_, Tryz.func55, by rfl⟩ (tm := zdi) (gh := zdg) fun x y h => by obtain ⟨N, h⟩ := zp h; exact ⟨N, 400, (zop N x).trans h⟩
noncomputable def zhu : Nat -> Option Tmpl := fun cx => cond (Nat.beq cx 6) (some ⟨[], [], 28, [], ([.var .i, J, J, .var .str] ++ jN 24), [], []⟩) <| none
theorem zu2 (N : Nat) (a0 : Int) : z34 (z2g.mk' (z1s zak) zhu zdg) N 400 83 [.i] [.str] a0 = zdy N a0 := by kernel_rfl
noncomputable def zej : List (FuncId × Spec) := (83, ⟨[.i], [.str], z9p⟩) :: zak
theorem zrc : zo Tryz.prog (zq zej) := z8 z06 z3f zm zlx (by kernel_rfl) ⟨_, Tryz.func83, by rfl⟩ (tm := zhu) (gh := zdg) fun x y h => by obtain ⟨N, h⟩ := zp h; exact ⟨N, 400, (zu2 N x).trans h⟩
noncomputable def zfi : Nat -> Option Tmpl := fun cx => cond (Nat.beq cx 1) (some ⟨[], [], 27, [], ([.var (.list .i), J, J, J, .var .str, .var .i] ++ jN 21), [], []⟩) <| none
theorem zrd (N : Nat) (a0 : (List Int)) : z34 (z2g.mk' (z1s zej) zfi zdg) N 400 67 [(.list .i)] [.str, .i] a0 = zbo N a0 := by kernel_rfl
noncomputable def zce : List (FuncId × Spec) := (67, ⟨[(.list .i)], [.str, .i], z54⟩) :: zej
theorem zoq : zo Tryz.prog (zq zce) := z8 z06 z3f zm zrc (by kernel_rfl) ⟨_, Tryz.func67, by rfl⟩ (tm := zfi) (gh := zdg) fun x y h => by obtain ⟨N, h⟩ := zp h; exact ⟨N, 400, (zrd N x).trans h⟩
noncomputable def zfj : Nat -> Option Tmpl := fun cx => cond (Nat.beq cx 1) (some ⟨[.tmp 4 .i], [(2, .i)], 54, [.st .record, .blk .i 0 false, .dead, .blk .i 0 true], ([J, .fix (.ptr 0 0 0 0), J, .fix (.bref 1 0), .fix (.bref 3 0), .var .i] ++ jN 6 ++ [.fix (.ptr 0 0 0 0), J, .fix (.ptr 0 0 0 1), J, .fix (.bref 1 0)] ++ jN 37 ++ [.agg .record, .var (.list .i), .var (.list .i)]), [], []⟩) <| none
theorem zre (N : Nat) (a0 : Record) : z34 (z2g.mk' (z1s zce) zfj zdg) N 400 56 [.record] [.str] a0 = zhk N a0 := by kernel_rfl
noncomputable def zcf : List (FuncId × Spec) := (56, ⟨[.record], [.str], zbp⟩) :: zce
theorem zor : zo Tryz.prog (zq zcf) := z8 z06 z3f zm zoq (by kernel_rfl) ⟨_, Tryz.func56, by rfl⟩ (tm := zfj) (gh := zdg) fun x y h => by obtain ⟨N, h⟩ := zp h; exact ⟨N, 400, (zre N x).trans h⟩
theorem zos (N : Nat) (a0 : Int) : z34 (z2g.mk' (z1s zcf) zdf zdg) N 400 57 [.i] [.str] a0 = z9q a0 := by kernel_rfl
noncomputable def zal : List (FuncId × Spec) := (57, ⟨[.i], [.str], z5q⟩) :: zcf
theorem zly : zo Tryz.prog (zq zal) := z8 z06 z3f zm zor (by kernel_rfl) ⟨_, Tryz.func57, by rfl⟩ (tm := zdf) (gh := zdg) fun x y h => ⟨0, 400, (zos 0 x).trans h⟩
end Clk.YtpncgjcflkhemabGreat
namespace Clk.YtpncgjcflkhemabGreat
open Go Go.Proofs Go.Proofs.YtpncgjcflkhemabGreat
theorem zrf (N : Nat) (a0 : Int) : z34 (z2g.mk' (z1s zal) zdf zdg) N 400 68 [.i] [.i] a0 = zbq a0 := by kernel_rfl
noncomputable def zcg : List (FuncId × Spec) := (68, ⟨[.i], [.i], z7o⟩) :: zal
theorem zot : zo Tryz.prog (zq zcg) := z8 z06 z3f zm zly (by kernel_rfl) ⟨_, Tryz.func68, by rfl⟩ (tm := zdf) (gh := zdg) fun x y h => ⟨0, 400, (zrf 0 x).trans h⟩
noncomputable def zhv : Nat -> Option Tmpl := fun cx => cond (Nat.beq cx 1) (some ⟨[], [], 26, [], ([.var .str, J, J, .var .i, .var .i] ++ jN 21), [], []⟩) <| cond (Nat.beq cx 29) (some ⟨[], [], 26, [], ([.var .str, J, J, .var .i, .var .i, .var .i] ++ jN 20), [], []⟩) <| none
theorem zu3 (N : Nat) (a0 : Str) : z34 (z2g.mk' (z1s zcg) zhv zdg) N 400 58 [.str] [.i] a0 = zk1 N a0 := by kernel_rfl
noncomputable def zek : List (FuncId × Spec) := (58, ⟨[.str], [.i], zdz⟩) :: zcg
theorem zrg : zo Tryz.prog (zq zek) := z8 z06 z3f zm zot (by kernel_rfl) ⟨_, Tryz.func58, by rfl⟩ (tm := zhv) (gh := zdg) fun x y h => by obtain ⟨N, h⟩ := zp h; exact ⟨N, 400, (zu3 N x).trans h⟩
theorem zlz (N : Nat) (a0 : Record) (a1 : Str) : z34 (z2g.mk' (z1s zek) zdf zdg) N 400 43 [.record, .str] [.str, .i] (a0, a1) = z4o a0 a1 := by kernel_rfl
noncomputable def z8s : List (FuncId × Spec) := (43, ⟨[.record, .str], [.str, .i], z8d⟩) :: zek
theorem zkn : zo Tryz.prog (zq z8s) := z8 z06 z3f zm zrg (by kernel_rfl) ⟨_, Tryz.func43, by rfl⟩ (tm := zdf) (gh := zdg) fun x y h => ⟨0, 400, (zlz 0 x.1 x.2).trans h⟩
theorem zrh (N : Nat) (a0 : Write) : z34 (z2g.mk' (z1s z8s) zdf zdg) N 400 29 [.write] [.page, .i] a0 = z7q a0 := by kernel_rfl
noncomputable def zch : List (FuncId × Spec) := (29, ⟨[.write], [.page, .i], zbt⟩) :: z8s
theorem zou : zo Tryz.prog (zq zch) := z8 z06 z3f zm zkn (by kernel_rfl) ⟨_, Tryz.func29, by rfl⟩ (tm := zdf) (gh := zdg) fun x y h => ⟨0, 400, (zrh 0 x).trans h⟩
theorem zri (N : Nat) (a0 : Int) (a1 : (List Int)) : z34 (z2g.mk' (z1s zch) zdf zdg) N 400 14 [.i, (.list (.int .u16))] [.page] (a0, a1) = z7r a0 a1 := by kernel_rfl
noncomputable def zci : List (FuncId × Spec) := (14, ⟨[.i, (.list (.int .u16))], [.page], z7s⟩) :: zch
theorem zov : zo Tryz.prog (zq zci) := z8 z06 z3f zm zou (by kernel_rfl) ⟨_, Tryz.func14, by rfl⟩ (tm := zdf) (gh := zdg) fun x y h => ⟨0, 400, (zri 0 x.1 x.2).trans h⟩
noncomputable def zcj : Nat -> Option Tmpl := fun cx => cond (Nat.beq cx 1) (some ⟨[.tmp 3 .block], [(4, .block)], 29, [.raw 4 1, .raw 4 1, .st .chip, .raw 4 1, .dead, .nst true 0 true], ([J, .fix (.ptr 2 0 0 0), .fix (.ptr 3 0 0 0), .fix (.bref 5 0), .var .i] ++ jN 32 ++ [.agg .chip, J, J, J, J, .var (.list .block)]), [.nest 5 true], [.abs 5]⟩) <| none
theorem zm0 (N : Nat) (a0 : Chip) : z34 (z2g.mk' (z1s zci) zcj zdg) N 400 30 [.chip] [.chip, .i] a0 = zdc N a0 := by kernel_rfl
noncomputable def z8t : List (FuncId × Spec) := (30, ⟨[.chip], [.chip, .i], zw⟩) :: zci
theorem zko : zo Tryz.prog (zq z8t) := z8 z06 z3f zm zov (by kernel_rfl) ⟨_, Tryz.func30, by rfl⟩ (tm := zcj) (gh := zdg) fun x y h => by obtain ⟨N, h⟩ := zp h; exact ⟨N, 400, (zm0 N x).trans h⟩
noncomputable def zdj : Nat -> Option Tmpl := fun cx => cond (Nat.beq cx 5) (some ⟨[.tmp 3 .block], [(5, .block)], 29, [.raw 4 1, .raw 4 1, .raw 4 1, .st .chip, .raw 4 1, .dead, .nst true 0 true], ([J, .fix (.ptr 3 0 0 0), .fix (.ptr 4 0 0 0), .fix (.bref 6 0), .var .i] ++ jN 36 ++ [.agg .chip, J, J, J, J, .var (.list .block)]), [.nest 6 true], [.abs 6]⟩) <| cond (Nat.beq cx 26) (some ⟨[.tmp 3 .block], [(5, .block)], 29, [.raw 4 1, .st .fate, .raw 4 1, .st .chip, .raw 4 1, .dead, .nst true 0 true], ([J, .fix (.ptr 3 0 0 0), .fix (.ptr 4 0 0 0), .fix (.bref 6 0), .var .i] ++ jN 28 ++ [.agg .fate, J, J, J, J, .agg .chip, J, J, J, J, .var (.list .block)]), [.nest 6 true], [.abs 6]⟩) <| cond (Nat.beq cx 1722) (some ⟨[], [], 112, [.raw 4 1, .st .fate, .raw 4 1, .raw 4 1, .raw 4 1, .dead, .nst true 0 false, .raw 4 1], ([J, J, J, .fix (.ptr 0 0 0 0), J, .fix (.ptr 1 0 0 0), .fix (.ptr 2 0 0 0), J, .fix (.ptr 7 0 0 0), .pt 6 0 0, .var .i, .fix (.ptr 0 0 0 2)] ++ jN 7 ++ [.fix (.ptr 0 0 0 0), J, J, J, J, J, .fix (.ptr 0 0 0 0)] ++ jN 7 ++ [.fix (.ptr 1 0 0 0), J, J, J, J, .fix (.ptr 1 0 0 0)] ++ jN 9 ++ [.fix (.ptr 7 0 0 3), J, J, .fix (.ptr 7 0 0 3), .fix (.ptr 7 0 0 0), .fix (.bref 6 0), J, J, .fix (.ptr 1 0 0 0)] ++ jN 59 ++ [.agg .fate, J, J, J, J, .fix (.bref 6 0), J, J, J, .fix (.bref 6 0), J, J, J, .var (.list .block), .fix (.bref 6 0), .var .bool, .var .bool, .var .i]), [], [.abs 6]⟩) <| none
noncomputable def zdk : Nat -> Nat -> Option (Nat × Nat) := fun cx id => cond (Nat.beq cx 6891 && Nat.beq id 13) (some (6, 9)) <| none
theorem zow (N : Nat) (a0 : Chip) (a1 : Int) (a2 : Fate) : z34 (z2g.mk' (z1s z8t) zdj zdk) N 400 15 [.chip, .i, .fate] [.chip, .i] (a0, a1, a2) = z5u N a0 a1 a2 := by kernel_rfl
noncomputable def zam : List (FuncId × Spec) := (15, ⟨[.chip, .i, .fate], [.chip, .i], z5v⟩) :: z8t
theorem zm1 : zo Tryz.prog (zq zam) := z8 z06 z3f zm zko (by kernel_rfl) ⟨_, Tryz.func15, by rfl⟩ (tm := zdj) (gh := zdk) fun x y h => by obtain ⟨N, h⟩ := zp h; exact ⟨N, 400, (zow N x.1 x.2.1 x.2.2).trans h⟩
theorem zox (N : Nat) (a0 : Chip) (a1 : Int) (a2 : Int) : z34 (z2g.mk' (z1s zam) zdf zdg) N 400 31 [.chip, .i, .i] [.bool] (a0, a1, a2) = z5t a0 a1 a2 := by kernel_rfl
noncomputable def zan : List (FuncId × Spec) := (31, ⟨[.chip, .i, .i], [.bool], z9s⟩) :: zam
theorem zm2 : zo Tryz.prog (zq zan) := z8 z06 z3f zm zm1 (by kernel_rfl) ⟨_, Tryz.func31, by rfl⟩ (tm := zdf) (gh := zdg) fun x y h => ⟨0, 400, (zox 0 x.1 x.2.1 x.2.2).trans h⟩
noncomputable def zb8 : Nat -> Option Tmpl := fun cx => cond (Nat.beq cx 5) (some ⟨[.tmp 3 .block], [(6, .block)], 29, [.raw 4 1, .raw 3 1, .raw 4 1, .raw 4 1, .st .chip, .raw 4 1, .dead, .nst true 0 true], ([J, .fix (.ptr 4 0 0 0), .fix (.ptr 5 0 0 0), .fix (.bref 7 0), .var .i] ++ jN 39 ++ [.agg .chip, J, J, J, J, .var (.list .block)]), [.nest 7 true], [.abs 7]⟩) <| cond (Nat.beq cx 26) (some ⟨[.tmp 3 .block], [(6, .block)], 29, [.raw 4 1, .st .page, .st .fate, .raw 4 1, .st .chip, .raw 4 1, .dead, .nst true 0 true], ([J, .fix (.ptr 4 0 0 0), .fix (.ptr 5 0 0 0), .fix (.bref 7 0), .var .i] ++ jN 28 ++ [.agg .page, .agg .fate, J, J, J, J, .agg .chip, J, J, J, J, .var (.list .block)]), [.nest 7 true], [.abs 7]⟩) <| none
noncomputable def zb9 : Nat -> Nat -> Option (Nat × Nat) := fun cx id => cond (Nat.beq cx 27541 && Nat.beq id 18) (some (7, 1)) <| cond (Nat.beq cx 27542 && Nat.beq id 18) (some (7, 1)) <| cond (Nat.beq cx 27545 && Nat.beq id 18) (some (7, 1)) <| cond (Nat.beq cx 27546 && Nat.beq id 18) (some (7, 1)) <| cond (Nat.beq cx 27557 && Nat.beq id 18) (some (7, 1)) <| cond (Nat.beq cx 27558 && Nat.beq id 18) (some (7, 1)) <| cond (Nat.beq cx 27561 && Nat.beq id 18) (some (7, 1)) <| cond (Nat.beq cx 27562 && Nat.beq id 18) (some (7, 1)) <| none
theorem zkp (N : Nat) (a0 : Chip) (a1 : Int) (a2 : Int) (a3 : Page) (a4 : Fate) : z34 (z2g.mk' (z1s zan) zb8 zb9) N 400 16 [.chip, .i, .i, .page, .fate] [.chip, .i] (a0, a1, a2, a3, a4) = z3m N a0 a1 a2 a3 a4 := by kernel_rfl
noncomputable def z7c : List (FuncId × Spec) := (16, ⟨[.chip, .i, .i, .page, .fate], [.chip, .i], z0r⟩) :: zan
theorem zi9 : zo Tryz.prog (zq z7c) := z8 z06 z3f zm zm2 (by kernel_rfl) ⟨_, Tryz.func16, by rfl⟩ (tm := zb8) (gh := zb9) fun x y h => by obtain ⟨N, h⟩ := zp h; exact ⟨N, 400, (zkp N x.1 x.2.1 x.2.2.1 x.2.2.2.1 x.2.2.2.2).trans h⟩
noncomputable def zfk : Nat -> Option Tmpl := fun cx => cond (Nat.beq cx 1) (some ⟨[], [], 98, [.raw 4 1, .st .chip], ([.var (.list (.int .u16)), .var .i, J, J, J, J, .fix (.ptr 0 0 0 0), .fix (.ptr 1 0 0 0), J, .var .i, .var .i] ++ jN 91 ++ [.agg .chip]), [], []⟩) <| none
theorem zrj (N : Nat) (a0 : (List Int)) (a1 : Int) (a2 : Int) : z34 (z2g.mk' (z1s z7c) zfk zdg) N 400 6 [(.list (.int .u16)), .i, .i] [.chip] (a0, a1, a2) = z7u N a0 a1 a2 := by kernel_rfl
noncomputable def zck : List (FuncId × Spec) := (6, ⟨[(.list (.int .u16)), .i, .i], [.chip], zbu⟩) :: z7c
theorem zoy : zo Tryz.prog (zq zck) := z8 z06 z3f zm zi9 (by kernel_rfl) ⟨_, Tryz.func6, by rfl⟩ (tm := zfk) (gh := zdg) fun x y h => by obtain ⟨N, h⟩ := zp h; exact ⟨N, 400, (zrj N x.1 x.2.1 x.2.2).trans h⟩
noncomputable def zba : Nat -> Option Tmpl := fun cx => cond (Nat.beq cx 6) (some ⟨[.tmp 3 .block], [(5, .block)], 29, [.st .geometry, .raw 4 1, .st .device, .st .chip, .raw 4 1, .dead, .nst true 0 true], ([J, .fix (.ptr 3 0 0 0), .fix (.ptr 4 0 0 0), .fix (.bref 6 0), .var .i] ++ jN 24 ++ [.agg .geometry, J, J, J, J, .agg .device, .agg .chip, J, J, J, J, .var (.list .block)]), [.nest 6 true], [.abs 6]⟩) <| none
theorem zkq (N : Nat) (a0 : (List Int)) (a1 : Int) (a2 : Int) : z34 (z2g.mk' (z1s zck) zba zdg) N 400 3 [(.list (.int .u16)), (.int .u8), (.int .u8)] [.bool] (a0, a1, a2) = z3y N a0 a1 a2 := by kernel_rfl
noncomputable def zkr : List (FuncId × Spec) := (3, ⟨[(.list (.int .u16)), (.int .u8), (.int .u8)], [.bool], z78⟩) :: zck
theorem zia : zo Tryz.prog (zq zkr) := z8 z06 z3f zm zoy (by kernel_rfl) ⟨_, Tryz.func3, by rfl⟩ (tm := zba) (gh := zdg) fun x y h => by obtain ⟨N, h⟩ := zp h; exact ⟨N, 400, (zkq N x.1 x.2.1 x.2.2).trans h⟩
end Clk.YtpncgjcflkhemabGreat
namespace Clk
open Go
theorem z6 {X R : Type} (F : (X -> Option R) -> X -> Option R) (N : Nat) (x : X) : zf F (N + 1) x = F (zf F N) x := rfl
theorem zn {α : Type} {xs l : List α} {k : Nat} {a : α} (h : xs.drop k = a :: l) : k < xs.length /\ (∀ d, xs.getD k d = a) /\ xs.drop (k + 1) = l := by
 have hk : k < xs.length := by
  apply Nat.lt_of_not_le
  intro hn; rw [List.drop_eq_nil_of_le hn] at h; cases h
 rw [List.drop_eq_getElem_cons hk] at h; injection h with h1 h2
 exact ⟨hk, fun d => by rw [zI, zH hk, h1]; rfl, h2⟩
theorem zu {α : Type} {xs : List α} {k : Nat} (h : xs.drop k = []) : xs.length <= k := List.drop_eq_nil_iff.1 h
theorem ze {n : Int} (h1 : -9223372036854775808 <= n) (h2 : n < 9223372036854775808) : w64 n = n := Go.IntWalk.i64_in n ⟨h1, by omega⟩
theorem zmw {n : Int} (h1 : 0 <= n) (h2 : n < 4294967296) : IntKind.u32.wrap n = n := Go.IntWalk.u32_in n ⟨h1, by omega⟩
theorem zm3 {n : Int} (h1 : 0 <= n) (h2 : n < 256) : IntKind.u8.wrap n = n := Go.IntWalk.u8_in n ⟨h1, by omega⟩
theorem z7 {α β : Type} (a : α) (f : α -> Option β) : (some a).bind f = f a := rfl
theorem zd5 {k : IntKind} {n m : Nat} (hn : n < 2 ^ k.bits) (hm : m < 2 ^ k.bits) : bXor k n m = ((n ^^^ m : Nat) : Int) := by
 unfold bXor; simp only [BitVec.ofInt_natCast, BitVec.toNat_xor, BitVec.toNat_ofNat, Nat.mod_eq_of_lt hn, Nat.mod_eq_of_lt hm]
theorem z02q {k : IntKind} {n m : Nat} (hn : n < 2 ^ k.bits) (hm : m < 2 ^ k.bits) : bAnd k n m = ((n &&& m : Nat) : Int) := by
 unfold bAnd; simp only [BitVec.ofInt_natCast, BitVec.toNat_and, BitVec.toNat_ofNat, Nat.mod_eq_of_lt hn, Nat.mod_eq_of_lt hm]
theorem z00h {k : IntKind} {n m : Nat} (hn : n < 2 ^ k.bits) (hm : m < 2 ^ k.bits) : bOr k n m = ((n ||| m : Nat) : Int) := by
 unfold bOr; simp only [BitVec.ofInt_natCast, BitVec.toNat_or, BitVec.toNat_ofNat, Nat.mod_eq_of_lt hn, Nat.mod_eq_of_lt hm]
def stepN (c : Nat) : Nat := if c % 2 = 1 then (c / 2) ^^^ 3988292384 else c / 2
def stepsN : Nat -> Nat -> Nat
 | 0, c => c
 | k + 1, c => stepsN k (stepN c)
def crcL : Str -> Nat -> Nat
 | [], c => c
 | b :: l, c => crcL l (stepsN 8 (c ^^^ b.toNat))
def crcT (s : Str) : Nat := crcL s 4294967295 ^^^ 4294967295
theorem zfl {a b : Nat} (ha : a < 4294967296) (hb : b < 4294967296) : a ^^^ b < 4294967296 := Nat.xor_lt_two_pow (n := 32) ha hb
theorem zoz {c : Nat} (h : c < 4294967296) : stepN c < 4294967296 := by
 unfold stepN; split
 · exact zfl (by omega) (by omega)
 · omega
theorem zfm : ∀ (k : Nat) {c : Nat}, c < 4294967296 -> stepsN k c < 4294967296
 | 0, c, h => h
 | k + 1, c, h => zfm k (zoz h)
theorem z02r (b : UInt8) : b.toNat < 256 := b.toNat_lt
theorem z00i : ∀ (s : Str) {c : Nat}, c < 4294967296 -> crcL s c < 4294967296
 | [], c, h => h
 | b :: l, c, h => z00i l (zfm 8 (zfl h (by have := z02r b; omega)))
theorem z00j (s : Str) : crcT s < 4294967296 := zfl (z00i s (by omega)) (by omega)
theorem zrk {c : Nat} (h : c < 4294967296) : z7o c = some ((stepN c : Nat) : Int) := by
 unfold z7o zbq stepN; have h1 : Int.tmod (c : Int) 2 = ((c % 2 : Nat) : Int) := by rw [Int.tmod_eq_emod_of_nonneg (by omega)]; rfl
 have h2 : Int.tdiv (c : Int) 2 = ((c / 2 : Nat) : Int) := by rw [Int.tdiv_eq_ediv_of_nonneg (by omega)]; rfl
 rw [h1, h2, ze (n := ((c / 2 : Nat) : Int)) (by omega) (by omega), show (3988292384 : Int) = ((3988292384 : Nat) : Int) from rfl, zd5 (k := .i64) (Nat.lt_trans (show c / 2 < 4294967296 by omega) (by decide)) (by decide)]; have h3 := zfl (show c / 2 < 4294967296 by omega) (show 3988292384 < 4294967296 by omega); rw [ze (n := ((c / 2 ^^^ 3988292384 : Nat) : Int)) (by omega) (by omega)]; by_cases h4 : c % 2 = 1
 · rw [if_pos h4, zT (by omega)]; rfl
 · rw [if_neg h4, zF (by omega)]; rfl
theorem zvh {ih0 : Str × Int × Int -> Option Int} {s : Str} {i : Int} (hi : w64 (i + 1) = i + 1) : ∀ (k N c : Nat) (j : Int), j = 8 - k -> k <= 8 -> c < 4294967296 -> k < N -> zf (z4m ih0) N (s, c, i, j) = ih0 (s, ((stepsN k c : Nat) : Int), i + 1)
 | 0, N + 1, c, j, h1, _, h2, _ => by
   rw [z6]; unfold z4m z8b; simp only [hi]; rw [zF (by omega)]; rfl
 | k + 1, N + 1, c, j, h1, h3, h2, h4 => by
   rw [z6]; unfold z4m z8b; simp only; rw [zT (show j < 8 by omega), zC, zrk h2, z7, ze (n := j + 1) (by omega) (by omega)]; exact zvh hi k N _ _ (by omega) (by omega) (zoz h2) (by omega)
 | _, 0, _, _, _, _, _, h => by omega
theorem zvi {s : Str} (hs : s.length < 4294967296) : ∀ (l : Str) (N M k c : Nat) (i : Int), s.drop k = l -> i = k -> c < 4294967296 -> 8 < M -> l.length < N -> zf (z4n M) N (s, c, i) = some (((crcL l c ^^^ 4294967295 : Nat)) : Int)
 | [], N + 1, M, k, c, i, h1, h2, h3, h4, _ => by
   rw [z6]; unfold z4n z8c; have := zu h1; simp only; rw [zF (by omega), zD, show (4294967295 : Int) = ((4294967295 : Nat) : Int) from rfl, zd5 (k := .i64) (Nat.lt_trans h3 (by decide)) (by decide), ze]
   · rfl
   · omega
   · have := zfl h3 (show 4294967295 < 4294967296 by omega); omega
 | b :: l, N + 1, M, k, c, i, h1, h2, h3, h4, h5 => by
   rw [z6]; unfold z4n z8c; obtain ⟨g1, g2, g3⟩ := zn h1; have hb := z02r b; have hx := zfl h3 (show b.toNat < 4294967296 by omega); subst h2; simp only [Int.toNat_natCast, g2]; rw [zT (show (k : Int) < s.length by omega), zT (show (0 : Int) <= k by omega)]; simp only [zC]; rw [ze (n := (b.toNat : Int)) (by omega) (by omega), zd5 (k := .i64) (Nat.lt_trans h3 (by decide)) (Nat.lt_trans (show b.toNat < 4294967296 by omega) (by decide)), ze (n := ((c ^^^ b.toNat : Nat) : Int)) (by omega) (by omega)]; rw [zvh (ze (by omega) (by omega)) 8 M _ 0 (by omega) (by omega) hx h4]; exact zvi hs l N M (k + 1) _ _ g3 (by omega) (zfm 8 hx) h4 (by simp at h5; omega)
 | _, 0, _, _, _, _, _, _, _, _, h => by omega
theorem zu4 {s : Str} (hs : s.length < 4294967296) : zdz s = some ((crcT s : Nat) : Int) := by
 refine z0k (s.length + 9) fun N hN => ?_
 exact zvi hs s N N 0 4294967295 0 rfl rfl (by omega) (by omega) (by omega)
theorem and1 (c : Nat) : c &&& 1 = c % 2 := Nat.and_one_is_mod c
theorem z03w {ih0 : Str × Int × Int × Int -> Option Int} {s : Str} {i n : Int} (hi : w64 (i + 1) = i + 1) : ∀ (k N c : Nat) (j : Int), j = 8 - k -> k <= 8 -> c < 4294967296 -> k < N -> zf (z7v ih0) N (s, c, n, i, j) = ih0 (s, ((stepsN k c : Nat) : Int), n, i + 1)
 | 0, N + 1, c, j, h1, _, h2, _ => by
   rw [z6]; unfold z7v zbv; simp only [hi]; rw [zF (by omega)]; rfl
 | k + 1, N + 1, c, j, h1, h3, h2, h4 => by
   rw [z6]; unfold z7v zbv; simp only; have e1 : bAnd .u32 (c : Int) 1 = ((c % 2 : Nat) : Int) := by
    rw [show (1 : Int) = ((1 : Nat) : Int) from rfl, z02q (k := .u32) h2 (by decide), and1]
   have e2 : Int.fdiv (c : Int) (2 ^ (min 1 32)) = ((c / 2 : Nat) : Int) := by
    rw [show (2 : Int) ^ (min 1 32) = 2 from rfl, Int.fdiv_eq_ediv_of_nonneg _ (by omega)]; rfl
   have h6 := zfl (show c / 2 < 4294967296 by omega) (show 3988292384 < 4294967296 by omega); rw [zT (show j < 8 by omega), zC, e1, e2, zmw (by omega) (by omega), show (3988292384 : Int) = ((3988292384 : Nat) : Int) from rfl, zd5 (k := .u32) (show c / 2 < 4294967296 by omega) (by decide), zmw (n := ((c / 2 ^^^ 3988292384 : Nat) : Int)) (by omega) (by omega), ze (n := j + 1) (by omega) (by omega)]; have h5 := z03w (ih0 := ih0) (s := s) (i := i) (n := n) hi k N (stepN c) (j + 1) (by omega) (by omega) (zoz h2) (by omega); unfold stepN at h5; show _ = ih0 (s, ((stepsN k (stepN c) : Nat) : Int), n, i + 1); unfold stepN; by_cases h7 : c % 2 = 1
   · rw [if_pos h7] at h5 ⊢; rw [zF (by omega), Bool.not_false, zC]; exact h5
   · rw [if_neg h7] at h5 ⊢; rw [zT (by omega), Bool.not_true, zD]; exact h5
 | _, 0, _, _, _, _, _, h => by omega
theorem z02s {c : Nat} (h : c < 4294967296) : bNot .u32 (c : Int) = ((c ^^^ 4294967295 : Nat) : Int) := by
 have := zd5 (k := .u32) (n := 4294967295) (m := c) (by decide) h; rw [Nat.xor_comm] at this; exact this
theorem z03x {s : Str} (hs : s.length < 4294967296) : ∀ (l : Str) (N M k c : Nat) (i : Int), s.drop k = l -> i = k -> c < 4294967296 -> 8 < M -> l.length < N -> zf (z7w M) N (s, c, (s.length : Int), i) = some (((crcL l c ^^^ 4294967295 : Nat)) : Int)
 | [], N + 1, M, k, c, i, h1, h2, h3, h4, _ => by
   rw [z6]; unfold z7w zbw; have := zu h1; have h5 := zfl h3 (show 4294967295 < 4294967296 by omega); simp only; rw [zF (by omega), zD, z02s h3, zmw (by omega) (by omega), ze (by omega) (by omega)]; rfl
 | b :: l, N + 1, M, k, c, i, h1, h2, h3, h4, h5 => by
   rw [z6]; unfold z7w zbw; obtain ⟨g1, g2, g3⟩ := zn h1; have hb := z02r b; have hx := zfl h3 (show b.toNat < 4294967296 by omega); subst h2; simp only [Int.toNat_natCast, g2]; rw [zT (show (k : Int) < s.length by omega), zT (show (0 : Int) <= k by omega)]; simp only [zC]; rw [zmw (n := (b.toNat : Int)) (by omega) (by omega), zd5 (k := .u32) h3 (show b.toNat < 4294967296 by omega), zmw (n := ((c ^^^ b.toNat : Nat) : Int)) (by omega) (by omega)]; rw [z03w (ze (by omega) (by omega)) 8 M _ 0 (by omega) (by omega) hx h4]; exact z03x hs l N M (k + 1) _ _ g3 (by omega) (zfm 8 hx) h4 (by simp at h5; omega)
 | _, 0, _, _, _, _, _, _, _, _, h => by omega
theorem z00k {s : Str} (hs : s.length < 4294967296) : zk2 s = some ((crcT s : Nat) : Int) := by
 refine z0k (s.length + 9) fun N hN => ?_
 exact z03x hs s N N 0 4294967295 0 rfl rfl (by omega) (by omega) (by omega)
end Clk
namespace Clk
open Go
theorem zrl (n : Nat) : IntKind.u8.wrap (n : Int) = ((n % 256 : Nat) : Int) := by rw [IntKind.wrap_u8]; omega
theorem zrm (n : Nat) : UInt8.ofNat (n % 256) = UInt8.ofNat n := by
 apply UInt8.toNat_inj.1
 simp
def bytes4 (n : Nat) : Str := [UInt8.ofNat (n % 256), UInt8.ofNat (n / 256 % 256), UInt8.ofNat (n / 65536 % 256), UInt8.ofNat (n / 16777216)]
theorem zd6 (n m : Nat) : Int.tdiv (n : Int) (m : Int) = ((n / m : Nat) : Int) := by rw [Int.tdiv_eq_ediv_of_nonneg (by omega)]; rfl
theorem zao (n m : Nat) : Int.tmod (n : Int) (m : Int) = ((n % m : Nat) : Int) := by rw [Int.tmod_eq_emod_of_nonneg (by omega)]; rfl
theorem zfn (n m : Nat) : Int.fdiv (n : Int) (m : Int) = ((n / m : Nat) : Int) := by rw [Int.fdiv_eq_ediv_of_nonneg _ (by omega)]; rfl
theorem zp0 {n : Nat} (h : n < 4294967296) : z5q n = some (bytes4 n) := by
 unfold z5q z9q; rw [zF (show ¬ (n : Int) < 0 by omega), zF (show ¬ 4294967295 < (n : Int) by omega)]; simp only [zD]; have e1 : Int.tmod (n : Int) 256 = ((n % 256 : Nat) : Int) := zao n 256; have e2 : Int.tdiv (n : Int) 256 = ((n / 256 : Nat) : Int) := zd6 n 256; have e3 : Int.tdiv (n : Int) 65536 = ((n / 65536 : Nat) : Int) := zd6 n 65536; have e4 : Int.tdiv (n : Int) 16777216 = ((n / 16777216 : Nat) : Int) := zd6 n 16777216; have e5 : Int.tmod ((n / 256 : Nat) : Int) 256 = ((n / 256 % 256 : Nat) : Int) := zao (n / 256) 256; have e6 : Int.tmod ((n / 65536 : Nat) : Int) 256 = ((n / 65536 % 256 : Nat) : Int) := zao (n / 65536) 256; rw [e1, e2, e3, e4, ze (n := ((n / 256 : Nat) : Int)) (by omega) (by omega), ze (n := ((n / 65536 : Nat) : Int)) (by omega) (by omega), ze (n := ((n / 16777216 : Nat) : Int)) (by omega) (by omega), e5, e6]; rw [zm3 (n := ((n % 256 : Nat) : Int)) (by omega) (by omega), zm3 (n := ((n / 256 % 256 : Nat) : Int)) (by omega) (by omega), zm3 (n := ((n / 65536 % 256 : Nat) : Int)) (by omega) (by omega), zm3 (n := ((n / 16777216 : Nat) : Int)) (by omega) (by omega)]; rfl
theorem zrn (M : Nat) (c : Int) : zf zdd (M + 5) (c, 0, [0, 0, 0, 0]) = some (z0d [IntKind.u8.wrap (Int.fdiv c 1), IntKind.u8.wrap (Int.fdiv c 256), IntKind.u8.wrap (Int.fdiv c 65536), IntKind.u8.wrap (Int.fdiv c 16777216)]) := by kernel_rfl
theorem zu5 {n : Nat} (h : n < 4294967296) : ze6 n = some (bytes4 n) := by
 refine z0k 5 fun N hN => ?_
 obtain ⟨M, rfl⟩ : ∃ M, N = M + 5 := ⟨N - 5, by omega⟩; unfold ze5; rw [zmw (n := (n : Int)) (by omega) (by omega), ze (n := (n : Int)) (by omega) (by omega), zT rfl, Bool.not_true, zD, zrn]; have e1 : Int.fdiv (n : Int) 1 = (n : Int) := by have := zfn n 1; rw [Nat.div_one] at this; exact this
 have e2 : Int.fdiv (n : Int) 256 = ((n / 256 : Nat) : Int) := zfn n 256; have e3 : Int.fdiv (n : Int) 65536 = ((n / 65536 : Nat) : Int) := zfn n 65536; have e4 : Int.fdiv (n : Int) 16777216 = ((n / 16777216 : Nat) : Int) := zfn n 16777216; rw [e1, e2, e3, e4, zrl, zrl, zrl, zrl]; simp only [z0d, List.map_cons, List.map_nil, Int.toNat_natCast, bytes4]; rw [zrm (n / 16777216)]
def putN : Nat -> Nat -> Str
 | 0, n => [UInt8.ofNat n]
 | f + 1, n => if 127 < n then UInt8.ofNat (128 + n % 128) :: putN f (n / 128) else [UInt8.ofNat n]
def putV (n : Int) : Str := if n < 0 \/ 1099511627776 < n then [] else putN 5 n.toNat
theorem zvj : ∀ (f n : Nat), (putN f n).length <= f + 1
 | 0, n => Nat.le_refl _
 | f + 1, n => by
   unfold putN; split
   · have := zvj f (n / 128); simp; omega
   · simp
theorem zd7 (n : Int) : (putV n).length <= 6 := by
 unfold putV; split
 · simp
 · exact zvj 5 _
theorem zu6 : ∀ (f n : Nat), putN f n ≠ []
 | 0, n => by simp [putN]
 | f + 1, n => by unfold putN; split <;> simp
theorem zhw : ∀ (f N n : Nat) (s : Str), n < 128 ^ (f + 1) -> n < 4611686018427387904 -> s.length + f < 1099511627776 -> f < N -> zf z8a N (n, s) = some (s ++ putN f n)
 | f, 0, n, s, _, _, _, h => by omega
 | 0, N + 1, n, s, h1, h5, h2, _ => by
   rw [z6]; rw [z94]; unfold z4l; simp only [putN]; rw [zF (by omega), zD, zm3 (n := (n : Int)) (by omega) (by omega), zT (by simp [z0d]; omega), zC]; rfl
 | f + 1, N + 1, n, s, h1, h5, h2, h3 => by
   rw [z6]; rw [z94]; unfold z4l; simp only [putN]; have e1 : Int.tmod (n : Int) 128 = ((n % 128 : Nat) : Int) := zao n 128; have e2 : Int.tdiv (n : Int) 128 = ((n / 128 : Nat) : Int) := zd6 n 128; by_cases h4 : 127 < n
   · rw [zT (show (127 : Int) < n by omega), zC, if_pos h4, e1, e2, ze (n := 128 + ((n % 128 : Nat) : Int)) (by omega) (by omega), zm3 (n := 128 + ((n % 128 : Nat) : Int)) (by omega) (by omega), zT (by simp [z0d]; omega), zC, ze (n := ((n / 128 : Nat) : Int)) (by omega) (by omega)]; have e3 : z0d [128 + ((n % 128 : Nat) : Int)] = [UInt8.ofNat (128 + n % 128)] := by simp only [z0d, List.map_cons, List.map_nil]; congr 2
     rw [e3, zhw f N (n / 128) _ (by rw [Nat.pow_succ] at h1; omega) (by omega) (by simp; omega) (by omega)]; simp
   · rw [zF (show ¬ (127 : Int) < n by omega), zD, if_neg h4, zm3 (n := (n : Int)) (by omega) (by omega), zT (by simp [z0d]; omega), zC]; rfl
theorem zks (n : Int) : z9p n = some (putV n) := by
 refine z0k 6 fun N hN => ?_
 unfold zdy putV; by_cases h1 : n < 0
 · rw [zT h1, zC, if_pos (.inl h1)]
 · by_cases h2 : 1099511627776 < n
   · rw [zF h1, zD, zT h2, zC, if_pos (.inr h2)]
   · rw [zF h1, zD, zF h2, zD, if_neg (by omega)]; obtain ⟨k, rfl⟩ : ∃ k : Nat, n = k := ⟨n.toNat, by omega⟩; have := zhw 5 N k [] (by simp; omega) (by omega) (by simp) (by omega); simpa using this
theorem or128 {x : Nat} (h : x < 256) : x ||| 128 = 128 + x % 128 := by
 have : ∀ x : Fin 256, x.val ||| 128 = 128 + x.val % 128 := by decide +kernel
 exact this ⟨x, h⟩
theorem zel (a b : List Int) : z0d (a ++ b) = z0d a ++ z0d b := by simp [z0d]
theorem zkt : ∀ (f N n : Nat) (s : List Int), n < 128 ^ (f + 1) -> n < 4611686018427387904 -> s.length + f < 1099511627776 -> f < N -> zf za2 N (n, s) = some (z0d s ++ putN f n)
 | f, 0, n, s, _, _, _, h => by omega
 | 0, N + 1, n, s, h1, h5, h2, _ => by
   rw [z6]; rw [zaz]; unfold z62; simp only [putN]; rw [zF (by omega), zD, zm3 (n := (n : Int)) (by omega) (by omega), zT (by simp; omega), zC, zT (by simp; omega), zC, zel]; rfl
 | f + 1, N + 1, n, s, h1, h5, h2, h3 => by
   rw [z6]; rw [zaz]; unfold z62; simp only [putN]; have e2 : Int.fdiv (n : Int) (2 ^ (min 7 64)) = ((n / 128 : Nat) : Int) := zfn n 128; by_cases h4 : 127 < n
   · have e4 : IntKind.u8.wrap (bOr .u8 (IntKind.u8.wrap (n : Int)) 128) = 128 + ((n % 128 : Nat) : Int) := by
      rw [zrl, show (128 : Int) = ((128 : Nat) : Int) from rfl, z00h (k := .u8) (show n % 256 < 256 by omega) (by decide), or128 (by omega), zm3 (by omega) (by omega)]; omega
     rw [zT (show (128 : Int) <= n by omega), zC, if_pos h4, e4, e2, zT (by simp; omega), zC, zT (by simp; omega), zC]; have e3 : z0d [128 + ((n % 128 : Nat) : Int)] = [UInt8.ofNat (128 + n % 128)] := by simp only [z0d, List.map_cons, List.map_nil]; congr 2
     rw [zkt f N (n / 128) _ (by rw [Nat.pow_succ] at h1; omega) (by omega) (by simp; omega) (by omega), zel, e3]; simp
   · rw [zF (show ¬ (128 : Int) <= n by omega), zD, if_neg h4, zm3 (n := (n : Int)) (by omega) (by omega), zT (by simp; omega), zC, zT (by simp; omega), zC, zel]; rfl
theorem zmx (n : Int) : zcz n = some (putV n) := by
 refine z0k 6 fun N hN => ?_
 unfold zgi putV; by_cases h1 : n < 0
 · rw [zT h1, zC, if_pos (.inl h1)]
 · by_cases h2 : 1099511627776 < n
   · rw [zF h1, zD, zT h2, zC, if_pos (.inr h2)]
   · rw [zF h1, zD, zF h2, zD, if_neg (by omega)]; obtain ⟨k, rfl⟩ : ∃ k : Nat, n = k := ⟨n.toNat, by omega⟩; have := zkt 5 N k [] (by simp; omega) (by omega) (by simp) (by omega); simpa [z0d] using this
def packL : List Int -> Str -> Str × Int
 | [], s => (s, 0)
 | n :: l, s => if putV n = [] then ([], 1) else packL l (s ++ putV n)
def packT (l : List Int) : Str × Int := packL l (putV l.length)
theorem zfo {xs : List Int} (hs : xs.length < 4294967296) : ∀ (l : List Int) (N k : Nat) (i : Int) (s : Str), xs.drop k = l -> i = k -> s.length + 6 * l.length < 1099511627776 -> l.length < N -> zf z6w N (xs, s, i) = some (packL l s)
 | l, 0, _, _, _, _, _, _, h => by omega
 | [], N + 1, k, i, s, h1, h2, h3, _ => by
   have := zu h1; rw [z6]; rw [z7m]; unfold z3k; simp only [packL]; rw [zF (by omega)]; rfl
 | n :: l, N + 1, k, i, s, h1, h2, h3, h4 => by
   obtain ⟨g1, g2, g3⟩ := zn h1; subst h2; rw [z6]; rw [z7m]; unfold z3k; simp only [Int.toNat_natCast, g2, packL, zks, z7]; have hp := zd7 n; simp only [List.length_cons] at h3 h4; rw [zT (show (k : Int) < xs.length by omega), zT (show (0 : Int) <= k by omega)]; simp only [zC]; by_cases h5 : putV n = []
   · rw [zT h5, if_pos h5]; rfl
   · rw [zF h5, if_neg h5, zD, zT (by omega), zC]; exact zfo hs l N (k + 1) _ _ g3 (by rw [ze (by omega) (by omega)]; omega) (by simp; omega) (by omega)
theorem zcl {l : List Int} (hs : l.length < 4294967296) : z54 l = some (packT l) := by
 refine z0k (l.length + 1) fun N hN => ?_
 unfold zbo; rw [zks, z7]; have := zd7 l.length; exact zfo hs l N 0 0 _ rfl rfl (by omega) (by omega)
theorem zhx {xs : List Int} (hs : xs.length < 4294967296) : ∀ (l : List Int) (N k : Nat) (i : Int) (s : Str), xs.drop k = l -> i = k -> s.length + 6 * l.length < 1099511627776 -> l.length < N -> zf z8i N (s, xs, (xs.length : Int), i) = some (packL l s)
 | l, 0, _, _, _, _, _, _, h => by omega
 | [], N + 1, k, i, s, h1, h2, h3, _ => by
   have := zu h1; rw [z6]; rw [z99]; unfold z4t; simp only [packL]; rw [zF (by omega)]; rfl
 | n :: l, N + 1, k, i, s, h1, h2, h3, h4 => by
   obtain ⟨g1, g2, g3⟩ := zn h1; subst h2; rw [z6]; rw [z99]; unfold z4t; simp only [Int.toNat_natCast, g2, packL, zmx, z7]; have hp := zd7 n; simp only [List.length_cons] at h3 h4; rw [zT (show (k : Int) < xs.length by omega), zT (show (0 : Int) <= k by omega)]; simp only [zC]; by_cases h5 : putV n = []
   · rw [zT h5, if_pos h5]; rfl
   · rw [zF h5, if_neg h5, zD, zT (by omega), zC]; exact zhx hs l N (k + 1) _ _ g3 (by rw [ze (by omega) (by omega)]; omega) (by simp; omega) (by omega)
theorem zem {l : List Int} (hs : l.length < 4294967296) : z72 l = some (packT l) := by
 refine z0k (l.length + 1) fun N hN => ?_
 unfold ze4; rw [zmx, z7]; have := zd7 l.length; exact zhx hs l N 0 0 _ rfl rfl (by omega) (by omega)
def takeN : Nat -> Bool -> Nat -> Nat -> Str -> Int × Str × Bool
 | 0, _, _, _, _ => (0, [], false)
 | _ + 1, _, _, _, [] => (0, [], false)
 | f + 1, first, n, u, c :: l => if c.toNat < 128 then (if 1099511627776 < n + c.toNat * u \/ (first = false /\ c.toNat = 0) then (0, [], false) else (((n + c.toNat * u : Nat) : Int), l, true)) else takeN f false (n + c.toNat % 128 * u) (u * 128) l
def z7d (s : Str) : Int × Str × Bool := takeN 6 true 0 1 s
theorem zku : ∀ (f : Nat) (b : Bool) (n u : Nat) (s : Str), (takeN f b n u s).2.1.length <= s.length /\ 0 <= (takeN f b n u s).1
 | 0, b, n, u, s => by simp [takeN]
 | f + 1, b, n, u, [] => by simp [takeN]
 | f + 1, b, n, u, c :: l => by
   unfold takeN; split
   · split
     · simp
     · simp; omega
   · have := zku f false (n + c.toNat % 128 * u) (u * 128) l; simp; omega
theorem zfp (s : Str) : (z7d s).2.1.length <= s.length := (zku 6 true 0 1 s).1
theorem z02t (s : Str) : 0 <= (z7d s).1 := (zku 6 true 0 1 s).2
def unpackL : Nat -> Str -> List Int -> List Int × Str × Int
 | 0, s, acc => (acc, s, 0)
 | k + 1, s, acc => if (z7d s).2.2 = false then ([], [], 20) else unpackL k (z7d s).2.1 (acc ++ [(z7d s).1])
def zd (s : Str) : List Int × Str × Int := if (z7d s).2.2 = false \/ ((z7d s).2.1.length : Int) < (z7d s).1 then ([], [], 20) else unpackL (z7d s).1.toNat (z7d s).2.1 []
end Clk
namespace Clk
open Go
def inr (n : Int) : Bool := decide (0 <= n) && decide (n < 64)
def chkL : Option Int -> List Int -> Bool
 | _, [] => true
 | p, a :: l => inr a && (match p with | none => true | some q => decide (q < a)) && chkL (some a) l
def keysT (l : List Int) : Bool := chkL none l && decide (0 < l.length) && decide (l.length <= 8)
theorem zfq {xs : List Int} (hs : xs.length < 4294967296) : ∀ (l : List Int) (N k : Nat) (i : Int) (p : Option Int), xs.drop k = l -> i = k -> (k = 0 -> p = none) -> (∀ j, k = j + 1 -> p = some (xs.getD j 0)) -> l.length < N -> zf z6u N (xs, i) = some (chkL p l && decide (0 < xs.length) && decide (xs.length <= 8))
 | l, 0, _, _, _, _, _, _, _, h => by omega
 | [], N + 1, k, i, p, h1, h2, _, _, _ => by
   have := zu h1; rw [z6, z7l]; unfold z3j; simp only [chkL, Bool.true_and]; rw [zF (by omega), zD]; by_cases h : 0 < xs.length
   · rw [zT (show (0 : Int) < (xs.length : Int) by omega), zC, zT h, Bool.true_and]; congr 1; rw [Bool.eq_iff_iff]; simp; omega
   · rw [zF (show ¬ (0 : Int) < (xs.length : Int) by omega), zD, zF h]; rfl
 | a :: l, N + 1, k, i, p, h1, h2, h3, h4, h5 => by
   obtain ⟨g1, g2, g3⟩ := zn h1; subst h2; have ih := zfq hs l N (k + 1) (w64 (k + 1)) (some a) g3 (by rw [ze (by omega) (by omega)]; omega) (by omega) (fun j hj => by rw [show j = k by omega, g2]) (by simp at h5; omega); rw [z6, z7l]; unfold z3j; simp only [Int.toNat_natCast, g2, chkL, inr, ih]; rw [zT (show (k : Int) < xs.length by omega), zT (show (0 : Int) <= k by omega)]; simp only [zC]; by_cases c1 : a < 0
   · rw [zT c1, zF (show ¬ 0 <= a by omega)]; simp
   · rw [zF c1, zT (show 0 <= a by omega), zD]; by_cases c2 : 64 <= a
     · rw [zT c2, zF (show ¬ a < 64 by omega)]; simp
     · rw [zF c2, zT (show a < 64 by omega), zD]; cases k with
       | zero => rw [h3 rfl, zF (by omega), zD]; simp
       | succ j =>
         have e1 : w64 (((j + 1 : Nat) : Int) - 1) = (j : Int) := by rw [ze (by omega) (by omega)]; omega
         rw [h4 j rfl, zT (show (0 : Int) < ((j + 1 : Nat) : Int) by omega), e1, zT (show (0 : Int) <= j by omega), zT (show (j : Int) < xs.length by omega)]; simp only [zC, Int.toNat_natCast]; by_cases c3 : xs.getD j 0 < a
         · rw [zF (show ¬ a <= xs.getD j 0 by omega), zT c3, zD]; simp
         · rw [zT (show a <= xs.getD j 0 by omega), zF c3, zC]; simp
theorem zro {l : List Int} (hs : l.length < 4294967296) : zbn l = some (keysT l) := by
 refine z0k (l.length + 1) fun N hN => ?_
 exact zfq hs l N 0 0 none rfl rfl (fun _ => rfl) (by omega) (by omega)
def nd : List Int -> Bool
 | a :: b :: l => decide (a <= b) && nd (b :: l)
 | _ => true
def noEq : List Int -> Bool
 | a :: b :: l => decide (a ≠ b) && noEq (b :: l)
 | _ => true
theorem zvk : ∀ (l : List Int) (q : Int), chkL (some q) l = (l.all inr && nd (q :: l) && noEq (q :: l))
 | [], q => rfl
 | a :: l, q => by
   simp only [chkL, zvk l a, List.all_cons, nd, noEq]; by_cases h1 : q < a
   · rw [zT h1, zT (show q <= a by omega), zT (show q ≠ a by omega)]; cases inr a <;> simp
   · by_cases h2 : q = a
     · subst h2; simp
     · rw [zF h1, zF (show ¬ q <= a by omega)]; simp
theorem z02u (l : List Int) : chkL none l = (l.all inr && nd l && noEq l) := by
 cases l with
 | nil => rfl
 | cons a l => simp only [chkL, zvk, List.all_cons]; cases inr a <;> simp
theorem z03y : ∀ (l : List Int), nd l = true ↔ ∀ j, j + 1 < l.length -> l.getD j 0 <= l.getD (j + 1) 0
 | [] => by simp [nd]
 | [a] => by simp [nd]
 | a :: b :: l => by
   simp only [nd, Bool.and_eq_true, decide_eq_true_eq, z03y (b :: l)]; constructor
   · rintro ⟨h1, h2⟩ j hj
     cases j with
     | zero => exact h1
     | succ j => exact h2 j (by simpa using hj)
   · intro h; exact ⟨h 0 (by simp), fun j hj => h (j + 1) (by simpa using hj)⟩
theorem zxo (a b : Int) : zgf (a, b) = some (decide (a < b)) := by
 show zcy a b = _; unfold zcy z9u ze1; simp
theorem zrp {xs : List Int} (hs : xs.length < 4294967296) : ∀ (k N : Nat) (i : Int), i = k -> (k = 0 \/ k < xs.length) -> k < N -> ∃ b : Bool, zf z2m N (xs, i) = some b /\ (b = true ↔ ∀ j, j < k -> xs.getD j 0 <= xs.getD (j + 1) 0)
 | k, 0, _, _, _, h => by omega
 | 0, N + 1, i, h1, _, _ => by
   rw [z6, z3p]; unfold z10; simp only; rw [zF (by omega), zD]; exact ⟨true, rfl, by simp⟩
 | k + 1, N + 1, i, h1, h2, h3 => by
   subst h1; have e1 : w64 (((k + 1 : Nat) : Int) - 1) = (k : Int) := by rw [ze (by omega) (by omega)]; omega
   obtain ⟨b, g1, g2⟩ := zrp hs k N (k : Int) rfl (by omega) (by omega); rw [z6, z3p]; unfold z10; simp only [e1, Int.toNat_natCast, zxo, z7, g1]; rw [zT (show (0 : Int) < ((k + 1 : Nat) : Int) by omega), zT (show (0 : Int) <= ((k + 1 : Nat) : Int) by omega), zT (show ((k + 1 : Nat) : Int) < xs.length by omega), zT (show (0 : Int) <= k by omega), zT (show (k : Int) < xs.length by omega)]; simp only [zC]; by_cases hc : xs.getD (k + 1) 0 < xs.getD k 0
   · rw [zT hc, zC]; refine ⟨false, rfl, ?_⟩; simp only [Bool.false_eq_true, false_iff]; intro h; have := h k (by omega); omega
   · rw [zF hc, zD]; refine ⟨b, rfl, g2.trans ⟨fun h j hj => ?_, fun h j hj => h j (by omega)⟩⟩; by_cases hjk : j = k
     · subst hjk; omega
     · exact h j (by omega)
theorem zxp {l : List Int} (hs : l.length < 4294967296) : z4a l = some (nd l) := by
 refine z0k (l.length + 1) fun N hN => ?_
 unfold z49; by_cases h0 : l.length = 0
 · have : l = [] := List.eq_nil_of_length_eq_zero h0; subst this; obtain ⟨M, rfl⟩ : ∃ M, N = M + 1 := ⟨N - 1, by omega⟩; rfl
 · obtain ⟨b, g1, g2⟩ := zrp hs (l.length - 1) N (w64 ((l.length : Int) - 1)) (by rw [ze (by omega) (by omega)]; omega) (by omega) (by omega); rw [g1]; congr 1
   rw [Bool.eq_iff_iff, g2, z03y]; exact ⟨fun h j hj => h j (by omega), fun h j hj => h j (by omega)⟩
theorem z00l {a0 xs : List Int} (hs : xs.length < 4294967296) : ∀ (l : List Int) (N k : Nat) (i : Int) (ys : List Int), xs.drop k = l -> i = k -> l.length < N -> zf (z9v a0) N (xs, (xs.length : Int), i, ys) = some (l.all inr)
 | l, 0, _, _, _, _, _, h => by omega
 | [], N + 1, k, i, ys, h1, h2, _ => by
   have := zu h1; rw [z6, zat]; unfold z5w; simp only [List.all_nil]; rw [zF (by omega), zD]; rfl
 | a :: l, N + 1, k, i, ys, h1, h2, h3 => by
   obtain ⟨g1, g2, g3⟩ := zn h1; subst h2; have ih := z00l (a0 := a0) hs l N (k + 1) (w64 (k + 1)) ys g3 (by rw [ze (by omega) (by omega)]; omega) (by simp at h3; omega); rw [z6, zat]; unfold z5w; simp only [Int.toNat_natCast, g2, ih, List.all_cons, inr]; rw [zT (show (k : Int) < xs.length by omega), zT (show (0 : Int) <= k by omega)]; simp only [zC, Bool.not_true, zD]; by_cases c1 : a < 0
   · rw [zT c1, zF (show ¬ 0 <= a by omega)]; simp
   · rw [zF c1, zT (show 0 <= a by omega), zD]; by_cases c2 : 64 <= a
     · rw [zT c2, zF (show ¬ a < 64 by omega)]; simp
     · rw [zF c2, zT (show a < 64 by omega), zD]; simp
theorem z00m {a0 v0 xs : List Int} (hv : v0.length = a0.length) (hs : xs.length < 4294967296) : ∀ (l : List Int) (N k : Nat) (i : Int) (ys : List Int), xs.drop k = l -> i = k -> l.length < N -> zf (z9y a0 v0) N (xs, (xs.length : Int), i, ys) = some (l.all inr)
 | l, 0, _, _, _, _, _, h => by omega
 | [], N + 1, k, i, ys, h1, h2, _ => by
   have := zu h1; rw [z6, zaw]; unfold z5z; simp only [List.all_nil]; rw [zF (by omega), zD, zT (by omega)]
 | a :: l, N + 1, k, i, ys, h1, h2, h3 => by
   obtain ⟨g1, g2, g3⟩ := zn h1; subst h2; have ih := z00m hv hs l N (k + 1) (w64 (k + 1)) ys g3 (by rw [ze (by omega) (by omega)]; omega) (by simp at h3; omega); rw [z6, zaw]; unfold z5z; simp only [Int.toNat_natCast, g2, ih, List.all_cons, inr]; rw [zT (show (k : Int) < xs.length by omega), zT (show (0 : Int) <= k by omega)]; simp only [zC, Bool.not_true, zD]; by_cases c1 : a < 0
   · rw [zT c1, zF (show ¬ 0 <= a by omega)]; simp
   · rw [zF c1, zT (show 0 <= a by omega), zD]; by_cases c2 : 64 <= a
     · rw [zT c2, zF (show ¬ a < 64 by omega)]; simp
     · rw [zF c2, zT (show a < 64 by omega), zD]; simp
theorem z00n {a0 xs : List Int} {v0 : Int} (hv : ((v0.toNat : Nat) : Int) ≠ a0.length) (hs : xs.length < 4294967296) : ∀ (l : List Int) (N k : Nat) (i : Int) (ys : List Int), xs.drop k = l -> i = k -> l.length < N -> zf (z9w a0 v0) N (xs, (xs.length : Int), i, ys) = some false
 | l, 0, _, _, _, _, _, h => by omega
 | [], N + 1, k, i, ys, h1, h2, _ => by
   have := zu h1; rw [z6, zau]; unfold z5x; simp only; rw [zF (by omega), zD, zF hv]
 | a :: l, N + 1, k, i, ys, h1, h2, h3 => by
   obtain ⟨g1, g2, g3⟩ := zn h1; subst h2; have ih := z00n hv hs l N (k + 1) (w64 (k + 1)) ys g3 (by rw [ze (by omega) (by omega)]; omega) (by simp at h3; omega); rw [z6, zau]; unfold z5x; simp only [Int.toNat_natCast, g2, ih]; rw [zT (show (k : Int) < xs.length by omega), zT (show (0 : Int) <= k by omega)]; simp only [zC, Bool.not_true, zD]; cases decide (a < 0) <;> cases decide (64 <= a) <;> rfl
theorem z00o {xs : List Int} (hs : xs.length < 4294967296) : ∀ (l : List Int) (N k : Nat) (i : Int), xs.drop k = l -> i = k -> l.length < N -> zf za0 N (xs, (xs.length : Int), i) = some false
 | l, 0, _, _, _, _, h => by omega
 | [], N + 1, k, i, h1, h2, _ => by
   have := zu h1; rw [z6, zay]; unfold z61; simp only; rw [zF (by omega), zD]
 | a :: l, N + 1, k, i, h1, h2, h3 => by
   obtain ⟨g1, g2, g3⟩ := zn h1; subst h2; have ih := z00o hs l N (k + 1) (w64 (k + 1)) g3 (by rw [ze (by omega) (by omega)]; omega) (by simp at h3; omega); rw [z6, zay]; unfold z61; simp only [Int.toNat_natCast, g2, ih]; rw [zT (show (k : Int) < xs.length by omega), zT (show (0 : Int) <= k by omega)]; simp only [zC, Bool.not_true, zD]; cases decide (a < 0) <;> cases decide (64 <= a) <;> rfl
theorem zu7 {a0 : List Int} (hs : a0.length < 4294967296) {M : Nat} (hM : a0.length < M) {b : Nat} (hb : b < a0.length) : ∀ (m N i k : Nat) (ys : List Int), k + m = a0.length - b -> 1 <= k -> i + 1 <= b + k -> ys.length = a0.length -> m < N -> zf (z9x M a0) N ((i : Int), (b : Int), ((a0.length - b : Nat) : Int), (k : Int), ys) = some false
 | m, 0, _, _, _, _, _, _, _, h => by omega
 | 0, N + 1, i, k, ys, h1, h2, h3, h4, _ => by
   rw [z6, zav]; unfold z5y; simp only [Int.toNat_natCast]; rw [zF (show ¬ (k : Int) < ((a0.length - b : Nat) : Int) by omega), zD]; rw [zT (show (0 : Int) <= i by omega), zT (show (i : Int) <= ys.length by omega), zT (show 0 < ys.length by omega)]; simp only [zC]; rw [zT (by simp; omega), zC]; by_cases c1 : 0 < a0.length
   · rw [zT (show (0 : Int) < (a0.length : Int) by omega), zC]; cases decide ((a0.length : Int) <= 8) with
     | false => rfl
     | true => rw [zC]; exact z00n (by simp; omega) hs a0 M 0 0 _ rfl rfl hM
   · omega
 | m + 1, N + 1, i, k, ys, h1, h2, h3, h4, h5 => by
   have e1 : w64 ((k : Int) - 1) = ((k - 1 : Nat) : Int) := by rw [ze (by omega) (by omega)]; omega
   have e2 : w64 ((k : Int) + 1) = ((k + 1 : Nat) : Int) := by rw [ze (by omega) (by omega)]; rfl
   have e3 : w64 ((i : Int) + 1) = ((i + 1 : Nat) : Int) := by rw [ze (by omega) (by omega)]; rfl
   rw [z6, zav]; unfold z5y; simp only [Int.toNat_natCast, e1, e2, e3]; rw [zT (show (k : Int) < ((a0.length - b : Nat) : Int) by omega), zT (show (0 : Int) <= k by omega), zT (show b + k < ys.length by omega), zT (show (0 : Int) <= ((k - 1 : Nat) : Int) by omega), zT (show ((k - 1 : Nat) : Int) < ((a0.length - b : Nat) : Int) by omega), zT (show b + (k - 1) < ys.length by omega), zT (show (0 : Int) <= i by omega), zT (show (i : Int) < ys.length by omega), zT (show i < ys.length by omega)]; simp only [zC]; rw [zu7 hs hM hb m N (i + 1) (k + 1) _ (by omega) (by omega) (by omega) (by simpa using h4) (by omega), zu7 hs hM hb m N i (k + 1) _ (by omega) (by omega) (by omega) h4 (by omega)]; cases (!decide (ys.getD (b + k) 0 = ys.getD (b + (k - 1)) 0)) <;> rfl
theorem z00p {a0 : List Int} (hs : a0.length < 4294967296) {M : Nat} (hM : a0.length < M) : ∀ (l : List Int) (N k : Nat) (i : Int), a0.drop k = l -> i = ((k + 1 : Nat) : Int) -> k < a0.length -> l.length < N -> zf (z9z M a0) N (i, a0) = some (noEq l && decide (0 < a0.length) && decide (a0.length <= 8) && a0.all inr)
 | l, 0, _, _, _, _, _, h => by omega
 | [], N + 1, k, i, h1, h2, h3, _ => by have := zu h1; omega
 | [a], N + 1, k, i, h1, h2, h3, _ => by
   obtain ⟨g1, g2, g3⟩ := zn h1; have := zu g3; rw [z6, zax]; unfold z60; simp only [noEq, Bool.true_and]; rw [zF (show ¬ i < (a0.length : Int) by omega), zD]; rw [zT (show (0 : Int) < (a0.length : Int) by omega), zC, zT (show 0 < a0.length by omega), Bool.true_and]; by_cases c : a0.length <= 8
   · rw [zT (show (a0.length : Int) <= 8 by omega), zC, zT c, Bool.true_and]; exact z00m rfl hs a0 M 0 0 _ rfl rfl hM
   · rw [zF (show ¬ (a0.length : Int) <= 8 by omega), zD, zF c]; rfl
 | a :: b :: l, N + 1, k, i, h1, h2, h3, h4 => by
   obtain ⟨g1, g2, g3⟩ := zn h1; obtain ⟨g4, g5, g6⟩ := zn g3; subst h2; have e1 : w64 (((k + 1 : Nat) : Int) - 1) = (k : Int) := by rw [ze (by omega) (by omega)]; omega
   have ih := z00p hs hM (b :: l) N (k + 1) (w64 (((k + 1 : Nat) : Int) + 1)) g3 (by rw [ze (by omega) (by omega)]; omega) g4 (by simp at h4 ⊢; omega); rw [z6, zax]; unfold z60; simp only [Int.toNat_natCast, e1, g2, g5, ih]; rw [zT (show ((k + 1 : Nat) : Int) < a0.length by omega), zT (show (0 : Int) <= ((k + 1 : Nat) : Int) by omega), zT (show k + 1 < a0.length by omega), zT (show (0 : Int) <= (k : Int) by omega), zT (show (k : Int) < a0.length by omega), zT (show k < a0.length by omega), zT (show ((k + 1 : Nat) : Int) <= a0.length by omega)]; simp only [zC, noEq]; by_cases c : a = b
   · subst c; rw [zT rfl, zC]; rw [show (1 : Int) = ((1 : Nat) : Int) from rfl, zu7 hs hM g4 (a0.length - (k + 1) - 1) M (k + 1) 1 _ (by omega) (by omega) (by omega) rfl (by omega)]; simp
   · rw [zF (fun e => c e.symm), zD, zT c]; simp
theorem zxq {l : List Int} (hs : l.length < 4294967296) : zgh l = some (keysT l) := by
 refine z0k (l.length + 1) fun N hN => ?_
 unfold zgg keysT; rw [zxp hs, z7, z02u]; cases hnd : nd l with
 | false =>
   rw [zD]; have : (l.all inr && false && noEq l && decide (0 < l.length) && decide (l.length <= 8)) = false := by simp
   rw [this, z00o hs l N 0 0 rfl rfl (by omega)]; cases decide (0 < (l.length : Int)) <;> cases decide ((l.length : Int) <= 8) <;> rfl
 | true =>
   rw [zC, zT (show l.length * 8 <= 70368744177664 by omega), zC, zT (show l.length <= 70368744177664 by omega), zC]; by_cases h2 : l.length < 2
   · rw [zT (show (l.length : Int) < 2 by omega), zC, z00l hs l N 0 0 l rfl rfl (by omega)]; have hq : noEq l = true := by
      cases l with
      | nil => rfl
      | cons a l => cases l with
        | nil => rfl
        | cons => simp only [List.length_cons] at h2; omega
     rw [hq, Bool.and_true, Bool.and_true]; by_cases c1 : 0 < l.length
     · rw [zT (show (0 : Int) < (l.length : Int) by omega), zC, zT c1, zT (show (l.length : Int) <= 8 by omega), zC, zT (show l.length <= 8 by omega)]; simp
     · rw [zF (show ¬ (0 : Int) < (l.length : Int) by omega), zD, zF c1]; simp
   · rw [zF (show ¬ (l.length : Int) < 2 by omega), zD]; have hl0 : 0 < l.length := by omega
     rw [z00p hs (M := N) (by omega) l N 0 1 rfl rfl hl0 (by omega)]; congr 1
     cases l.all inr <;> cases noEq l <;> cases decide (0 < l.length) <;> cases decide (l.length <= 8) <;> rfl
end Clk
namespace Clk
open Go
def vr (n : Int) : Bool := decide (-1 <= n) && decide (n < 512)
def z2s (r : Record) : Bool :=
 decide (0 <= r.seq) && decide (r.seq <= 1099511627776) && keysT r.keys && (if r.kind = 1 then decide (r.values = []) else r.values.all vr && decide (r.kind = 2) && decide (r.values.length = r.keys.length))
def RecOk (r : Record) : Prop := r.keys.length < 4294967296 /\ r.values.length < 4294967296
theorem zdl {r : Record} (hr : RecOk r) : ∀ (l : List Int) (N k : Nat) (i : Int), r.values.drop k = l -> i = k -> l.length < N -> zf z5i N (i, r) = some (l.all vr && decide (r.kind = 2) && decide (r.values.length = r.keys.length))
 | l, 0, _, _, _, _, h => by omega
 | [], N + 1, k, i, h1, h2, _ => by
   have := zu h1; rw [z6, z6v]; unfold z2w; simp only [List.all_nil, Bool.true_and]; rw [zF (by omega), zD]; by_cases c : r.kind = 2
   · rw [zT c, zC, Bool.true_and]; congr 1; rw [Bool.eq_iff_iff]; simp only [decide_eq_true_eq]; omega
   · rw [zF c, zD]; rfl
 | a :: l, N + 1, k, i, h1, h2, h3 => by
   obtain ⟨g1, g2, g3⟩ := zn h1; have hv := hr.2; subst h2; have ih := zdl hr l N (k + 1) (w64 (k + 1)) g3 (by rw [ze (by omega) (by omega)]; omega) (by simp at h3; omega); rw [z6, z6v]; unfold z2w; simp only [Int.toNat_natCast, g2, ih, List.all_cons, vr]; rw [zT (show (k : Int) < r.values.length by omega), zT (show (0 : Int) <= k by omega)]; simp only [zC]; by_cases c1 : a < -1
   · rw [zT c1, zF (show ¬ -1 <= a by omega)]; simp
   · rw [zF c1, zT (show -1 <= a by omega), zD]; by_cases c2 : 512 <= a
     · rw [zT c2, zF (show ¬ a < 512 by omega)]; simp
     · rw [zF c2, zT (show a < 512 by omega), zD]; simp
theorem zp1 {r : Record} (hr : RecOk r) : z9o r = some (z2s r) := by
 refine z0k (r.values.length + 1) fun N hN => ?_
 unfold z9n z2s; by_cases h1 : r.seq < 0
 · rw [zT h1, zC, zF (show ¬ 0 <= r.seq by omega)]; rfl
 · by_cases h2 : 1099511627776 < r.seq
   · rw [zF h1, zD, zT h2, zC, zF (show ¬ r.seq <= 1099511627776 by omega)]; simp
   · rw [zF h1, zD, zF h2, zD, zT (show 0 <= r.seq by omega), zT (show r.seq <= 1099511627776 by omega), zro hr.1, z7]; cases keysT r.keys with
     | false => rfl
     | true =>
       simp only [Bool.not_true, zD, Bool.true_and]; by_cases h3 : r.kind = 1
       · rw [zT h3, zC, if_pos h3]; congr 1; rw [Bool.eq_iff_iff]; simp
       · rw [zF h3, zD, if_neg h3]; exact zdl hr r.values N 0 0 rfl rfl (by omega)
theorem zhy {r : Record} (hr : RecOk r) : ∀ (l : List Int) (N k : Nat) (i : Int), r.values.drop k = l -> i = k -> l.length < N -> zf z8g N (r.values, (r.values.length : Int), i, r) = some (l.all vr && (if r.kind = 1 then decide (r.values = []) else decide (r.kind = 2) && decide (r.values.length = r.keys.length)))
 | l, 0, _, _, _, _, h => by omega
 | [], N + 1, k, i, h1, h2, _ => by
   have := zu h1; rw [z6, z97]; unfold z4r; simp only [List.all_nil, Bool.true_and]; rw [zF (by omega), zD]; by_cases c1 : r.kind = 1
   · rw [zT c1, zC, if_pos c1]; congr 1; rw [Bool.eq_iff_iff]; simp
   · rw [zF c1, zD, if_neg c1]; by_cases c : r.kind = 2
     · rw [zT c, zC, Bool.true_and]; congr 1; rw [Bool.eq_iff_iff]; simp only [decide_eq_true_eq]; omega
     · rw [zF c, zD]; rfl
 | a :: l, N + 1, k, i, h1, h2, h3 => by
   obtain ⟨g1, g2, g3⟩ := zn h1; have hv := hr.2; subst h2; have ih := zhy hr l N (k + 1) (w64 (k + 1)) g3 (by rw [ze (by omega) (by omega)]; omega) (by simp at h3; omega); rw [z6, z97]; unfold z4r; simp only [Int.toNat_natCast, g2, ih, List.all_cons, vr]; rw [zT (show (k : Int) < r.values.length by omega), zT (show (0 : Int) <= k by omega)]; simp only [zC]; by_cases c1 : a < -1
   · rw [zT c1, zF (show ¬ -1 <= a by omega)]; simp
   · rw [zF c1, zT (show -1 <= a by omega), zD]; by_cases c2 : 512 <= a
     · rw [zT c2, zF (show ¬ a < 512 by omega)]; simp
     · rw [zF c2, zT (show a < 512 by omega), zD]; simp
theorem zu8 {r : Record} (hr : RecOk r) : ze3 r = some (z2s r) := by
 refine z0k (r.values.length + 1) fun N hN => ?_
 unfold ze2 z2s; by_cases h1 : r.seq < 0
 · rw [zT h1, zC, zF (show ¬ 0 <= r.seq by omega)]; rfl
 · by_cases h2 : 1099511627776 < r.seq
   · rw [zF h1, zD, zT h2, zC, zF (show ¬ r.seq <= 1099511627776 by omega)]; simp
   · rw [zF h1, zD, zF h2, zD, zT (show 0 <= r.seq by omega), zT (show r.seq <= 1099511627776 by omega), zxq hr.1, z7]; cases keysT r.keys with
     | false => rfl
     | true =>
       simp only [Bool.not_true, zD, Bool.true_and]; rw [zhy hr r.values N 0 0 rfl rfl (by omega)]; by_cases h3 : r.kind = 1
       · rw [if_pos h3, if_pos h3]; congr 1
         cases hv : r.values with
         | nil => rfl
         | cons a l => simp
       · rw [if_neg h3, if_neg h3, Bool.and_assoc]
def zen (d : Int) (l : List Int) : List Int := l.map fun n => w64 (n + d)
def bodyT (r : Record) : Str := (packT [r.kind, r.seq]).1 ++ (packT r.keys).1 ++ (packT (zen 1 r.values)).1
def encT (r : Record) (data : Str) : Str × Int := if z2s r = false \/ 16 < data.length then ([], 1) else (bodyT r ++ bytes4 (crcT (bodyT r ++ data)), 0)
theorem zrq : ∀ (l : List Int) (s : Str), (packL l s).1.length <= s.length + 6 * l.length
 | [], s => by simp [packL]
 | n :: l, s => by
   unfold packL; split
   · simp
   · have h1 := zrq l (s ++ putV n); have h2 := zd7 n; simp at h1 ⊢; omega
theorem z3z (l : List Int) : (packT l).1.length <= 6 * l.length + 6 := by
 have h1 := zrq l (putV l.length); have h2 := zd7 l.length; unfold packT; omega
theorem z00q {l : List Int} (h : keysT l = true) : 0 < l.length /\ l.length <= 8 := by
 unfold keysT at h; simp only [Bool.and_eq_true, decide_eq_true_eq] at h; exact ⟨h.1.2, h.2⟩
theorem zd8 {r : Record} (h : z2s r = true) : 0 < r.keys.length /\ r.keys.length <= 8 /\ r.values.length <= 8 /\ 0 <= r.seq /\ r.seq <= 1099511627776 /\ (r.kind = 1 \/ r.kind = 2) /\ (r.values.all vr = true) /\ keysT r.keys = true := by
 unfold z2s at h; simp only [Bool.and_eq_true, decide_eq_true_eq] at h; obtain ⟨⟨⟨h1, h2⟩, h3⟩, h4⟩ := h; obtain ⟨k1, k2⟩ := z00q h3; split at h4
 · rename_i hk; have : r.values = [] := by simpa using h4
   rw [this]; exact ⟨k1, k2, by simp, h1, h2, .inl hk, rfl, h3⟩
 · simp only [Bool.and_eq_true, decide_eq_true_eq] at h4; exact ⟨k1, k2, by omega, h1, h2, .inr h4.1.2, h4.1.1, h3⟩
theorem zfr {r : Record} (h8 : r.values.length <= 8) (hk : r.keys.length <= 8) : ∀ (l : List Int) (N k : Nat) (i : Int) (acc : List Int), r.values.drop k = l -> i = k -> acc.length = k -> k <= 8 -> l.length < N -> zf z6x N (i, r, [r.kind, r.seq], acc) = some ((packT [r.kind, r.seq]).1 ++ (packT r.keys).1 ++ (packT (acc ++ zen 1 l)).1)
 | l, 0, _, _, _, _, _, _, _, h => by omega
 | [], N + 1, k, i, acc, h1, h2, h3, h6, _ => by
   have := zu h1; rw [z6, z7n]; unfold z3l; simp only [zen, List.map_nil, List.append_nil]; rw [zF (by omega), zD, zcl (by simp), z7, zcl (by omega), z7, zcl (by omega), z7]; have q1 := z3z [r.kind, r.seq]; have q2 := z3z r.keys; have q3 := z3z acc; simp only [List.length_cons, List.length_nil] at q1; rw [zT (by omega), zC, zT (by rw [List.length_append]; omega), zC]
 | a :: l, N + 1, k, i, acc, h1, h2, h3, h6, h5 => by
   obtain ⟨g1, g2, g3⟩ := zn h1; subst h2; have ih := zfr h8 hk l N (k + 1) (w64 (k + 1)) (acc ++ [w64 (a + 1)]) g3 (by rw [ze (by omega) (by omega)]; omega) (by simp; omega) (by omega) (by simp at h5; omega); rw [z6, z7n]; unfold z3l; simp only [Int.toNat_natCast, g2, ih]; rw [zT (show (k : Int) < r.values.length by omega), zT (show (0 : Int) <= k by omega)]; simp only [zC]; rw [zT (by simp; omega), zC, zT (by simp; omega), zC]; simp [zen]
theorem zrr {r : Record} (h : z2s r = true) : zbp r = some (bodyT r) := by
 obtain ⟨_, h1, h2, _⟩ := zd8 h; refine z0k 9 fun N hN => ?_
 have := zfr h2 h1 r.values N 0 0 [] rfl rfl rfl (by omega) (by omega); rw [List.nil_append] at this; exact this
theorem zkv {r : Record} (h : z2s r = true) : (bodyT r).length <= 200 := by
 obtain ⟨_, h1, h2, _⟩ := zd8 h; have q1 := z3z [r.kind, r.seq]; have q2 := z3z r.keys; have q3 := z3z (zen 1 r.values); have q4 : (zen 1 r.values).length = r.values.length := by simp [zen]
 simp only [List.length_cons, List.length_nil] at q1; unfold bodyT; simp only [List.length_append]; omega
theorem zm4 {r : Record} {data : Str} (hr : RecOk r) (hd : data.length < 4294967296) : z8d (r, data) = some (encT r data) := by
 show z4o r data = _; unfold z4o encT; rw [zp1 hr, z7]; cases h : z2s r with
 | false => rfl
 | true =>
   rw [Bool.not_true, zD]; by_cases h2 : 16 < data.length
   · rw [zT (show (16 : Int) < data.length by omega), zC, if_pos (.inr h2)]
   · have hb := zkv h; rw [zF (show ¬ (16 : Int) < data.length by omega), zD, if_neg (by simp; omega), zrr h, z7, zT (by omega), zC, zu4 (by simp; omega), z7, zp0 (z00j _), z7, zT (by simp [bytes4]; omega), zC]
theorem zij : ∀ (l : List Int) (s : Str), (∀ n ∈ l, 0 <= n /\ n <= 1099511627776) -> (packL l s).2 = 0
 | [], s, _ => rfl
 | n :: l, s, h => by
   have h1 := h n List.mem_cons_self; unfold packL; have : putV n ≠ [] := by
    unfold putV; rw [if_neg (by omega)]; exact zu6 5 _
   rw [if_neg this]; exact zij l _ fun m hm => h m (List.mem_cons_of_mem _ hm)
theorem zp2 {l : List Int} (h : l.all vr = true) : ∀ n ∈ l, -1 <= n /\ n < 512 := by
 intro n hn; have := List.all_eq_true.1 h n hn; unfold vr at this; simpa using this
theorem zmy : ∀ {l : List Int} {p : Option Int}, chkL p l = true -> ∀ n ∈ l, 0 <= n /\ n < 64
 | [], _, _, n, hn => by cases hn
 | a :: l, p, h, n, hn => by
   simp only [chkL, Bool.and_eq_true] at h; rcases List.mem_cons.1 hn with rfl | hn
   · have := h.1.1; unfold inr at this; simpa using this
   · exact zmy h.2 n hn
theorem zkw {l : List Int} (h : keysT l = true) : ∀ n ∈ l, 0 <= n /\ n < 64 := by
 unfold keysT at h; simp only [Bool.and_eq_true] at h; exact zmy h.1.1
theorem zhz {d : Int} {n : Nat} (hs : n < 4294967296) : ∀ (l : List Int) (N k : Nat) (i : Int) (pre : List Int), pre.length = k -> k + l.length = n -> i = k -> l.length < N -> zf z8h N (d, (n : Int), i, pre ++ l) = some (pre ++ zen d l)
 | l, 0, _, _, _, _, _, _, h => by omega
 | [], N + 1, k, i, pre, h1, h2, h3, _ => by
   rw [z6, z98]; unfold z4s; simp only [List.length_nil] at h2; simp only [zen, List.map_nil]; rw [zF (by omega), zD]
 | a :: l, N + 1, k, i, pre, h1, h2, h3, h4 => by
   subst h3; simp only [List.length_cons] at h2 h4; have g2 : ∀ d, (pre ++ a :: l).getD k d = a := fun d => by subst h1; simp [zI]
   have g3 : ∀ x, (pre ++ a :: l).set k x = (pre ++ [x]) ++ l := fun x => by subst h1; simp
   have ih := zhz (d := d) hs l N (k + 1) (w64 (k + 1)) (pre ++ [w64 (a + d)]) (by simp; omega) (by omega) (by rw [ze (by omega) (by omega)]; omega) (by omega); rw [z6, z98]; unfold z4s; simp only [Int.toNat_natCast, g2, g3, ih]; have hl : (pre ++ a :: l).length = n := by simp; omega
   rw [hl, zT (show (k : Int) < n by omega), zT (show (0 : Int) <= k by omega), zT (show k < n by omega)]; simp [zen]
theorem zkx {l : List Int} {d : Int} (hs : l.length < 4294967296) : z35 (l, d) = some (zen d l) := by
 refine z0k (l.length + 1) fun N hN => ?_
 show za1 N l d = _; unfold za1; rw [zT (by omega), zC, zT (by omega), zC]; exact zhz hs l N 0 0 [] rfl (by simp) rfl (by omega)
theorem zrs {r : Record} {data : Str} (hr : RecOk r) (hd : data.length < 4294967296) : zbx (r, data) = some (encT r data) := by
 show z7x r data = _; unfold z7x encT; rw [zu8 hr, z7]; cases h : z2s r with
 | false => rfl
 | true =>
   rw [Bool.not_true, zD]; by_cases h2 : 16 < data.length
   · rw [zT (show (16 : Int) < data.length by omega), zC, if_pos (.inr h2)]
   · have hb := zkv h; obtain ⟨_, k1, k2, k3, k4, k5, k6, k7⟩ := zd8 h; have q1 := z3z [r.kind, r.seq]; have q2 := z3z r.keys; have q3 := z3z (zen 1 r.values); have q4 : (zen 1 r.values).length = r.values.length := by simp [zen]
     have e1 : (packT [r.kind, r.seq]).2 = 0 := zij _ _ (by intro n hn; simp at hn; rcases hn with rfl | rfl <;> omega); have e2 : (packT r.keys).2 = 0 := zij _ _ (by intro n hn; have := zkw k7 n hn; omega); have e3 : (packT (zen 1 r.values)).2 = 0 := zij _ _ (by
      intro n hn; unfold zen at hn; obtain ⟨m, hm, rfl⟩ := List.mem_map.1 hn; have := zp2 k6 m hm; rw [ze (by omega) (by omega)]; omega)
     have hb' := hb; unfold bodyT at hb'; simp only [List.length_cons, List.length_nil] at q1; rw [zF (show ¬ (16 : Int) < data.length by omega), zD, if_neg (by simp; omega), zkx (by omega), z7, zem (by simp), z7, e1, zT rfl, Bool.not_true, zD, zT (by omega), zC, zem (by omega), z7, e2, zT rfl, Bool.not_true, zD, zT (by omega), zC, zem (by omega), z7, e3, zT rfl, Bool.not_true, zD, zT (by rw [List.length_append]; omega), zC, zT (by omega), zC]; rw [z00k (by rw [List.length_append]; omega), z7, zu5 (z00j _), z7, zT (by simp only [bytes4, List.length_cons, List.length_nil]; omega), zC]; rfl
def zRec : Record := ⟨0, 0, [], []⟩
def mvT (l : List Int) : List Int := l.map fun n => w64 (n - 1)
def decT (tag data : Str) : Record × Int :=
 if (zd tag).2.2 ≠ 0 \/ (zd (zd tag).2.1).2.2 ≠ 0 \/ (zd (zd (zd tag).2.1).2.1).2.2 ≠ 0 \/ (zd tag).1.length ≠ 2 then (zRec, 30)
 else
  if (encT ⟨(zd tag).1.getD 0 0, (zd tag).1.getD 1 0, (zd (zd tag).2.1).1, mvT (zd (zd (zd tag).2.1).2.1).1⟩ data).2 ≠ 0 \/
   (encT ⟨(zd tag).1.getD 0 0, (zd tag).1.getD 1 0, (zd (zd tag).2.1).1, mvT (zd (zd (zd tag).2.1).2.1).1⟩ data).1 ≠ tag then (zRec, 30)
  else (⟨(zd tag).1.getD 0 0, (zd tag).1.getD 1 0, (zd (zd tag).2.1).1, mvT (zd (zd (zd tag).2.1).2.1).1⟩, 0)
theorem zky : ∀ (k : Nat) (s : Str) (acc : List Int), (unpackL k s acc).2.1.length <= s.length /\ (unpackL k s acc).1.length <= acc.length + k
 | 0, s, acc => by simp [unpackL]
 | k + 1, s, acc => by
   unfold unpackL; split
   · simp
   · have h1 := zky k (z7d s).2.1 (acc ++ [(z7d s).1]); have h2 := zfp s; simp at h1 ⊢; omega
theorem z36 (s : Str) : (zd s).2.1.length <= s.length /\ (zd s).1.length <= s.length := by
 unfold zd; split
 · simp
 · rename_i h; have h1 := zky (z7d s).1.toNat (z7d s).2.1 []; have h2 := zfp s; have h3 : ¬ ((z7d s).2.1.length : Int) < (z7d s).1 := fun e => h (.inr e)
   simp at h1; omega
def PageOk (p : Page) : Prop := p.tag.length < 4294967296 /\ p.data.length < 4294967296
def lookT (p : Page) : Int × Record := if p.written = false then (0, zRec) else if (decT p.tag p.data).2 ≠ 0 then (2, zRec) else (1, (decT p.tag p.data).1)
def makeT (w : Write) : Page × Int := if (encT w.record w.data).2 ≠ 0 then (⟨false, [], []⟩, (encT w.record w.data).2) else (⟨true, w.data, (encT w.record w.data).1⟩, 0)
def WriteOk (w : Write) : Prop := RecOk w.record /\ w.data.length < 4294967296
theorem zrt {w : Write} (h : WriteOk w) : zbt w = some (makeT w) := by
 show z7q w = _; unfold z7q makeT; rw [zm4 h.1 h.2, z7]; by_cases c : (encT w.record w.data).2 = 0
 · rw [zT c, Bool.not_true, zD, if_neg (by simp [c])]
 · rw [zF c, Bool.not_false, zC, if_pos c]
end Clk
namespace Clk
open Go
def z0s (c : Chip) : Prop := c.blocks.length < 4294967296 /\ ∀ b ∈ c.blocks, b.pages.length < 4294967296
theorem z07 {α : Type} {l : List α} {i : Nat} {d : α} (h : i < l.length) : l.getD i d ∈ l := by
 rw [zI, zH h]; exact List.getElem_mem h
theorem z0s.get {c : Chip} (h : z0s c) {i : Nat} (hi : i < c.blocks.length) (d : Block) : (c.blocks.getD i d).pages.length < 4294967296 := h.2 _ (z07 hi)
theorem zmz (acc : List Block) (n e : Int) (b : Bool) (p q : List Page) : z0l (acc ++ [⟨q, n, e, b⟩]) acc.length p = acc ++ [⟨p, n, e, b⟩] := by
 unfold z0l; simp [zI]
theorem z00r {α : Type} {xs : List α} {k : Nat} {d : α} (h : k < xs.length) : xs.take k ++ [xs.getD k d] = xs.take (k + 1) := by
 rw [List.take_add_one, zH h, zI, zH h]; rfl
theorem z9d {R : Type} {c : Chip} (h : z0s c) {k : Nat} {i : Int} (hi : i = k) (hk : k < c.blocks.length) {ih : Int -> List Block -> Option R} {e : Option R} :
 cond (decide (i < (c.blocks.length : Int)))
  (cond (decide (0 <= i)) (cond (decide (i < (c.blocks.length : Int))) (cond (decide ((0 + (c.blocks.getD i.toNat default).pages.length) * 40 <= 70368744177664)) (cond (decide (0 + (c.blocks.getD i.toNat default).pages.length <= 70368744177664)) (cond (decide (((c.blocks.take k).length + 1) * 48 <= 70368744177664)) (cond (decide ((c.blocks.take k).length + 1 <= 70368744177664))
    (ih (w64 (i + 1)) (z0l (c.blocks.take k ++ [(Block.mk [] (c.blocks.getD i.toNat default).next (c.blocks.getD i.toNat default).erases (c.blocks.getD i.toNat default).bad)]) (c.blocks.take k).length ([] ++ (c.blocks.getD i.toNat default).pages))) none) none) none) none) none) none) e = ih ((k + 1 : Nat) : Int) (c.blocks.take (k + 1)) := by
 subst hi; have h1 := h.1; have h2 := h.get hk default; simp only [Int.toNat_natCast, zmz, List.nil_append]; rw [zT (show (k : Int) < c.blocks.length by omega), zT (show (0 : Int) <= k by omega)]; simp only [zC]; rw [zT (by omega), zC, zT (by omega), zC, zT (by rw [List.length_take]; omega), zC, zT (by rw [List.length_take]; omega), zC, ze (by omega) (by omega), <- z00r (d := default) hk]; rfl
theorem zru {c : Chip} (h : z0s c) : ∀ (m N k : Nat) (i : Int), k + m = c.blocks.length -> i = k -> m < N -> zf z2c N (i, c, c.blocks.take k) = some (⟨c.blocks, true, c.off, c.ops⟩, 1)
 | m, 0, _, _, _, _, h => by omega
 | 0, N + 1, k, i, h1, h2, _ => by
   rw [z6, z5l]; unfold z2b; simp only; rw [zF (by omega), zD, List.take_of_length_le (by omega)]
 | m + 1, N + 1, k, i, h1, h2, h3 => by
   rw [z6, z5l]; unfold z2b; rw [z9d (ih := fun i l => zf z2c N (i, c, l)) h h2 (by omega)]; exact zru h m N (k + 1) _ (by omega) rfl (by omega)
def brkT (c : Chip) : Chip × Int := (⟨c.blocks, true, c.off, c.ops⟩, 1)
theorem zvl {c : Chip} (h : z0s c) : zw c = some (brkT c) := by
 refine z0k (c.blocks.length + 1) fun N hN => ?_
 exact zru h c.blocks.length N 0 0 (by omega) rfl (by omega)
def onT (c : Chip) : Chip := ⟨c.blocks, c.broken, false, c.ops⟩
def thereT (c : Chip) (b p : Int) : Bool := decide (0 <= b) && decide (b < c.blocks.length) && decide (0 <= p) && decide (p < (c.blocks.getD b.toNat default).pages.length)
theorem z05j (c : Chip) (b p : Int) : z9s (c, b, p) = some (thereT c b p) := by
 show z5t c b p = _; unfold z5t thereT; cases decide (0 <= b) with
 | false => rfl
 | true => cases decide (b < (c.blocks.length : Int)) with
   | false => rfl
   | true => cases decide (0 <= p) <;> simp
def z4y (bl : Block) (p : Int) (page : Page) (f : Fate) : Block :=
 ⟨bl.pages.set p.toNat (if f.kind = 0 then ⟨true, page.data, page.tag⟩ else ⟨true, f.data, f.tag⟩), w64 (bl.next + 1), bl.erases, decide (f.kind = 1)⟩
def canProg (c : Chip) (b p : Int) (f : Fate) : Bool :=
 thereT c b p && !(c.blocks.getD b.toNat default).bad && decide ((c.blocks.getD b.toNat default).next = p) && decide (0 <= f.kind) && decide (f.kind <= 2)
def progT (c : Chip) (b p : Int) (page : Page) (f : Fate) : Chip × Int :=
 if c.off then (c, 52) else if canProg c b p f then
  (⟨c.blocks.set b.toNat (z4y (c.blocks.getD b.toNat default) p page f), c.broken, decide (f.kind = 2), w64 (c.ops + 1)⟩, if f.kind = 0 then 0 else if f.kind = 1 then 53 else 52)
 else brkT c
theorem z0x {α : Type} {l : List α} {i : Nat} {x d : α} (h : i < l.length) : (l.set i x).getD i d = x := by
 rw [zI, List.getElem?_set_self h]; rfl
theorem z4h {c : Chip} {b p : Int} {f : Fate} : canProg c b p f = true ↔ 0 <= b /\ b < c.blocks.length /\ 0 <= p /\ p < (c.blocks.getD b.toNat default).pages.length /\ (c.blocks.getD b.toNat default).bad = false /\ (c.blocks.getD b.toNat default).next = p /\ 0 <= f.kind /\ f.kind <= 2 := by
 unfold canProg thereT; simp only [Bool.and_eq_true, decide_eq_true_eq, Bool.not_eq_true']; constructor
 · rintro ⟨⟨⟨⟨⟨⟨⟨h1, h2⟩, h3⟩, h4⟩, h5⟩, h6⟩, h7⟩, h8⟩; exact ⟨h1, h2, h3, h4, h5, h6, h7, h8⟩
 · rintro ⟨h1, h2, h3, h4, h5, h6, h7, h8⟩; exact ⟨⟨⟨⟨⟨⟨⟨h1, h2⟩, h3⟩, h4⟩, h5⟩, h6⟩, h7⟩, h8⟩
theorem zu9 {c : Chip} {b p : Int} {page : Page} {f : Fate} (hoff : c.off = false) (hc : canProg c b p f = true) {ih} {i : Int} (hi : i = c.blocks.length) : z0w b p ih i page f c c.blocks = some (progT c b p page f) := by
 have hc' := hc; obtain ⟨h1, h2, h3, h4, h5, h6, h7, h8⟩ := z4h.1 hc; have hb : b.toNat < c.blocks.length := by omega
 have hp : p.toNat < (c.blocks.getD b.toNat default).pages.length := by omega
 unfold z0w progT; rw [zF (by omega), zD, hoff, if_neg (by simp), if_pos hc']; have hk : f.kind = 0 \/ f.kind = 1 \/ f.kind = 2 := by omega
 generalize hbl : c.blocks.getD b.toNat default = bl at *; have e1 : ∀ v, zx c.blocks b.toNat v = c.blocks.set b.toNat ⟨bl.pages, v, bl.erases, bl.bad⟩ := fun v => by unfold zx; rw [hbl]
 have e2 : ∀ v y, z5h (c.blocks.set b.toNat y) b.toNat v = c.blocks.set b.toNat ⟨y.pages, y.next, y.erases, v⟩ := fun v y => by unfold z5h; rw [z0x hb, List.set_set]
 have e3 : ∀ v y, z0l (c.blocks.set b.toNat y) b.toNat v = c.blocks.set b.toNat ⟨v, y.next, y.erases, y.bad⟩ := fun v y => by unfold z0l; rw [z0x hb, List.set_set]
 simp only [e1, e2, e3, List.length_set, z0x hb, zT h1, zT h2, zT hb, zT h3, zT h4, zT hp, zC, decide_true]; rcases hk with hk | hk | hk <;> simp [hk, z4y, h5, hoff]
theorem zn0 {c : Chip} (h : z0s c) {b p : Int} {page : Page} {f : Fate} (hoff : c.off = false) (hc : canProg c b p f = true) : ∀ (m N k : Nat) (i : Int), k + m = c.blocks.length -> i = k -> m < N -> zf (z1n b p) N (i, page, f, c, c.blocks.take k) = some (progT c b p page f)
 | m, 0, _, _, _, _, h => by omega
 | 0, N + 1, k, i, h1, h2, _ => by
   rw [z6, z57, List.take_of_length_le (by omega)]; exact zu9 hoff hc (by omega)
 | m + 1, N + 1, k, i, h1, h2, h3 => by
   rw [z6, z57]; unfold z0w; rw [z9d (ih := fun i l => zf (z1n b p) N (i, page, f, c, l)) h h2 (by omega)]; exact zn0 h hoff hc m N (k + 1) _ (by omega) rfl (by omega)
theorem zn1 {c : Chip} (h : z0s c) : ∀ (m N k : Nat) (i : Int), k + m = c.blocks.length -> i = k -> m < N -> zf z1m N (i, c, c.blocks.take k) = some (⟨c.blocks, c.broken, c.off, c.ops⟩, 52)
 | m, 0, _, _, _, _, h => by omega
 | 0, N + 1, k, i, h1, h2, _ => by
   rw [z6, z56]; unfold z1l; simp only; rw [zF (by omega), zD, List.take_of_length_le (by omega)]
 | m + 1, N + 1, k, i, h1, h2, h3 => by
   rw [z6, z56]; unfold z1l; rw [z9d (ih := fun i l => zf z1m N (i, c, l)) h h2 (by omega)]; exact zn1 h m N (k + 1) _ (by omega) rfl (by omega)
theorem zkz {c : Chip} (h : z0s c) (b p : Int) (page : Page) (f : Fate) : z0r (c, b, p, page, f) = some (progT c b p page f) := by
 refine z0k (c.blocks.length + 1) fun N hN => ?_
 show z3m N c b p page f = _; unfold z3m; cases hoff : c.off with
 | true =>
   rw [zC]; have := zn1 h c.blocks.length N 0 0 (by omega) rfl (by omega); rw [List.take_zero] at this; rw [this]; unfold progT; rw [if_pos hoff]
 | false =>
   rw [zD, z05j, z7, zvl h]; simp only [z7]; have hbrk : canProg c b p f = false -> progT c b p page f = brkT c := fun hc => by unfold progT; rw [hoff, if_neg (by simp), hc]; rfl
   cases ht : thereT c b p with
   | false =>
     rw [hbrk (by unfold canProg; rw [ht]; rfl)] <;> rfl
   | true =>
     have ht' := ht; unfold thereT at ht'; simp only [Bool.and_eq_true, decide_eq_true_eq] at ht'; obtain ⟨⟨⟨h1, h2⟩, h3⟩, h4⟩ := ht'; rw [Bool.not_true, zD, zT h1, zT h2]; simp only [zC]; cases hbd : (c.blocks.getD b.toNat default).bad with
     | true =>
       rw [zC, hbrk (by unfold canProg; rw [hbd]; simp)] <;> rfl
     | false =>
       rw [zD]; by_cases hn : (c.blocks.getD b.toNat default).next = p
       · rw [zT hn, Bool.not_true, zD]; by_cases hk1 : f.kind < 0
         · rw [zT hk1, zC, hbrk (by unfold canProg; rw [zF (show ¬ 0 <= f.kind by omega)]; simp)] <;> rfl
         · rw [zF hk1, zD]; by_cases hk2 : 2 < f.kind
           · rw [zT hk2, zC, hbrk (by unfold canProg; rw [zF (show ¬ f.kind <= 2 by omega)]; simp)] <;> rfl
           · rw [zF hk2, zD]; have := zn0 h (page := page) (f := f) hoff (z4h.2 ⟨h1, h2, h3, h4, hbd, hn, by omega, by omega⟩) c.blocks.length N 0 0 (by omega) rfl (by omega); rw [List.take_zero] at this; exact this
       · rw [zF hn, Bool.not_false, zC, hbrk (by unfold canProg; rw [zF hn]; simp)] <;> rfl
end Clk
namespace Clk
open Go
def z5k : Page := ⟨false, [], []⟩
def clrT (all : Bool) (n : Int) : Nat -> List Page -> List Page
 | _, [] => []
 | i, p :: l => (if all = true \/ (i : Int) < n then z5k else p) :: clrT all n (i + 1) l
def z84 (bl : Block) (f : Fate) : Block :=
 if f.kind = 1 then ⟨bl.pages, bl.next, bl.erases, true⟩
 else ⟨clrT (decide (f.kind = 0)) f.n 0 bl.pages, if f.kind = 2 then bl.pages.length else 0, w64 (bl.erases + 1), bl.bad⟩
def canEra (c : Chip) (b : Int) (f : Fate) : Bool :=
 decide (0 <= b) && decide (b < c.blocks.length) && !(c.blocks.getD b.toNat default).bad && decide (0 <= f.kind) && decide (f.kind <= 2)
def eraT (c : Chip) (b : Int) (f : Fate) : Chip × Int :=
 if c.off then (c, 52) else if canEra c b f then
  (⟨c.blocks.set b.toNat (z84 (c.blocks.getD b.toNat default) f), c.broken, decide (f.kind = 2), w64 (c.ops + 1)⟩, if f.kind = 0 then 0 else if f.kind = 1 then 53 else 52)
 else brkT c
theorem zp3 (all : Bool) (n : Int) : ∀ (i : Nat) (l : List Page), (clrT all n i l).length = l.length
 | _, [] => rfl
 | i, p :: l => by simp [clrT, zp3 all n (i + 1) l]
theorem zvm {C : List Block} {b : Nat} (hb : b < C.length) {f : Fate} (hk : f.kind = 0 \/ f.kind = 2) {nx e : Int} {bd brk off : Bool} {ops : Int} : ∀ (l : List Page) (N k : Nat) (i : Int) (pre : List Page), pre.length = k -> i = k -> k + l.length < 4294967296 -> l.length < N ->
 zf z30 N ((b : Int), i, f, C.set b ⟨pre ++ l, nx, e, bd⟩, brk, off, ops) =
  some (⟨C.set b ⟨pre ++ clrT (decide (f.kind = 0)) f.n k l, if f.kind = 2 then ((k + l.length : Nat) : Int) else 0, e, bd⟩, brk, off || decide (f.kind = 2), ops⟩, if f.kind = 2 then 52 else 0)
 | l, 0, _, _, _, _, _, _, h => by omega
 | [], N + 1, k, i, pre, h1, h2, h3, _ => by
   rw [z6, z6z]; unfold z2z; simp only [Int.toNat_natCast, List.length_set, z0x hb, zT hb, zC, decide_true, List.append_nil]; rw [zF (show ¬ i < (pre.length : Int) by omega), zD]; have e1 : ∀ v y, zx (C.set b y) b v = C.set b ⟨y.pages, v, y.erases, y.bad⟩ := fun v y => by unfold zx; rw [z0x hb, List.set_set]
   have e3 : ∀ v y, z0l (C.set b y) b v = C.set b ⟨v, y.next, y.erases, y.bad⟩ := fun v y => by unfold z0l; rw [z0x hb, List.set_set]
   simp only [e1, e3, List.length_set, zT hb, zC, clrT, List.append_nil, List.length_nil, Nat.add_zero]; rcases hk with hk | hk <;> simp [hk, h1]
 | p :: l, N + 1, k, i, pre, h1, h2, h3, h4 => by
   subst h2; simp only [List.length_cons] at h3 h4; have hl : (pre ++ p :: l).length = k + (l.length + 1) := by simp [h1]
   have g3 : ∀ x, (pre ++ p :: l).set k x = (pre ++ [x]) ++ l := fun x => by subst h1; simp
   have e3 : ∀ v y, z0l (C.set b y) b v = C.set b ⟨v, y.next, y.erases, y.bad⟩ := fun v y => by unfold z0l; rw [z0x hb, List.set_set]
   have ih := fun x => zvm hb hk (nx := nx) (e := e) (bd := bd) (brk := brk) (off := off) (ops := ops) l N (k + 1) (w64 (k + 1)) (pre ++ [x]) (by simp [h1]) (by rw [ze (by omega) (by omega)]; omega) (by omega) (by omega)
   rw [z6, z6z]; unfold z2z; simp only [Int.toNat_natCast, List.length_set, z0x hb, zT hb, zC, decide_true, e3, g3, hl]; rw [zT (show (k : Int) < ((k + (l.length + 1) : Nat) : Int) by omega), zT (show (0 : Int) <= k by omega), zT (show k < k + (l.length + 1) by omega)]; simp only [zC]; have hp0 : pre ++ p :: l = (pre ++ [p]) ++ l := by simp
   rw [hp0, ih p]; have hz : zf z30 N ((b : Int), w64 (k + 1), f, C.set b ⟨pre ++ [Page.mk false [] []] ++ l, nx, e, bd⟩, brk, off, ops) = _ := ih z5k; rw [hz]; rcases hk with hk | hk
   · simp [hk, clrT]
   · by_cases hn : (k : Int) < f.n
     · have hkl : k + 1 + l.length = k + (l.length + 1) := by omega
       rw [hkl]; simp [hk, clrT, hn]
     · have hkl : k + 1 + l.length = k + (l.length + 1) := by omega
       rw [hkl]; simp [hk, clrT, hn]
theorem z00s {c : Chip} (h : z0s c) {b : Int} {f : Fate} (hoff : c.off = false) (hc : canEra c b f = true) {M : Nat} (hM : ∀ b ∈ c.blocks, b.pages.length < M) {ih} {i : Int} (hi : i = c.blocks.length) : z1e M b ih i f c c.blocks = some (eraT c b f) := by
 have hc' := hc; unfold canEra at hc; simp only [Bool.and_eq_true, decide_eq_true_eq, Bool.not_eq_true'] at hc; obtain ⟨⟨⟨⟨h1, h2⟩, h5⟩, h7⟩, h8⟩ := hc; have hb : b.toNat < c.blocks.length := by omega
 have hM' := hM _ (z07 (d := default) hb); have hl := h.get hb default; unfold z1e eraT; rw [zF (by omega), zD, hoff, if_neg (by simp), if_pos hc']; have hk : f.kind = 1 \/ (f.kind = 0 \/ f.kind = 2) := by omega
 generalize hbl : c.blocks.getD b.toNat default = bl at *; have e2 : ∀ v, z5h c.blocks b.toNat v = c.blocks.set b.toNat ⟨bl.pages, bl.next, bl.erases, v⟩ := fun v => by unfold z5h; rw [hbl]
 have e3 : ∀ v, bErases c.blocks b.toNat v = c.blocks.set b.toNat ⟨bl.pages, bl.next, v, bl.bad⟩ := fun v => by unfold bErases; rw [hbl]
 simp only [e2, e3, zT h1, zT h2, zT hb, zC]; rcases hk with hk | hk
 · simp [hk, z84, hoff]
 · rw [zF (show ¬ f.kind = 1 by omega), zD]; have := zvm hb hk (nx := bl.next) (e := w64 (bl.erases + 1)) (bd := bl.bad) (brk := c.broken) (off := false) (ops := w64 (c.ops + 1)) bl.pages M 0 0 [] rfl rfl (by omega) hM'; rw [List.nil_append] at this; rw [this]; have hk1 : ¬ f.kind = 1 := by omega
   rcases hk with hk | hk <;> simp [hk, z84]
theorem zvn {c : Chip} (h : z0s c) {b : Int} {f : Fate} (hoff : c.off = false) (hc : canEra c b f = true) {M : Nat} (hM : ∀ b ∈ c.blocks, b.pages.length < M) : ∀ (m N k : Nat) (i : Int), k + m = c.blocks.length -> i = k -> m < N -> zf (z31 M b) N (i, f, c, c.blocks.take k) = some (eraT c b f)
 | m, 0, _, _, _, _, h => by omega
 | 0, N + 1, k, i, h1, h2, _ => by
   rw [z6, z71, List.take_of_length_le (by omega)]; exact z00s h hoff hc hM (by omega)
 | m + 1, N + 1, k, i, h1, h2, h3 => by
   rw [z6, z71]; unfold z1e; rw [z9d (ih := fun i l => zf (z31 M b) N (i, f, c, l)) h h2 (by omega)]; exact zvn h hoff hc hM m N (k + 1) _ (by omega) rfl (by omega)
theorem zvo {c : Chip} (h : z0s c) : ∀ (m N k : Nat) (i : Int), k + m = c.blocks.length -> i = k -> m < N -> zf z2y N (i, c, c.blocks.take k) = some (⟨c.blocks, c.broken, c.off, c.ops⟩, 52)
 | m, 0, _, _, _, _, h => by omega
 | 0, N + 1, k, i, h1, h2, _ => by
   rw [z6, z6y]; unfold z2x; simp only; rw [zF (by omega), zD, List.take_of_length_le (by omega)]
 | m + 1, N + 1, k, i, h1, h2, h3 => by
   rw [z6, z6y]; unfold z2x; rw [z9d (ih := fun i l => zf z2y N (i, c, l)) h h2 (by omega)]; exact zvo h m N (k + 1) _ (by omega) rfl (by omega)
theorem zp4 {c : Chip} (h : z0s c) (b : Int) (f : Fate) : z5v (c, b, f) = some (eraT c b f) := by
 refine z0k (c.blocks.length + 4294967297) fun N hN => ?_
 show z5u N c b f = _; unfold z5u; have hN2 : 4294967297 <= N := Nat.le_trans (Nat.le_add_left _ _) hN; have hN1 : c.blocks.length < N := by omega
 clear hN; cases hoff : c.off with
 | true =>
   rw [zC]; have := zvo h c.blocks.length N 0 0 (by omega) rfl hN1; rw [List.take_zero] at this; rw [this]; unfold eraT; rw [if_pos hoff]
 | false =>
   rw [zD, zvl h]; simp only [z7]; have hbrk : canEra c b f = false -> eraT c b f = brkT c := fun hc => by unfold eraT; rw [hoff, if_neg (by simp), hc]; rfl
   by_cases h1 : b < 0
   · rw [zT h1, zC, hbrk (by unfold canEra; rw [zF (show ¬ 0 <= b by omega)]; simp)]
   · rw [zF h1, zD]; by_cases h2 : (c.blocks.length : Int) <= b
     · rw [zT h2, zC, hbrk (by unfold canEra; rw [zF (show ¬ b < c.blocks.length by omega)]; simp)]
     · rw [zF h2, zD, zT (show 0 <= b by omega), zT (show b < c.blocks.length by omega)]; simp only [zC]; cases hbd : (c.blocks.getD b.toNat default).bad with
       | true => rw [zC, hbrk (by unfold canEra; rw [hbd]; simp)]
       | false =>
         rw [zD]; by_cases hk1 : f.kind < 0
         · rw [zT hk1, zC, hbrk (by unfold canEra; rw [zF (show ¬ 0 <= f.kind by omega)]; simp)]
         · rw [zF hk1, zD]; by_cases hk2 : 2 < f.kind
           · rw [zT hk2, zC, hbrk (by unfold canEra; rw [zF (show ¬ f.kind <= 2 by omega)]; simp)]
           · rw [zF hk2, zD]; have hc : canEra c b f = true := by
              unfold canEra; rw [hbd, zT (show 0 <= b by omega), zT (show b < c.blocks.length by omega), zT (show 0 <= f.kind by omega), zT (show f.kind <= 2 by omega)]; rfl
             have := zvn h hoff hc (M := N) (fun b hb => by have := h.2 b hb; omega) c.blocks.length N 0 0 (by omega) rfl hN1; rw [List.take_zero] at this; exact this
def zChip : Chip := ⟨[], false, false, 0⟩
def newL (n : Int) : List Int -> List Block -> Chip × Int
 | [], bs => (⟨bs, false, false, 0⟩, 0)
 | x :: l, bs => if x < 0 \/ n <= x then (zChip, 1) else newL n l (z5h bs x.toNat true)
def newT (blocks pages : Int) (bad : List Int) : Chip × Int :=
 if blocks < 1 \/ 32 < blocks \/ pages < 1 \/ 16 < pages then (zChip, 1) else newL blocks bad (List.replicate blocks.toNat ⟨List.replicate pages.toNat z5k, 0, 0, false⟩)
theorem z03z {n : Int} {bad : List Int} (hb : bad.length < 4294967296) : ∀ (l : List Int) (N k : Nat) (i : Int) (bs : List Block), bad.drop k = l -> i = k -> (bs.length : Int) = n -> l.length < N -> zf z8e N (n, bad, i, false, false, 0, bs) = some (newL n l bs)
 | l, 0, _, _, _, _, _, _, h => by omega
 | [], N + 1, k, i, bs, h1, h2, h3, _ => by
   have := zu h1; rw [z6, z95]; unfold z4p; simp only [newL]; rw [zF (by omega), zD]
 | x :: l, N + 1, k, i, bs, h1, h2, h3, h4 => by
   obtain ⟨g1, g2, g3⟩ := zn h1; subst h2; rw [z6, z95]; unfold z4p; simp only [Int.toNat_natCast, g2, newL]; rw [zT (show (k : Int) < bad.length by omega), zT (show (0 : Int) <= k by omega)]; simp only [zC]; by_cases c1 : x < 0
   · rw [zT c1, zC, if_pos (.inl c1)]; rfl
   · rw [zF c1, zD]; by_cases c2 : n <= x
     · rw [zT c2, zC, if_pos (.inr c2)]; rfl
     · rw [zF c2, zD, if_neg (by omega), zT (show 0 <= x by omega), zC, zT (show x < (bs.length : Int) by omega), zC, zT (show x.toNat < bs.length by omega), zC]; exact z03z hb l N (k + 1) _ _ g3 (by rw [ze (by omega) (by omega)]; omega) (by unfold z5h; simpa using h3) (by simp at h4; omega)
theorem z040 {n p : Int} {bad : List Int} (hb : bad.length < 4294967296) (hn : n <= 32) (hp : 1 <= p) (hp2 : p <= 16) {M : Nat} (hM : bad.length < M) : ∀ (m N k : Nat) (i : Int), (k : Int) + m = n -> i = k -> m < N -> zf (z8f M) N (n, p, bad, i, false, false, 0, List.replicate k ⟨List.replicate p.toNat z5k, 0, 0, false⟩) = some (newL n bad (List.replicate n.toNat ⟨List.replicate p.toNat z5k, 0, 0, false⟩))
 | m, 0, _, _, _, _, h => by omega
 | 0, N + 1, k, i, h1, h2, _ => by
   rw [z6, z96]; unfold z4q; simp only; rw [zF (by omega), zD, show n.toNat = k by omega]; exact z03z hb bad M 0 0 _ rfl rfl (by simp; omega) hM
 | m + 1, N + 1, k, i, h1, h2, h3 => by
   subst h2; rw [z6, z96]; unfold z4q; simp only [zmz]; simp only [List.length_replicate]; rw [zT (show (k : Int) < n by omega), zT (show 0 <= p by omega), zT (show p <= p by omega), zT (show p * 40 <= 70368744177664 by omega), zT (show p <= 70368744177664 by omega), zT (show (k + 1) * 48 <= 70368744177664 by omega), zT (show k + 1 <= 70368744177664 by omega)]; simp only [zC]; have e : List.replicate k (Block.mk (List.replicate p.toNat z5k) 0 0 false) ++ [⟨List.replicate p.toNat (default : Page), 0, 0, false⟩] = List.replicate (k + 1) ⟨List.replicate p.toNat z5k, 0, 0, false⟩ := by
    rw [List.replicate_succ']; rfl
   rw [e]; exact z040 hb hn hp hp2 hM m N (k + 1) _ (by omega) (by rw [ze (by omega) (by omega)]; omega) (by omega)
theorem zua {n p : Int} {bad : List Int} (hb : bad.length < 4294967296) : ze0 (n, p, bad) = some (newT n p bad) := by
 refine z0k (bad.length + 34) fun N hN => ?_
 show z9t N n p bad = _; unfold z9t newT; by_cases c1 : n < 1
 · rw [zT c1, zC, if_pos (.inl c1)]; rfl
 · rw [zF c1, zD]; by_cases c2 : 32 < n
   · rw [zT c2, zC, if_pos (.inr (.inl c2))]; rfl
   · rw [zF c2, zD]; by_cases c3 : p < 1
     · rw [zT c3, zC, if_pos (.inr (.inr (.inl c3)))]; rfl
     · rw [zF c3, zD]; by_cases c4 : 16 < p
       · rw [zT c4, zC, if_pos (.inr (.inr (.inr c4)))]; rfl
       · rw [zF c4, zD, if_neg (by omega)]; exact z040 hb (by omega) (by omega) (by omega) (M := N) (by omega) n.toNat N 0 0 (by omega) rfl (by omega)
end Clk
namespace Clk
open Go
def placeT (b p : Int) : Int := if b < 0 \/ 32 <= b \/ p < 0 \/ 16 <= p then -1 else b * 16 + p
theorem zp5 (b p : Int) : zo8 (b, p) = some (placeT b p) := by
 show z9r b p = _; unfold z9r placeT; by_cases c1 : b < 0
 · rw [zT c1, zC, if_pos (.inl c1)]
 · rw [zF c1, zD]; by_cases c2 : 32 <= b
   · rw [zT c2, zC, if_pos (.inr (.inl c2))]
   · rw [zF c2, zD]; by_cases c3 : p < 0
     · rw [zT c3, zC, if_pos (.inr (.inr (.inl c3)))]
     · rw [zF c3, zD]; by_cases c4 : 16 <= p
       · rw [zT c4, zC, if_pos (.inr (.inr (.inr c4)))]
       · rw [zF c4, zD, if_neg (by omega), ze (n := b * 16) (by omega) (by omega), ze (by omega) (by omega)]
theorem zrv (b p : Int) : zby (b, p) = some (placeT b p) := zp5 b p
def aheadT (a b : Found) : Bool := decide (a.record.seq < b.record.seq) || (decide (a.record.seq = b.record.seq) && decide (a.place < b.place))
def insT : List Found -> Found -> List Found
 | [], f => [f]
 | x :: l, f => if aheadT f x = true then f :: x :: l else x :: insT l f
theorem zvp : ∀ (l : List Found) (f : Found), (insT l f).length = l.length + 1
 | [], f => rfl
 | x :: l, f => by
   unfold insT; split
   · rfl
   · simp [zvp l f]
def pagesT (b : Nat) : Nat -> List Page -> List Found -> List Found
 | _, [], out => out
 | p, pg :: l, out => pagesT b (p + 1) l (if (lookT pg).1 = 1 /\ 0 <= placeT b p then insT out ⟨placeT b p, (lookT pg).2⟩ else out)
def blocksT : Nat -> List Block -> List Found -> List Found
 | _, [], out => out
 | b, x :: l, out => blocksT (b + 1) l (pagesT b 0 x.pages out)
def allT (c : Chip) : List Found := blocksT 0 c.blocks []
def PagesOk (c : Chip) : Prop := ∀ b ∈ c.blocks, ∀ p ∈ b.pages, PageOk p
theorem zn2 (b : Nat) : ∀ (l : List Page) (p : Nat) (out : List Found), out.length <= min (16 * b + min p 16) 512 -> (pagesT b p l out).length <= min (16 * (b + 1)) 512
 | [], p, out, h => by
   unfold pagesT; omega
 | pg :: l, p, out, h => by
   unfold pagesT; refine zn2 b l (p + 1) _ ?_; split
   · rename_i hc; have h2 := hc.2; unfold placeT at h2; split at h2
     · omega
     · rw [zvp]; omega
   · omega
theorem z02v {b p : Nat} (h : 0 <= placeT b p) : b < 32 /\ p < 16 := by
 unfold placeT at h; split at h <;> omega
theorem zl0 : ∀ (l : List Block) (b : Nat) (out : List Found), out.length <= min (16 * b) 512 -> (blocksT b l out).length <= 512
 | [], b, out, h => by unfold blocksT; omega
 | x :: l, b, out, h => by
   unfold blocksT; exact zl0 l (b + 1) _ (zn2 b _ 0 out (by omega))
theorem z02w (c : Chip) : (allT c).length <= 512 := zl0 _ 0 [] (by simp)
def tabT (n : Int) : Table := ⟨List.replicate (min n.toNat 64) (-1), List.replicate (min n.toNat 64) (-1)⟩
def TabOk (t : Table) : Prop := t.map.length < 4294967296 /\ t.by_.length < 4294967296
def app1 (f : Found) (i : Nat) (k : Int) (t : Table) : Table :=
 if 0 <= k /\ k < t.map.length /\ k < t.by_.length then
  if f.record.kind = 1 then ⟨t.map.set k.toNat f.place, t.by_.set k.toNat f.place⟩
  else if f.record.kind = 2 /\ i < f.record.values.length then ⟨t.map.set k.toNat (f.record.values.getD i 0), t.by_.set k.toNat f.place⟩
  else t
 else t
def appL (f : Found) : Nat -> List Int -> Table -> Table
 | _, [], t => t
 | i, k :: l, t => appL f (i + 1) l (app1 f i k t)
def applyT (t : Table) (f : Found) : Table := appL f 0 f.record.keys t
theorem z02x (f : Found) (i : Nat) (k : Int) (t : Table) : (app1 f i k t).map.length = t.map.length /\ (app1 f i k t).by_.length = t.by_.length := by
 unfold app1; split
 · split
   · simp
   · split <;> simp
 · simp
theorem zvq (f : Found) : ∀ (l : List Int) (i : Nat) (t : Table), (appL f i l t).map.length = t.map.length /\ (appL f i l t).by_.length = t.by_.length
 | [], i, t => ⟨rfl, rfl⟩
 | k :: l, i, t => by
   unfold appL; obtain ⟨h1, h2⟩ := zvq f l (i + 1) (app1 f i k t); obtain ⟨h3, h4⟩ := z02x f i k t; exact ⟨h1.trans h3, h2.trans h4⟩
theorem zn3 (t : Table) (f : Found) : (applyT t f).map.length = t.map.length /\ (applyT t f).by_.length = t.by_.length := zvq f _ 0 t
theorem zrw {f : Found} (hk : f.record.keys.length < 4294967296) (hv : f.record.values.length < 4294967296) : ∀ (l : List Int) (N i : Nat) (ii : Int) (t : Table), f.record.keys.drop i = l -> ii = i -> TabOk t -> l.length < N -> zf z0o N (f.record.keys, (f.record.keys.length : Int), ii, f, t.map, t.by_) = some (appL f i l t)
 | l, 0, _, _, _, _, _, _, h => by omega
 | [], N + 1, i, ii, t, h1, h2, h3, _ => by
   have h4 := zu h1; rw [z6, z5m]; unfold z2d; simp only [appL]; rw [zF (by omega), zD]
 | k :: l, N + 1, i, ii, t, h1, h2, h3, h4 => by
   obtain ⟨g1, g2, g3⟩ := zn h1; subst h2; have e1 : w64 ((i : Int) + 1) = ((i + 1 : Nat) : Int) := by rw [ze (by omega) (by omega)]; rfl
   have ih := fun t' h => zrw hk hv l N (i + 1) _ t' g3 rfl h (by simp at h4; omega)
   have ihs := ih t h3; have hval : z8j (f, (i : Int)) = some (if f.record.kind = 1 then (f.place, true) else if f.record.kind = 2 /\ i < f.record.values.length then (f.record.values.getD i 0, true) else (-1, false)) := by
    show z4u f i = _; unfold z4u; by_cases c4 : f.record.kind = 1
    · rw [zT c4, zC, if_pos c4]
    · rw [zF c4, zD, if_neg c4]; by_cases c5 : f.record.kind = 2
      · rw [zT c5, zC]; by_cases c6 : i < f.record.values.length
        · rw [zT (show (i : Int) < f.record.values.length by omega), zC, if_pos ⟨c5, c6⟩, zT (show (0 : Int) <= i by omega), zC, zC, Int.toNat_natCast]
        · rw [zF (show ¬ (i : Int) < f.record.values.length by omega), zD, if_neg (fun h => c6 h.2)]
      · rw [zF c5, zD, if_neg (fun h => c5 h.1)]
   rw [z6, z5m]; unfold z2d; simp only [Int.toNat_natCast, g2, e1, appL, hval, z7]; rw [zT (show (i : Int) < f.record.keys.length by omega), zT (show (0 : Int) <= i by omega)]; simp only [zC]; have hin : ∀ (v : Int) (X : Table), (0 <= k /\ k < t.map.length /\ k < t.by_.length -> X = ⟨t.map.set k.toNat v, t.by_.set k.toNat f.place⟩) -> (¬ (0 <= k /\ k < t.map.length /\ k < t.by_.length) -> X = t) ->
    (cond (decide (k < 0)) (zf z0o N (f.record.keys, (f.record.keys.length : Int), ((i + 1 : Nat) : Int), f, t.map, t.by_))
    (cond (decide ((min (t.map.length : Int) (t.by_.length : Int)) <= k)) (zf z0o N (f.record.keys, (f.record.keys.length : Int), ((i + 1 : Nat) : Int), f, t.map, t.by_))
      (cond (decide (0 <= k)) (cond (decide (k < (t.map.length : Int))) (cond (decide (k.toNat < t.map.length)) (cond (decide (0 <= k)) (cond (decide (k < (t.by_.length : Int))) (cond (decide (k.toNat < t.by_.length)) (zf z0o N (f.record.keys, (f.record.keys.length : Int), ((i + 1 : Nat) : Int), f, t.map.set k.toNat v, t.by_.set k.toNat f.place)) none) none) none) none) none) none))) = some (appL f (i + 1) l X) := by
    intro v X hX1 hX2; by_cases c1 : k < 0
    · rw [zT c1, zC, hX2 (by omega)]; exact ihs
    · rw [zF c1, zD]; by_cases c2 : min (t.map.length : Int) (t.by_.length : Int) <= k
      · rw [zT c2, zC, hX2 (by omega)]; exact ihs
      · rw [zF c2, zD, zT (show 0 <= k by omega), zT (show k < t.map.length by omega), zT (show k.toNat < t.map.length by omega), zT (show k < t.by_.length by omega), zT (show k.toNat < t.by_.length by omega)]; simp only [zC]; rw [hX1 (by omega)]; exact ih ⟨t.map.set k.toNat v, t.by_.set k.toNat f.place⟩ ⟨by simpa using h3.1, by simpa using h3.2⟩
   by_cases c4 : f.record.kind = 1
   · rw [if_pos c4, Bool.not_true, zD]; exact hin f.place _ (fun h => by unfold app1; rw [if_pos h, if_pos c4]) (fun h => by unfold app1; rw [if_neg h])
   · rw [if_neg c4]; by_cases c5 : f.record.kind = 2 /\ i < f.record.values.length
     · rw [if_pos c5, Bool.not_true, zD]; exact hin (f.record.values.getD i 0) _ (fun h => by unfold app1; rw [if_pos h, if_neg c4, if_pos c5]) (fun h => by unfold app1; rw [if_neg h])
     · rw [if_neg c5, Bool.not_false, zC]; have : app1 f i k t = t := by
        unfold app1; split
        · first | rfl | rw [if_neg c4, if_neg c5]
        · rfl
       rw [this]; exact ihs
theorem zm5 {t : Table} {f : Found} (ht : TabOk t) (hr : RecOk f.record) : z8k (t, f) = some (applyT t f) := by
 have h1 := ht.1; have h2 := ht.2; have h3 := hr.1; refine z0k 4294967297 fun N hN => ?_
 show z4v N t f = _; unfold z4v; rw [zT (by omega), zC, zT (by omega), zC, zT (by omega), zC, zT (by omega), zC]; exact zrw h3 hr.2 _ N 0 0 t rfl rfl ht (by omega)
end Clk
namespace Clk
open Go
def repL : List Found -> Table -> Int -> Table × Int
 | [], t, s => (t, s)
 | f :: l, t, s => repL l (applyT t f) (max s (w64 (f.record.seq + 1)))
def replayT (c : Chip) (n : Int) : Table × Int := repL (allT c) (tabT n) 0
def z85 (l : List Found) : Prop := ∀ f ∈ l, RecOk f.record
theorem zcm {s : Str} (h : s.length < 4294967296) : (zd s).1.length < 4294967296 /\ (zd s).2.1.length < 4294967296 := by
 have := z36 s; omega
theorem z05k {tag data : Str} (h : tag.length < 4294967296) : RecOk (decT tag data).1 := by
 obtain ⟨h1, h2⟩ := zcm h; obtain ⟨h3, h4⟩ := zcm h2; obtain ⟨h5, h6⟩ := zcm h4; unfold decT; split
 · exact ⟨by simp [zRec], by simp [zRec]⟩
 · split
   · exact ⟨by simp [zRec], by simp [zRec]⟩
   · exact ⟨h3, by simp only [mvT, List.length_map]; exact h5⟩
theorem z02y {p : Page} (h : PageOk p) : RecOk (lookT p).2 := by
 unfold lookT; split
 · exact ⟨by simp [zRec], by simp [zRec]⟩
 · split
   · exact ⟨by simp [zRec], by simp [zRec]⟩
   · exact z05k h.1
theorem z00t : ∀ {l : List Found} {f : Found}, z85 l -> RecOk f.record -> z85 (insT l f)
 | [], f, _, h => by intro g hg; simp [insT] at hg; subst hg; exact h
 | x :: l, f, h1, h2 => by
   unfold insT; split
   · intro g hg; rcases List.mem_cons.1 hg with rfl | hg
     · exact h2
     · exact h1 g hg
   · intro g hg; rcases List.mem_cons.1 hg with rfl | hg
     · exact h1 _ List.mem_cons_self
     · exact z00t (fun g hg => h1 g (List.mem_cons_of_mem _ hg)) h2 g hg
theorem zrx (b : Nat) : ∀ (l : List Page) (p : Nat) (out : List Found), (∀ pg ∈ l, PageOk pg) -> z85 out -> z85 (pagesT b p l out)
 | [], p, out, _, h => h
 | pg :: l, p, out, h1, h2 => by
   unfold pagesT; refine zrx b l (p + 1) _ (fun q hq => h1 q (List.mem_cons_of_mem _ hq)) ?_; split
   · exact z00t h2 (z02y (h1 pg List.mem_cons_self))
   · exact h2
theorem zn4 : ∀ (l : List Block) (b : Nat) (out : List Found), (∀ x ∈ l, ∀ p ∈ x.pages, PageOk p) -> z85 out -> z85 (blocksT b l out)
 | [], b, out, _, h => h
 | x :: l, b, out, h1, h2 => by
   unfold blocksT; exact zn4 l (b + 1) _ (fun y hy => h1 y (List.mem_cons_of_mem _ hy)) (zrx b _ 0 out (h1 x List.mem_cons_self) h2)
theorem z05l {c : Chip} (h : PagesOk c) : z85 (allT c) := zn4 _ 0 [] h (fun _ h => by cases h)
theorem zvr : ∀ (l : List Found) (t : Table) (s : Int), (repL l t s).1.map.length = t.map.length /\ (repL l t s).1.by_.length = t.by_.length
 | [], t, s => ⟨rfl, rfl⟩
 | f :: l, t, s => by
   unfold repL; obtain ⟨h1, h2⟩ := zvr l (applyT t f) (max s (w64 (f.record.seq + 1))); obtain ⟨h3, h4⟩ := zn3 t f; exact ⟨h1.trans h3, h2.trans h4⟩
theorem z00u (n : Int) : TabOk (tabT n) := ⟨by simp [tabT]; omega, by simp [tabT]; omega⟩
def anyW : List Page -> Bool
 | [] => false
 | p :: l => p.written || anyW l
def fcT (bl : Block) (l : List Page) : Int := cond (anyW l) 2 (if bl.next = 0 then 0 else 2)
def stateT (c : Chip) (opn b : Int) : Int :=
 if b < 0 \/ (c.blocks.length : Int) <= b then 3
 else if (c.blocks.getD b.toNat default).bad = true then 3
 else if b = opn /\ 0 <= (c.blocks.getD b.toNat default).next /\ (c.blocks.getD b.toNat default).next < (c.blocks.getD b.toNat default).pages.length then 1
 else fcT (c.blocks.getD b.toNat default) (c.blocks.getD b.toNat default).pages
def pickL (c : Chip) (o : Int) : Nat -> List Block -> Int -> Int
 | _, [], best => best
 | i, x :: l, best => pickL c o (i + 1) l (if stateT c o i = 0 /\ (best < 0 \/ x.erases < (c.blocks.getD best.toNat default).erases) then (i : Int) else best)
def fitsT (g : Geometry) : Bool :=
 decide (1 <= g.blocks) && decide (g.blocks <= 32) && decide (2 <= g.pages) && decide (g.pages <= 16) && decide (1 <= g.sectors) && decide (g.sectors <= 64) && decide (0 <= g.spare) && decide (g.spare <= 32) && decide (2 * g.sectors < (g.blocks - 2 * g.spare - 3) * g.pages)
theorem z06n (g : Geometry) : zqq g = some (fitsT g) := by
 show z52 g = _; unfold z52 fitsT; by_cases c1 : 1 <= g.blocks
 · by_cases c2 : g.blocks <= 32
   · by_cases c3 : 2 <= g.pages
     · by_cases c4 : g.pages <= 16
       · by_cases c5 : 1 <= g.sectors
         · by_cases c6 : g.sectors <= 64
           · by_cases c7 : 0 <= g.spare
             · by_cases c8 : g.spare <= 32
               · have hm : -16000 <= (g.blocks - 2 * g.spare - 3) * g.pages /\ (g.blocks - 2 * g.spare - 3) * g.pages <= 16000 := by
                  have h1 : -100 <= g.blocks - 2 * g.spare - 3 := by omega
                  have h2 : g.blocks - 2 * g.spare - 3 <= 100 := by omega
                  generalize g.blocks - 2 * g.spare - 3 = x at h1 h2; constructor
                  · have := Int.mul_le_mul_of_nonneg_right h1 (show 0 <= g.pages by omega); omega
                  · have := Int.mul_le_mul_of_nonneg_right h2 (show 0 <= g.pages by omega); omega
                 rw [ze (n := 2 * g.sectors) (by omega) (by omega), ze (n := 2 * g.spare) (by omega) (by omega), ze (n := g.blocks - 2 * g.spare) (by omega) (by omega), ze (n := g.blocks - 2 * g.spare - 3) (by omega) (by omega), ze (n := (g.blocks - 2 * g.spare - 3) * g.pages) (by omega) (by omega)]; simp only [zT c1, zT c2, zT c3, zT c4, zT c5, zT c6, zT c7, zT c8, zC, Bool.true_and]
               · simp [c1, c2, c3, c4, c5, c6, c7, c8]
             · simp [c1, c2, c3, c4, c5, c6, c7]
           · simp [c1, c2, c3, c4, c5, c6]
         · simp [c1, c2, c3, c4, c5]
       · simp [c1, c2, c3, c4]
     · simp [c1, c2, c3]
   · simp [c1, c2]
 · simp [c1]
def badsL : List Block -> Int
 | [] => 0
 | b :: l => (if b.bad = true then 1 else 0) + badsL l
def badsT (c : Chip) : Int := badsL c.blocks
theorem zvs : ∀ (l : List Block), 0 <= badsL l /\ badsL l <= l.length
 | [] => by simp [badsL]
 | b :: l => by have := zvs l; unfold badsL; simp only [List.length_cons]; split <;> omega
def zDev : Device := ⟨⟨0, 0, 0, 0⟩, ⟨[], false, false, 0⟩, ⟨[], []⟩, 0, 0⟩
def mtL (g : Geometry) : Nat -> List Block -> Int -> Option Int
 | _, [], o => some o
 | i, b :: l, o => if (b.pages.length : Int) ≠ g.pages then none else mtL g (i + 1) l (if o < 0 /\ b.bad = false /\ 0 < b.next /\ b.next < g.pages then (i : Int) else o)
def z0m (g : Geometry) (c : Chip) : Device × Int :=
 if fitsT g = false \/ (c.blocks.length : Int) ≠ g.blocks then (zDev, 1)
 else match mtL g 0 c.blocks (-1) with
  | none => (zDev, 1)
  | some o => (⟨g, onT c, (replayT c g.sectors).1, (replayT c g.sectors).2, o⟩, 0)
def formatT (g : Geometry) (bad : List Int) : Device × Int :=
 if fitsT g = false \/ (newT g.blocks g.pages bad).2 ≠ 0 \/ g.spare < badsT (newT g.blocks g.pages bad).1 then (zDev, 1) else z0m g (newT g.blocks g.pages bad).1
theorem zub {n : Int} {m : Nat} : ∀ (l : List Int) (bs : List Block), (∀ b ∈ bs, b.pages.length <= 16 /\ ∀ p ∈ b.pages, p = z5k) -> bs.length = m -> (∀ b ∈ (newL n l bs).1.blocks, b.pages.length <= 16 /\ ∀ p ∈ b.pages, p = z5k) /\ ((newL n l bs).1.blocks.length = m \/ (newL n l bs).1.blocks.length = 0)
 | [], bs, h1, h2 => ⟨h1, .inl h2⟩
 | x :: l, bs, h1, h2 => by
   unfold newL; split
   · exact ⟨fun b hb => by simp [zChip] at hb, .inr rfl⟩
   · refine zub l _ (fun b hb => ?_) (by unfold z5h; simpa using h2); unfold z5h at hb; by_cases hx : x.toNat < bs.length
     · rcases List.mem_or_eq_of_mem_set hb with h | rfl
       · exact h1 b h
       · exact h1 (bs.getD x.toNat default) (z07 hx)
     · rw [List.set_eq_of_length_le (by omega)] at hb; exact h1 b hb
theorem zuc (n p : Int) (bad : List Int) : z0s (newT n p bad).1 /\ PagesOk (newT n p bad).1 := by
 unfold newT; split
 · exact ⟨⟨by simp [zChip], fun b hb => by simp [zChip] at hb⟩, fun b hb => by simp [zChip] at hb⟩
 · rename_i h; obtain ⟨h1, h2⟩ := zub (n := n) (m := n.toNat) bad (List.replicate n.toNat ⟨List.replicate p.toNat z5k, 0, 0, false⟩) (fun b hb => by
    obtain ⟨_, rfl⟩ := List.mem_replicate.1 hb; exact ⟨by simp; omega, fun q hq => (List.mem_replicate.1 hq).2⟩) (by simp)
   refine ⟨⟨by omega, fun b hb => by have := (h1 b hb).1; omega⟩, fun b hb q hq => ?_⟩; rw [(h1 b hb).2 q hq]; exact ⟨by simp [z5k], by simp [z5k]⟩
def DevOk (d : Device) : Prop := z0s d.chip /\ TabOk d.table
end Clk
namespace Clk
open Go
def z2n : Fate := ⟨0, [], [], 0⟩
def nextOf (c : Chip) (o : Int) : Int := (c.blocks.getD o.toNat default).next
theorem z02z {c : Chip} (h : z0s c) (b p : Int) (page : Page) (f : Fate) : z0s (progT c b p page f).1 := by
 unfold progT; split
 · exact h
 · split
   · rename_i hc; obtain ⟨h1, h2, _⟩ := z4h.1 hc; refine ⟨by simpa using h.1, fun x hx => ?_⟩; rcases List.mem_or_eq_of_mem_set hx with h3 | rfl
     · exact h.2 x h3
     · have := h.get (show b.toNat < c.blocks.length by omega) default; simpa [z4y] using this
   · exact h
theorem zi0 (c : Chip) (b p : Int) (page : Page) (f : Fate) : (progT c b p page f).1.blocks.length = c.blocks.length := by
 unfold progT; split
 · rfl
 · split
   · simp
   · rfl
end Clk
