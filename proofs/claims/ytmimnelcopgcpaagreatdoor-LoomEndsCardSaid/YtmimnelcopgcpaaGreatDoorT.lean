/- The types that the functions touch, and that the program has them. No statement of the seat is proved here. -/
import Derived.Test.YtmimnelcopgcpaaGreatDoorProg
import Derived.Test.YtmimnelcopgcpaaGreatDoorCC
set_option linter.unusedVariables false
set_option linter.unusedSimpArgs false
namespace Go.Sl
open Go
noncomputable abbrev P := Go.Proofs.Tryz.prog
def T : Tab := [
  (3, ⟨.int .i64, 1, 8, [.int .i64 0]⟩),
  (4, ⟨.bool, 1, 1, [.bool false]⟩),
  (22, ⟨.slice 40, 1, 24, [.slice none 0 0]⟩),
  (25, ⟨.int .i64, 1, 8, [.int .i64 0]⟩),
  (40, ⟨.struct [(0, 3), (1, 3), (2, 3), (3, 3), (4, 3), (5, 3), (6, 4), (7, 4)], 8, 56, [.int .i64 0, .int .i64 0, .int .i64 0, .int .i64 0, .int .i64 0, .int .i64 0, .bool false, .bool false]⟩),
  (41, ⟨.slice 74, 1, 24, [.slice none 0 0]⟩),
  (42, ⟨.slice 3, 1, 24, [.slice none 0 0]⟩),
  (44, ⟨.struct [(0, 3), (1, 3), (2, 41), (3, 42), (4, 42)], 5, 88, [.int .i64 0, .int .i64 0, .slice none 0 0, .slice none 0 0, .slice none 0 0]⟩),
  (49, ⟨.ptr 111, 1, 8, [.pointer none]⟩),
  (71, ⟨.slice 166, 1, 24, [.slice none 0 0]⟩),
  (73, ⟨.struct [(0, 3), (1, 3), (2, 3), (3, 71), (4, 4)], 5, 56, [.int .i64 0, .int .i64 0, .int .i64 0, .slice none 0 0, .bool false]⟩),
  (74, ⟨.slice 73, 1, 24, [.slice none 0 0]⟩),
  (102, ⟨.ptr 172, 1, 8, [.pointer none]⟩),
  (106, ⟨.ptr 180, 1, 8, [.pointer none]⟩),
  (108, ⟨.slice 186, 1, 24, [.slice none 0 0]⟩),
  (109, ⟨.arr 8 3, 8, 64, [.int .i64 0, .int .i64 0, .int .i64 0, .int .i64 0, .int .i64 0, .int .i64 0, .int .i64 0, .int .i64 0]⟩),
  (111, ⟨.struct [(0, 44), (5, 102), (6, 106), (7, 108), (8, 109), (16, 108), (17, 22), (18, 4)], 19, 248, [.int .i64 0, .int .i64 0, .slice none 0 0, .slice none 0 0, .slice none 0 0, .pointer none, .pointer none, .slice none 0 0, .int .i64 0, .int .i64 0, .int .i64 0, .int .i64 0, .int .i64 0, .int .i64 0, .int .i64 0, .int .i64 0, .slice none 0 0, .slice none 0 0, .bool false]⟩),
  (123, ⟨.struct [(0, 3), (1, 3)], 2, 16, [.int .i64 0, .int .i64 0]⟩),
  (124, ⟨.arr 4 123, 8, 64, [.int .i64 0, .int .i64 0, .int .i64 0, .int .i64 0, .int .i64 0, .int .i64 0, .int .i64 0, .int .i64 0]⟩),
  (126, ⟨.struct [(0, 124), (8, 4), (9, 4)], 10, 72, [.int .i64 0, .int .i64 0, .int .i64 0, .int .i64 0, .int .i64 0, .int .i64 0, .int .i64 0, .int .i64 0, .bool false, .bool false]⟩),
  (128, ⟨.ptr 3, 1, 8, [.pointer none]⟩),
  (129, ⟨.arr 5 128, 5, 40, [.pointer none, .pointer none, .pointer none, .pointer none, .pointer none]⟩),
  (166, ⟨.struct [(0, 4), (1, 3), (2, 3)], 3, 24, [.bool false, .int .i64 0, .int .i64 0]⟩),
  (170, ⟨.struct [(0, 42)], 1, 24, [.slice none 0 0]⟩),
  (172, ⟨.struct [(0, 170), (1, 170)], 2, 48, [.slice none 0 0, .slice none 0 0]⟩),
  (178, ⟨.slice 182, 1, 24, [.slice none 0 0]⟩),
  (180, ⟨.struct [(0, 178)], 1, 24, [.slice none 0 0]⟩),
  (182, ⟨.struct [(0, 3), (1, 3), (2, 3)], 3, 24, [.int .i64 0, .int .i64 0, .int .i64 0]⟩),
  (186, ⟨.ptr 235, 1, 8, [.pointer none]⟩),
  (231, ⟨.ptr 294, 1, 8, [.pointer none]⟩),
  (233, ⟨.ptr 304, 1, 8, [.pointer none]⟩),
  (235, ⟨.struct [(0, 233), (1, 231), (2, 231), (3, 4), (4, 3), (5, 3)], 6, 48, [.pointer none, .pointer none, .pointer none, .bool false, .int .i64 0, .int .i64 0]⟩),
  (237, ⟨.struct [(0, 3), (1, 3), (2, 3)], 3, 24, [.int .i64 0, .int .i64 0, .int .i64 0]⟩),
  (239, ⟨.struct [(0, 4), (1, 4), (2, 4), (3, 3), (4, 237)], 7, 40, [.bool false, .bool false, .bool false, .int .i64 0, .int .i64 0, .int .i64 0, .int .i64 0]⟩),
  (243, ⟨.slice 237, 1, 24, [.slice none 0 0]⟩),
  (290, ⟨.ptr 182, 1, 8, [.pointer none]⟩),
  (292, ⟨.ptr 330, 1, 8, [.pointer none]⟩),
  (294, ⟨.struct [(0, 292), (1, 292), (2, 3)], 3, 24, [.pointer none, .pointer none, .int .i64 0]⟩),
  (302, ⟨.arr 4 3, 4, 32, [.int .i64 0, .int .i64 0, .int .i64 0, .int .i64 0]⟩),
  (304, ⟨.struct [(0, 3), (1, 3), (2, 3), (3, 302)], 7, 56, [.int .i64 0, .int .i64 0, .int .i64 0, .int .i64 0, .int .i64 0, .int .i64 0, .int .i64 0]⟩),
  (330, ⟨.struct [(0, 237), (3, 292)], 4, 32, [.int .i64 0, .int .i64 0, .int .i64 0, .pointer none]⟩),
  (331, ⟨.word, 1, 8, [.nilFunc]⟩)]
theorem Tok : Tabok Go.Proofs.Tryz.prog T := by
  intro p hp
  simp only [T, List.mem_cons, List.not_mem_nil, or_false] at hp
  rcases hp with rfl | rfl | rfl | rfl | rfl | rfl | rfl | rfl | rfl | rfl | rfl | rfl | rfl | rfl | rfl | rfl | rfl | rfl | rfl | rfl | rfl | rfl | rfl | rfl | rfl | rfl | rfl | rfl | rfl | rfl | rfl | rfl | rfl | rfl | rfl | rfl | rfl | rfl | rfl | rfl | rfl | rfl
  all_goals exact ⟨by kernel_rfl, by kernel_rfl, by kernel_rfl⟩
theorem mixed : Go.Proofs.Tryz.prog.follows .mixedOrders = true := by kernel_rfl
end Go.Sl
