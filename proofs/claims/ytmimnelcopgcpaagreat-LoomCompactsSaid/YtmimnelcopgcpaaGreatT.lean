/- The types that the functions touch, and that the program has them. No statement of the seat is proved here. -/
import Derived.Test.YtmimnelcopgcpaaGreatProg
import Derived.Test.YtmimnelcopgcpaaGreatCC
set_option linter.unusedVariables false
set_option linter.unusedSimpArgs false
namespace Go.Sl
open Go
noncomputable abbrev P := Go.Proofs.Tryz.prog
def T : Tab := [
  (3, ⟨.int .i64, 1, 8, [.int .i64 0]⟩),
  (4, ⟨.bool, 1, 1, [.bool false]⟩),
  (5, ⟨.int .u8, 1, 1, [.int .u8 0]⟩),
  (9, ⟨.str, 1, 16, [.string ByteArray.empty]⟩),
  (22, ⟨.slice 36, 1, 24, [.slice none 0 0]⟩),
  (23, ⟨.slice 3, 1, 24, [.slice none 0 0]⟩),
  (25, ⟨.struct [(0, 3), (1, 3), (2, 22), (3, 23), (4, 23)], 5, 88, [.int .i64 0, .int .i64 0, .slice none 0 0, .slice none 0 0, .slice none 0 0]⟩),
  (29, ⟨.slice 34, 1, 24, [.slice none 0 0]⟩),
  (34, ⟨.struct [(0, 3), (1, 3), (2, 3), (3, 3), (4, 3), (5, 3), (6, 4), (7, 4)], 8, 56, [.int .i64 0, .int .i64 0, .int .i64 0, .int .i64 0, .int .i64 0, .int .i64 0, .bool false, .bool false]⟩),
  (36, ⟨.slice 39, 1, 24, [.slice none 0 0]⟩),
  (37, ⟨.slice 52, 1, 24, [.slice none 0 0]⟩),
  (39, ⟨.struct [(0, 3), (1, 3), (2, 3), (3, 37), (4, 4)], 5, 56, [.int .i64 0, .int .i64 0, .int .i64 0, .slice none 0 0, .bool false]⟩),
  (41, ⟨.ptr 62, 1, 8, [.pointer none]⟩),
  (42, ⟨.int .i64, 1, 8, [.int .i64 0]⟩),
  (52, ⟨.struct [(0, 4), (1, 3), (2, 3)], 3, 24, [.bool false, .int .i64 0, .int .i64 0]⟩),
  (54, ⟨.ptr 90, 1, 8, [.pointer none]⟩),
  (57, ⟨.ptr 93, 1, 8, [.pointer none]⟩),
  (59, ⟨.slice 101, 1, 24, [.slice none 0 0]⟩),
  (60, ⟨.arr 8 3, 8, 64, [.int .i64 0, .int .i64 0, .int .i64 0, .int .i64 0, .int .i64 0, .int .i64 0, .int .i64 0, .int .i64 0]⟩),
  (62, ⟨.struct [(0, 25), (5, 54), (6, 57), (7, 59), (8, 60), (16, 59), (17, 29), (18, 4)], 19, 248, [.int .i64 0, .int .i64 0, .slice none 0 0, .slice none 0 0, .slice none 0 0, .pointer none, .pointer none, .slice none 0 0, .int .i64 0, .int .i64 0, .int .i64 0, .int .i64 0, .int .i64 0, .int .i64 0, .int .i64 0, .int .i64 0, .slice none 0 0, .slice none 0 0, .bool false]⟩),
  (82, ⟨.slice 9, 1, 24, [.slice none 0 0]⟩),
  (88, ⟨.struct [(0, 23)], 1, 24, [.slice none 0 0]⟩),
  (90, ⟨.struct [(0, 88), (1, 88)], 2, 48, [.slice none 0 0, .slice none 0 0]⟩),
  (91, ⟨.slice 95, 1, 24, [.slice none 0 0]⟩),
  (93, ⟨.struct [(0, 91)], 1, 24, [.slice none 0 0]⟩),
  (95, ⟨.struct [(0, 3), (1, 3), (2, 3)], 3, 24, [.int .i64 0, .int .i64 0, .int .i64 0]⟩),
  (101, ⟨.ptr 120, 1, 8, [.pointer none]⟩),
  (116, ⟨.ptr 143, 1, 8, [.pointer none]⟩),
  (118, ⟨.ptr 153, 1, 8, [.pointer none]⟩),
  (120, ⟨.struct [(0, 118), (1, 116), (2, 116), (3, 4), (4, 3), (5, 3)], 6, 48, [.pointer none, .pointer none, .pointer none, .bool false, .int .i64 0, .int .i64 0]⟩),
  (122, ⟨.struct [(0, 3), (1, 3), (2, 3)], 3, 24, [.int .i64 0, .int .i64 0, .int .i64 0]⟩),
  (124, ⟨.struct [(0, 4), (1, 4), (2, 4), (3, 3), (4, 122)], 7, 40, [.bool false, .bool false, .bool false, .int .i64 0, .int .i64 0, .int .i64 0, .int .i64 0]⟩),
  (128, ⟨.slice 122, 1, 24, [.slice none 0 0]⟩),
  (139, ⟨.ptr 95, 1, 8, [.pointer none]⟩),
  (141, ⟨.ptr 159, 1, 8, [.pointer none]⟩),
  (143, ⟨.struct [(0, 141), (1, 141), (2, 3)], 3, 24, [.pointer none, .pointer none, .int .i64 0]⟩),
  (151, ⟨.arr 4 3, 4, 32, [.int .i64 0, .int .i64 0, .int .i64 0, .int .i64 0]⟩),
  (153, ⟨.struct [(0, 3), (1, 3), (2, 3), (3, 151)], 7, 56, [.int .i64 0, .int .i64 0, .int .i64 0, .int .i64 0, .int .i64 0, .int .i64 0, .int .i64 0]⟩),
  (159, ⟨.struct [(0, 122), (3, 141)], 4, 32, [.int .i64 0, .int .i64 0, .int .i64 0, .pointer none]⟩),
  (160, ⟨.word, 1, 8, [.nilFunc]⟩)]
theorem Tok : Tabok Go.Proofs.Tryz.prog T := by
  intro p hp
  simp only [T, List.mem_cons, List.not_mem_nil, or_false] at hp
  rcases hp with rfl | rfl | rfl | rfl | rfl | rfl | rfl | rfl | rfl | rfl | rfl | rfl | rfl | rfl | rfl | rfl | rfl | rfl | rfl | rfl | rfl | rfl | rfl | rfl | rfl | rfl | rfl | rfl | rfl | rfl | rfl | rfl | rfl | rfl | rfl | rfl | rfl | rfl | rfl | rfl
  all_goals exact ⟨by kernel_rfl, by kernel_rfl, by kernel_rfl⟩
theorem mixed : Go.Proofs.Tryz.prog.follows .mixedOrders = true := by kernel_rfl
end Go.Sl
