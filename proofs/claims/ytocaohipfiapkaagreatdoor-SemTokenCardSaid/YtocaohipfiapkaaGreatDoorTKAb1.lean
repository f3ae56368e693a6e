/- Words, walks and laws under the claim's statement: what it uses of them. No condition of its own. -/
import Derived.Test.YtocaohipfiapkaaGreatDoorTKAb0
import Derived.Test.YtocaohipfiapkaaGreatDoorProg
import Derived.KernelRfl
import Derived.Laws.OwnMore
import Derived.Below
import Derived.Lib.SliceRun
namespace Go.Proofs.YtocaohipfiapkaaGreatDoor.Ab
open Go Go.Proofs
def tab : Tab := [(1, ⟨.func #[] #[] false, 1, 8, .nilFunc⟩),
  (2, ⟨.int .i64, 1, 8, (.int .i64 0)⟩),
  (3, ⟨.int .i64, 1, 8, (.int .i64 0)⟩),
  (4, ⟨.bool, 1, 1, (.bool false)⟩),
  (5, ⟨.int .u8, 1, 1, (.int .u8 0)⟩),
  (9, ⟨.string, 1, 16, (.string ⟨#[]⟩)⟩),
  (12, ⟨.int .u64, 1, 8, (.int .u64 0)⟩),
  (13, ⟨.struct #[⟨"msg", 9, 0, false, "", "runtime", 0⟩, ⟨"addr", 12, 1, false, "", "runtime", 16⟩], 2, 24, (.agg #[(.string ⟨#[]⟩), (.int .u64 0)])⟩),
  (15, ⟨.pointer 142, 1, 8, (.pointer none)⟩),
  (16, ⟨.pointer 145, 1, 8, (.pointer none)⟩),
  (21, ⟨.int .i32, 1, 4, (.int .i32 0)⟩),
  (22, ⟨.slice 39, 1, 24, (.slice none 0 0)⟩),
  (23, ⟨.struct #[⟨"Cells", 22, 0, false, "", "", 0⟩], 1, 24, (.agg #[(.slice none 0 0)])⟩),
  (24, ⟨.struct #[⟨"Cells", 22, 0, false, "", "", 0⟩], 1, 24, (.agg #[(.slice none 0 0)])⟩),
  (25, ⟨.pointer 34, 1, 8, (.pointer none)⟩),
  (26, ⟨.func #[24] #[25] false, 1, 8, .nilFunc⟩),
  (27, ⟨.int .i64, 1, 8, (.int .i64 0)⟩),
  (28, ⟨.func #[32, 25] #[27] false, 1, 8, .nilFunc⟩),
  (29, ⟨.func #[] #[4] false, 1, 8, .nilFunc⟩),
  (31, ⟨.func #[25] #[25, 27] false, 1, 8, .nilFunc⟩),
  (32, ⟨.slice 25, 1, 24, (.slice none 0 0)⟩),
  (33, ⟨.struct #[⟨"Kind", 3, 0, false, "", "", 0⟩, ⟨"N", 3, 1, false, "", "", 8⟩, ⟨"Name", 9, 2, false, "", "", 16⟩, ⟨"Mark", 9, 3, false, "", "", 32⟩, ⟨"Kids", 32, 4, false, "", "", 48⟩], 5, 72, (.agg #[(.int .i64 0), (.int .i64 0), (.string ⟨#[]⟩), (.string ⟨#[]⟩), (.slice none 0 0)])⟩),
  (34, ⟨.struct #[⟨"Kind", 3, 0, false, "", "", 0⟩, ⟨"N", 3, 1, false, "", "", 8⟩, ⟨"Name", 9, 2, false, "", "", 16⟩, ⟨"Mark", 9, 3, false, "", "", 32⟩, ⟨"Kids", 32, 4, false, "", "", 48⟩], 5, 72, (.agg #[(.int .i64 0), (.int .i64 0), (.string ⟨#[]⟩), (.string ⟨#[]⟩), (.slice none 0 0)])⟩),
  (35, ⟨.func #[25, 25] #[4] false, 1, 8, .nilFunc⟩),
  (36, ⟨.func #[24] #[4] false, 1, 8, .nilFunc⟩),
  (37, ⟨.slice 3, 1, 24, (.slice none 0 0)⟩),
  (38, ⟨.struct #[⟨"Kind", 3, 0, false, "", "", 0⟩, ⟨"N", 3, 1, false, "", "", 8⟩, ⟨"Name", 9, 2, false, "", "", 16⟩, ⟨"Mark", 9, 3, false, "", "", 32⟩, ⟨"Kids", 37, 4, false, "", "", 48⟩], 5, 72, (.agg #[(.int .i64 0), (.int .i64 0), (.string ⟨#[]⟩), (.string ⟨#[]⟩), (.slice none 0 0)])⟩),
  (39, ⟨.struct #[⟨"Kind", 3, 0, false, "", "", 0⟩, ⟨"N", 3, 1, false, "", "", 8⟩, ⟨"Name", 9, 2, false, "", "", 16⟩, ⟨"Mark", 9, 3, false, "", "", 32⟩, ⟨"Kids", 37, 4, false, "", "", 48⟩], 5, 72, (.agg #[(.int .i64 0), (.int .i64 0), (.string ⟨#[]⟩), (.string ⟨#[]⟩), (.slice none 0 0)])⟩),
  (41, ⟨.func #[24] #[25, 3] false, 1, 8, .nilFunc⟩),
  (42, ⟨.func #[32, 25] #[25, 27] false, 1, 8, .nilFunc⟩),
  (43, ⟨.func #[25, 9, 9] #[25, 27] false, 1, 8, .nilFunc⟩),
  (44, ⟨.func #[25] #[9] false, 1, 8, .nilFunc⟩),
  (45, ⟨.func #[25] #[27] false, 1, 8, .nilFunc⟩),
  (46, ⟨.func #[25, 27] #[25, 27] false, 1, 8, .nilFunc⟩),
  (47, ⟨.func #[3, 32] #[25] true, 1, 8, .nilFunc⟩),
  (48, ⟨.func #[] #[25] false, 1, 8, .nilFunc⟩),
  (49, ⟨.func #[32, 32, 25] #[25, 27] false, 1, 8, .nilFunc⟩),
  (50, ⟨.func #[32, 32, 35] #[4] false, 1, 8, .nilFunc⟩),
  (51, ⟨.func #[24, 3] #[25] false, 1, 8, .nilFunc⟩),
  (52, ⟨.func #[25] #[4] false, 1, 8, .nilFunc⟩),
  (53, ⟨.func #[9] #[4] false, 1, 8, .nilFunc⟩),
  (54, ⟨.slice 9, 1, 24, (.slice none 0 0)⟩),
  (55, ⟨.func #[9] #[54] false, 1, 8, .nilFunc⟩),
  (56, ⟨.func #[32, 52] #[3] false, 1, 8, .nilFunc⟩),
  (57, ⟨.func #[25, 52] #[27] false, 1, 8, .nilFunc⟩),
  (58, ⟨.func #[25, 3, 3] #[25, 27] false, 1, 8, .nilFunc⟩),
  (59, ⟨.func #[25, 60] #[27] false, 1, 8, .nilFunc⟩),
  (60, ⟨.pointer 3, 1, 8, (.pointer none)⟩),
  (61, ⟨.func #[25] #[25] false, 1, 8, .nilFunc⟩),
  (62, ⟨.func #[3, 3, 25] #[25] false, 1, 8, .nilFunc⟩),
  (63, ⟨.func #[32, 52] #[4] false, 1, 8, .nilFunc⟩),
  (64, ⟨.struct #[⟨"kinds", 32, 0, false, "", "marquetry/typing", 0⟩, ⟨"types", 32, 1, false, "", "marquetry/typing", 24⟩], 2, 48, (.agg #[(.slice none 0 0), (.slice none 0 0)])⟩),
  (65, ⟨.struct #[⟨"kinds", 32, 0, false, "", "marquetry/typing", 0⟩, ⟨"types", 32, 1, false, "", "marquetry/typing", 24⟩], 2, 48, (.agg #[(.slice none 0 0), (.slice none 0 0)])⟩),
  (66, ⟨.func #[32, 32] #[25, 27] true, 1, 8, .nilFunc⟩),
  (67, ⟨.func #[25] #[32] false, 1, 8, .nilFunc⟩),
  (68, ⟨.func #[25, 32] #[32] false, 1, 8, .nilFunc⟩),
  (69, ⟨.func #[25, 4, 4] #[4] false, 1, 8, .nilFunc⟩),
  (70, ⟨.func #[54, 53] #[4] false, 1, 8, .nilFunc⟩),
  (71, ⟨.func #[9, 9] #[54] false, 1, 8, .nilFunc⟩),
  (72, ⟨.func #[9] #[9] false, 1, 8, .nilFunc⟩),
  (73, ⟨.func #[3] #[9] false, 1, 8, .nilFunc⟩),
  (74, ⟨.func #[54, 9] #[9] false, 1, 8, .nilFunc⟩),
  (75, ⟨.func #[25, 3] #[4] false, 1, 8, .nilFunc⟩),
  (76, ⟨.func #[25, 3, 77] #[25] false, 1, 8, .nilFunc⟩),
  (77, ⟨.func #[25, 3] #[25] false, 1, 8, .nilFunc⟩),
  (79, ⟨.func #[25] #[65, 27] false, 1, 8, .nilFunc⟩),
  (80, ⟨.func #[25] #[65] false, 1, 8, .nilFunc⟩),
  (81, ⟨.func #[65, 25] #[25, 27] false, 1, 8, .nilFunc⟩),
  (82, ⟨.func #[25] #[81] false, 1, 8, .nilFunc⟩),
  (83, ⟨.func #[104] #[32] true, 1, 8, .nilFunc⟩),
  (84, ⟨.func #[54, 53] #[3] false, 1, 8, .nilFunc⟩),
  (85, ⟨.func #[9, 9, 3, 3] #[54] false, 1, 8, .nilFunc⟩),
  (86, ⟨.int .u64, 1, 8, (.int .u64 0)⟩),
  (87, ⟨.slice 5, 1, 24, (.slice none 0 0)⟩),
  (88, ⟨.func #[87] #[] false, 1, 8, .nilFunc⟩),
  (89, ⟨.pointer 91, 1, 8, (.pointer none)⟩),
  (90, ⟨.struct #[⟨"addr", 89, 0, false, "", "strings", 0⟩, ⟨"buf", 87, 1, false, "", "strings", 8⟩], 2, 32, (.agg #[(.pointer none), (.slice none 0 0)])⟩),
  (91, ⟨.struct #[⟨"addr", 89, 0, false, "", "strings", 0⟩, ⟨"buf", 87, 1, false, "", "strings", 8⟩], 2, 32, (.agg #[(.pointer none), (.slice none 0 0)])⟩),
  (92, ⟨.func #[3] #[] false, 1, 8, .nilFunc⟩),
  (96, ⟨.func #[9] #[3, 94] false, 1, 8, .nilFunc⟩),
  (97, ⟨.func #[] #[9] false, 1, 8, .nilFunc⟩),
  (98, ⟨.map 9 4, 1, 8, (.map none)⟩),
  (99, ⟨.func #[25] #[3] false, 1, 8, .nilFunc⟩),
  (100, ⟨.func #[25, 4, 112] #[4] true, 1, 8, .nilFunc⟩),
  (101, ⟨.func #[32, 3, 4] #[4] false, 1, 8, .nilFunc⟩),
  (103, ⟨.func #[25] #[25, 4, 27] false, 1, 8, .nilFunc⟩),
  (104, ⟨.slice 32, 1, 24, (.slice none 0 0)⟩),
  (105, ⟨.func #[32, 3] #[32] false, 1, 8, .nilFunc⟩),
  (106, ⟨.func #[21] #[3] false, 1, 8, .nilFunc⟩),
  (107, ⟨.func #[54, 9] #[4] false, 1, 8, .nilFunc⟩),
  (108, ⟨.func #[] #[54] false, 1, 8, .nilFunc⟩),
  (109, ⟨.func #[9, 3] #[54] false, 1, 8, .nilFunc⟩),
  (110, ⟨.func #[9, 9] #[3] false, 1, 8, .nilFunc⟩),
  (111, ⟨.pointer 5, 1, 8, (.pointer none)⟩),
  (112, ⟨.slice 52, 1, 24, (.slice none 0 0)⟩),
  (113, ⟨.func #[25, 3] #[25, 27] false, 1, 8, .nilFunc⟩),
  (115, ⟨.func #[25, 9] #[25, 4] false, 1, 8, .nilFunc⟩),
  (116, ⟨.func #[25, 25] #[25, 27] false, 1, 8, .nilFunc⟩),
  (118, ⟨.func #[25, 25, 32] #[32, 27] false, 1, 8, .nilFunc⟩),
  (119, ⟨.func #[9] #[12] false, 1, 8, .nilFunc⟩),
  (120, ⟨.array 256 5, 256, 256, (.agg #[(.int .u8 0), (.int .u8 0), (.int .u8 0), (.int .u8 0), (.int .u8 0), (.int .u8 0), (.int .u8 0), (.int .u8 0), (.int .u8 0), (.int .u8 0), (.int .u8 0), (.int .u8 0), (.int .u8 0), (.int .u8 0), (.int .u8 0), (.int .u8 0), (.int .u8 0), (.int .u8 0), (.int .u8 0), (.int .u8 0), (.int .u8 0), (.int .u8 0), (.int .u8 0), (.int .u8 0), (.int .u8 0), (.int .u8 0), (.int .u8 0), (.int .u8 0), (.int .u8 0), (.int .u8 0), (.int .u8 0), (.int .u8 0), (.int .u8 0), (.int .u8 0), (.int .u8 0), (.int .u8 0), (.int .u8 0), (.int .u8 0), (.int .u8 0), (.int .u8 0), (.int .u8 0), (.int .u8 0), (.int .u8 0), (.int .u8 0), (.int .u8 0), (.int .u8 0), (.int .u8 0), (.int .u8 0), (.int .u8 0), (.int .u8 0), (.int .u8 0), (.int .u8 0), (.int .u8 0), (.int .u8 0), (.int .u8 0), (.int .u8 0), (.int .u8 0), (.int .u8 0), (.int .u8 0), (.int .u8 0), (.int .u8 0), (.int .u8 0), (.int .u8 0), (.int .u8 0), (.int .u8 0), (.int .u8 0), (.int .u8 0), (.int .u8 0), (.int .u8 0), (.int .u8 0), (.int .u8 0), (.int .u8 0), (.int .u8 0), (.int .u8 0), (.int .u8 0), (.int .u8 0), (.int .u8 0), (.int .u8 0), (.int .u8 0), (.int .u8 0), (.int .u8 0), (.int .u8 0), (.int .u8 0), (.int .u8 0), (.int .u8 0), (.int .u8 0), (.int .u8 0), (.int .u8 0), (.int .u8 0), (.int .u8 0), (.int .u8 0), (.int .u8 0), (.int .u8 0), (.int .u8 0), (.int .u8 0), (.int .u8 0), (.int .u8 0), (.int .u8 0), (.int .u8 0), (.int .u8 0), (.int .u8 0), (.int .u8 0), (.int .u8 0), (.int .u8 0), (.int .u8 0), (.int .u8 0), (.int .u8 0), (.int .u8 0), (.int .u8 0), (.int .u8 0), (.int .u8 0), (.int .u8 0), (.int .u8 0), (.int .u8 0), (.int .u8 0), (.int .u8 0), (.int .u8 0), (.int .u8 0), (.int .u8 0), (.int .u8 0), (.int .u8 0), (.int .u8 0), (.int .u8 0), (.int .u8 0), (.int .u8 0), (.int .u8 0), (.int .u8 0), (.int .u8 0), (.int .u8 0), (.int .u8 0), (.int .u8 0), (.int .u8 0), (.int .u8 0), (.int .u8 0), (.int .u8 0), (.int .u8 0), (.int .u8 0), (.int .u8 0), (.int .u8 0), (.int .u8 0), (.int .u8 0), (.int .u8 0), (.int .u8 0), (.int .u8 0), (.int .u8 0), (.int .u8 0), (.int .u8 0), (.int .u8 0), (.int .u8 0), (.int .u8 0), (.int .u8 0), (.int .u8 0), (.int .u8 0), (.int .u8 0), (.int .u8 0), (.int .u8 0), (.int .u8 0), (.int .u8 0), (.int .u8 0), (.int .u8 0), (.int .u8 0), (.int .u8 0), (.int .u8 0), (.int .u8 0), (.int .u8 0), (.int .u8 0), (.int .u8 0), (.int .u8 0), (.int .u8 0), (.int .u8 0), (.int .u8 0), (.int .u8 0), (.int .u8 0), (.int .u8 0), (.int .u8 0), (.int .u8 0), (.int .u8 0), (.int .u8 0), (.int .u8 0), (.int .u8 0), (.int .u8 0), (.int .u8 0), (.int .u8 0), (.int .u8 0), (.int .u8 0), (.int .u8 0), (.int .u8 0), (.int .u8 0), (.int .u8 0), (.int .u8 0), (.int .u8 0), (.int .u8 0), (.int .u8 0), (.int .u8 0), (.int .u8 0), (.int .u8 0), (.int .u8 0), (.int .u8 0), (.int .u8 0), (.int .u8 0), (.int .u8 0), (.int .u8 0), (.int .u8 0), (.int .u8 0), (.int .u8 0), (.int .u8 0), (.int .u8 0), (.int .u8 0), (.int .u8 0), (.int .u8 0), (.int .u8 0), (.int .u8 0), (.int .u8 0), (.int .u8 0), (.int .u8 0), (.int .u8 0), (.int .u8 0), (.int .u8 0), (.int .u8 0), (.int .u8 0), (.int .u8 0), (.int .u8 0), (.int .u8 0), (.int .u8 0), (.int .u8 0), (.int .u8 0), (.int .u8 0), (.int .u8 0), (.int .u8 0), (.int .u8 0), (.int .u8 0), (.int .u8 0), (.int .u8 0), (.int .u8 0), (.int .u8 0), (.int .u8 0), (.int .u8 0), (.int .u8 0), (.int .u8 0), (.int .u8 0), (.int .u8 0), (.int .u8 0), (.int .u8 0), (.int .u8 0), (.int .u8 0), (.int .u8 0), (.int .u8 0), (.int .u8 0), (.int .u8 0), (.int .u8 0), (.int .u8 0), (.int .u8 0), (.int .u8 0), (.int .u8 0), (.int .u8 0), (.int .u8 0)])⟩),
  (121, ⟨.struct #[⟨"lo", 5, 0, false, "", "unicode/utf8", 0⟩, ⟨"hi", 5, 1, false, "", "unicode/utf8", 1⟩], 2, 2, (.agg #[(.int .u8 0), (.int .u8 0)])⟩),
  (122, ⟨.struct #[⟨"lo", 5, 0, false, "", "unicode/utf8", 0⟩, ⟨"hi", 5, 1, false, "", "unicode/utf8", 1⟩], 2, 2, (.agg #[(.int .u8 0), (.int .u8 0)])⟩),
  (123, ⟨.array 16 122, 32, 32, (.agg #[(.int .u8 0), (.int .u8 0), (.int .u8 0), (.int .u8 0), (.int .u8 0), (.int .u8 0), (.int .u8 0), (.int .u8 0), (.int .u8 0), (.int .u8 0), (.int .u8 0), (.int .u8 0), (.int .u8 0), (.int .u8 0), (.int .u8 0), (.int .u8 0), (.int .u8 0), (.int .u8 0), (.int .u8 0), (.int .u8 0), (.int .u8 0), (.int .u8 0), (.int .u8 0), (.int .u8 0), (.int .u8 0), (.int .u8 0), (.int .u8 0), (.int .u8 0), (.int .u8 0), (.int .u8 0), (.int .u8 0), (.int .u8 0)])⟩),
  (124, ⟨.int .u64, 1, 8, (.int .u64 0)⟩),
  (125, ⟨.func #[21] #[4] false, 1, 8, .nilFunc⟩),
  (126, ⟨.func #[54, 9] #[3] false, 1, 8, .nilFunc⟩),
  (127, ⟨.func #[9] #[3] false, 1, 8, .nilFunc⟩),
  (129, ⟨.func #[9] #[21, 3] false, 1, 8, .nilFunc⟩),
  (130, ⟨.func #[9, 5] #[3] false, 1, 8, .nilFunc⟩),
  (132, ⟨.func #[131] #[131] false, 1, 8, .nilFunc⟩),
  (133, ⟨.func #[3] #[87] false, 1, 8, .nilFunc⟩),
  (134, ⟨.func #[25, 3, 25] #[25, 27] false, 1, 8, .nilFunc⟩),
  (135, ⟨.func #[32] #[32] false, 1, 8, .nilFunc⟩),
  (136, ⟨.func #[3] #[3] false, 1, 8, .nilFunc⟩),
  (137, ⟨.func #[25, 3] #[3] false, 1, 8, .nilFunc⟩),
  (138, ⟨.int .u32, 1, 4, (.int .u32 0)⟩),
  (140, ⟨.func #[9] #[138, 138] false, 1, 8, .nilFunc⟩),
  (146, ⟨.func #[] #[3] false, 1, 8, .nilFunc⟩),
  (149, ⟨.func #[131, 131] #[4] false, 1, 8, .nilFunc⟩)]
theorem aEC : (tab.map fun p => some p.2.desc) = tab.map fun p => Tryz.prog.underlying p.1 := by kernel_rfl
theorem aED : (tab.map fun p => some (p.2.size, p.2.bytes, some p.2.zero)) = tab.map fun p => (Tryz.prog.info? p.1).map fun j => (j.size, j.bytes, j.zero) := by kernel_rfl
theorem tabOk : TabOk Tryz.prog tab := aCf aEC aED
theorem mixed : Tryz.prog.follows .mixedOrders = true := by kernel_rfl
end Go.Proofs.YtocaohipfiapkaaGreatDoor.Ab
namespace Go.Proofs.YtocaohipfiapkaaGreatDoor.Ab
set_option linter.unusedVariables false
set_option linter.unusedSimpArgs false
open Go.RowKit
def zeroL (z : List Value) : Nat → List AV
  | 0 => []
  | k + 1 => z.map (fun v => AV.imm (.lit v)) ++ zeroL z k
theorem kT (z : List Value) : ∀ k, (zeroL z k).length = k * z.length
  | 0 => by simp [zeroL]
  | k + 1 => by simp [zeroL, kT z k, Nat.add_mul, Nat.add_comm]
theorem tB (z : Array Value) (hz : z.size ≠ 0) : ∀ (k i : Nat) (h : i < (zeroL z.toList k).length), (zeroL z.toList k)[i] = AV.imm (.lit (z[i % z.size]!))
  | 0, i, h => by simp [zeroL] at h
  | k + 1, i, h => by
    simp only [zeroL]
    by_cases hi : i < z.size
    · rw [List.getElem_append_left (by simpa using hi)]
      simp [Nat.mod_eq_of_lt hi, hi]
    · rw [List.getElem_append_right (by simpa using hi)]
      have hlen : i - z.size < (zeroL z.toList k).length := by
        have := kT z.toList (k + 1)
        have := kT z.toList k
        simp only [zeroL, List.length_append, List.length_map, Array.length_toList] at *
        omega
      have ih := tB z hz k (i - z.size) hlen
      simp only [List.length_map, Array.length_toList]
      rw [ih, show i % z.size = (i - z.size) % z.size from Nat.mod_eq_sub_mod (by omega)]
theorem uN (z : Array Value) (hz : z.size ≠ 0) (k : Nat) : zeroCellsA z (k * z.size) = zeroL z.toList k := by
  apply List.ext_getElem
  · simp [zeroCellsA, kT]
  · intro i h1 h2
    rw [tB z hz k i h2]
    simp [zeroCellsA]
section
variable {P : Program} {T : Tab} {keep : List Nat} {N : Nat} {ops : Array Oper} {K : List Foot → SF → Prop} {o : Oper} {rest : List Oper} {ks : List Foot} {s : List (Nat × AV)} {m : Mem} {d : Nat}
/-- The operations that a walk computes at sight. -/
def quiet : Op → Bool
  | .move _ | .assign _ | .pick .. | .nilCheck _ | .extract .. | .unOp .. | .fieldAddr .. | .load .. | .makeFunc .. => true
  | _ => false
theorem aB (hT : TabOk P T) {r : AV} (hq : quiet o.op = true) (hw : wantedA ops o (S.f ⟨s, m⟩) = some true) (hd : o.dst = some d) (hN : d < N) (h : pureOp T (S.f ⟨s, m⟩).ev o.op = some r) (k : AOps P keep N ops K rest (kNo :: ks) (S.f ⟨(d, r) :: s, m⟩)) : AOps P keep N ops K (o :: rest) ks (S.f ⟨s, m⟩) := aT hT hw hd hN h k
/-- A list of what is told. -/
theorem bS (hT : TabOk P T) {t e len sz by_ : Nat} {z : Value} {ei : TI} {parts : Array (Nat × Operand)} {ps : List (Nat × AV)} {rs : List AV} {cs : List IV} (ho : o.op = .buildSlice t len parts) (hw : wantedA ops o (S.f ⟨s, m⟩) = some true) (hd : o.dst = some d) (hN : d < N)
    (ht : T.at t = some ⟨.slice e, sz, by_, z⟩) (he : T.at e = some ei) (hz : ei.zero.cells.toList.all (·.oneCell') = true) (hzs : ei.zero.cells.size = ei.size) (hsz : Nat.ble 1 ei.size = true) (hlen : Nat.ble (len * ei.size) 16777216 = true) (hps : evParts (S.f ⟨s, m⟩).ev parts.toList = some ps)
    (hf : fillA (fun i => some (i * ei.size, ei.size)) (zeroL ei.zero.cells.toList len) ps = some rs) (hcs : immL rs = some cs) (k : AOps P keep N ops K rest (kNo :: ks) (S.f ⟨(d, .imm (.sl true len cs)) :: s, m⟩)) : AOps P keep N ops K (o :: rest) ks (S.f ⟨s, m⟩) := by
  have h1 := Nat.le_of_ble_eq_true hsz
  refine dK hw hd hN (jH hT ho ht rfl he hz hzs (by omega) (Nat.le_of_ble_eq_true hlen) hps ?_ hcs) k
  rw [← hzs, uN _ (by omega), hzs]
  exact hf
/-- l[i:] and the like, told as what it is. -/
theorem eK (hT : TabOk P T) {t e : Nat} {ei : TI} {x : Operand} {lo hi : Option Operand} {f : Bool} {n sz by_ l h : Nat} {z : Value} {cs : List IV} {r : IV} (ho : o.op = .slice t x lo hi none) (hw : wantedA ops o (S.f ⟨s, m⟩) = some true) (hd : o.dst = some d) (hN : d < N) (ht : T.at t = some ⟨.slice e, sz, by_, z⟩) (he : T.at e = some ei)
    (hx : (S.f ⟨s, m⟩).ev x = some (.imm (.sl f n cs))) (hl : bnd (S.f ⟨s, m⟩).ev lo 0 l) (hh : bnd (S.f ⟨s, m⟩).ev hi n h) (h1 : l ≤ h) (h2 : h ≤ n) (hr : IV.sl false (h - l) ((cs.drop (l * ei.size)).take ((h - l) * ei.size)) = r)
    (k : AOps P keep N ops K rest (kNo :: ks) (S.f ⟨(d, .imm r) :: s, m⟩)) : AOps P keep N ops K (o :: rest) ks (S.f ⟨s, m⟩) := by
  obtain ⟨hu, _⟩ := hT _ _ ht
  obtain ⟨_, jj, hjj, e1, _⟩ := hT _ _ he
  subst hr
  exact dK hw hd hN (aAP hu hjj e1 ho hx hl hh h1 h2) k
/-- s[i:j]. -/
theorem mQ (hT : TabOk P T) {t : Nat} {x : Operand} {lo hi : Option Operand} {a r : ByteArray} {sz by_ l h : Nat} {z : Value} (ho : o.op = .slice t x lo hi none) (hw : wantedA ops o (S.f ⟨s, m⟩) = some true) (hd : o.dst = some d) (hN : d < N) (ht : T.at t = some ⟨.string, sz, by_, z⟩)
    (hx : (S.f ⟨s, m⟩).ev x = some (.imm (.lit (.string a)))) (hl : bnd (S.f ⟨s, m⟩).ev lo 0 l) (hh : bnd (S.f ⟨s, m⟩).ev hi a.size h) (h1 : l ≤ h) (h2 : h ≤ a.size) (hr : a.extract l h = r)
    (k : AOps P keep N ops K rest (kNo :: ks) (S.f ⟨(d, .imm (.lit (.string r))) :: s, m⟩)) : AOps P keep N ops K (o :: rest) ks (S.f ⟨s, m⟩) := by
  subst hr
  exact dK hw hd hN (nP (hT _ _ ht).1 ho hx hl hh h1 h2) k
/-- A list with more behind it, made anew. -/
theorem pM (hT : TabOk P T) {t e n j sz by_ : Nat} {z : Value} {ei : TI} {sx x : Operand} {f : Bool} {cs ys zs : List IV} (ho : o.op = .call { callee := .builtin .append, args := #[sx, x], argTypes := #[t, t] }) (hw : wantedA ops o (S.f ⟨s, m⟩) = some true) (hd : o.dst = some d) (hN : d < N)
    (ht : T.at t = some ⟨.slice e, sz, by_, z⟩) (he : T.at e = some ei) (hzs : ei.zero.cells.size = ei.size) (hsz : Nat.ble 1 ei.size = true)
    (hs : (S.f ⟨s, m⟩).ev sx = some (.imm (.sl true n cs)) ∨ ((S.f ⟨s, m⟩).ev sx = some (.imm (.lit (.slice none 0 0))) ∧ n = 0 ∧ cs = [])) (hcs : cs.length = n * ei.size) (hx : (S.f ⟨s, m⟩).ev x = some (.imm (.sl f j ys))) (hj : 0 < j) (hl : ys.length = j * ei.size) (hlim : n + j ≤ 17592186044416) (hby : (n + j) * ei.bytes ≤ 140737488355328) (hr : cs ++ ys = zs)
    (k : AOps P keep N ops K rest (kNo :: ks) (S.f ⟨(d, .imm (.sl false (n + j) zs)) :: s, m⟩)) : AOps P keep N ops K (o :: rest) ks (S.f ⟨s, m⟩) := by
  subst hr
  exact dK hw hd hN (pL hT ho ht rfl he hzs (Nat.le_of_ble_eq_true hsz) hs hcs hx hj hl hlim hby) k
theorem hZ {ts : Array TypeId} {kd : IntKind} {a b r : Int} {x y : Operand} (ho : o.op = .call { callee := .builtin .min, args := #[x, y], argTypes := ts }) (hw : wantedA ops o (S.f ⟨s, m⟩) = some true) (hd : o.dst = some d) (hN : d < N) (hx : (S.f ⟨s, m⟩).ev x = some (.imm (.lit (.int kd a)))) (hy : (S.f ⟨s, m⟩).ev y = some (.imm (.lit (.int kd b)))) (hr : (if b < a then b else a) = r)
    (k : AOps P keep N ops K rest (kNo :: ks) (S.f ⟨(d, .imm (.lit (.int kd r))) :: s, m⟩)) : AOps P keep N ops K (o :: rest) ks (S.f ⟨s, m⟩) := by
  subst hr
  exact dK hw hd hN (aDs ho hx hy) k
end
end Go.Proofs.YtocaohipfiapkaaGreatDoor.Ab
namespace Go.Proofs.YtocaohipfiapkaaGreatDoor.Ab
set_option linter.unusedVariables false
set_option linter.unusedSimpArgs false
open Go.RowKit
theorem RepAL.put {w : World} {M : Nat → Prop} {β : Nat → Value} {x : AV} : ∀ {xs : List AV} {vs : List Value} (k : Nat), RepAL w M β xs vs → (∀ v, vs[k]? = some v → RepA w M β x v) → RepAL w M β (xs.set k x) vs
  | [], [], k, _, _ => by simp [RepAL]
  | y :: xs, u :: vs, 0, hr, h => by rw [RepAL] at hr; rw [List.set, RepAL]; exact ⟨h u rfl, hr.2⟩
  | y :: xs, u :: vs, k + 1, hr, h => by rw [RepAL] at hr; rw [List.set, RepAL]; exact ⟨hr.1, RepAL.put k hr.2 (fun v hv => h v hv)⟩
  | [], v :: vs, _, hr, _ => by rw [RepAL] at hr; exact hr.elim
  | x :: xs, [], _, hr, _ => by rw [RepAL] at hr; exact hr.elim
theorem fH {keep : List Nat} {N k0 h0 : Nat} {cs : List AV} {s : List (Nat × AV)} {m : Mem} (g e z : Nat) (ht : m.get h0 = some (.cells cs)) (hc : cs[k0]? = some (.imm (.lit (.slice none 0 0)))) (hk : g ∉ keep) (hs : freshS g s = true) (hm : freshM g m = true) :
    Imp keep N (S.f ⟨s, m⟩) (S.f ⟨s, (g, .arr e z 0 []) :: m.put h0 (.cells (cs.set k0 (.ref g 0)))⟩) := by
  intro C hC1 hC2 a w ⟨M, β, hh0⟩
  have h := hh0.named g (.slice none 0 0) (by rw [hC1]; exact hk) hs hm
  have eg : (fun n => if n = g then (Value.slice none 0 0) else β n) g = .slice none 0 0 := by simp
  generalize (fun n => if n = g then (Value.slice none 0 0) else β n) = β' at h eg
  obtain ⟨f1, f2⟩ := eV hm
  have key : ∀ k o, Mem.get ((g, .arr e z 0 []) :: m.put h0 (.cells (cs.set k0 (.ref g 0)))) k = some o → (k = g ∧ o = .arr e z 0 []) ∨ (k ≠ g ∧ ∃ o', m.get k = some o' ∧ ((k = h0 ∧ o = .cells (cs.set k0 (.ref g 0))) ∨ o = o')) := fun k o ho => by
    simp only [Mem.get] at ho
    split at ho
    · rename_i e; cases ho; exact .inl ⟨e.symm, rfl⟩
    · rename_i e
      rw [pO (by rw [ht]; simp)] at ho
      refine .inr ⟨fun e2 => e e2.symm, ?_⟩
      split at ho
      · rename_i e2; cases ho; exact ⟨.cells cs, by rw [e2]; exact ht, .inl ⟨e2, rfl⟩⟩
      · exact ⟨o, ho, .inr rfl⟩
  refine ⟨M, β', h.amb, h.size, h.defers, fun t' x hx => h.slots t' x hx, ⟨fun k o ho => ?_, fun k k' o o' b h1 h2 hne hb => ?_⟩, h.ev, h.keepn, fun b hb => ?_⟩
  · rcases key k o ho with ⟨rfl, rfl⟩ | ⟨_, o', ho', ho⟩
    · exact ⟨[], by rw [eg]; exact World.ownsRow_nil w 0 e z, rfl, by simp [RepL], Nat.zero_le _, fun b hb => by rw [eg] at hb; cases hb⟩
    · rcases ho with ⟨rfl, rfl⟩ | rfl
      · obtain ⟨b, vs, T, e1, e2, e3, e4, e5⟩ := h.mem.ok k _ ht
        refine ⟨b, vs, T, e1, e2, e3, ?_, e5.put k0 fun v hv => ?_⟩
        · rw [List.all_eq_true] at e4 ⊢
          intro x hx
          rcases List.mem_or_eq_of_mem_set hx with hx | rfl
          · exact e4 x hx
          · rfl
        · obtain ⟨u, hu, hr⟩ := e5.get k0 _ hc
          rw [hv] at hu
          cases hu
          rw [RepA, Rep] at hr
          rw [RepA, eg, hr.1]
          exact ⟨Nat.le_refl _, fun _ => rfl, rfl⟩
      · exact h.mem.ok k o ho'
  · rcases key k o h1 with ⟨rfl, rfl⟩ | ⟨_, o1, h1, _⟩
    · rw [eg] at hb; cases hb
    · rcases key k' o' h2 with ⟨rfl, rfl⟩ | ⟨_, o2, h2, _⟩
      · rw [eg]; simp [blk]
      · exact h.mem.apart k k' o1 o2 b h1 h2 hne hb
  · obtain ⟨k, o, ho, hb⟩ := hb
    rcases key k o ho with ⟨rfl, rfl⟩ | ⟨_, o', ho', _⟩
    · rw [eg] at hb; cases hb
    · exact h.mine b ⟨k, o', ho', hb⟩
end Go.Proofs.YtocaohipfiapkaaGreatDoor.Ab
namespace Go.Proofs.YtocaohipfiapkaaGreatDoor.Ab
set_option linter.unusedVariables false
set_option linter.unusedSimpArgs false
open Go.RowKit
section
variable {P : Program} {T : Tab} {o : Oper} {vals : Operand → Option AV}
theorem vX {w : World} {M : Nat → Prop} {v : Value} (h : v.oneCell' = true) : ∀ n, RepL w M (List.replicate n (.lit v)) (List.replicate n v)
  | 0 => by simp [RepL]
  | n + 1 => by rw [List.replicate_succ, List.replicate_succ, RepL, Rep]; exact ⟨⟨rfl, h⟩, vX h n⟩
theorem sR (hT : TabOk P T) {t e n sz by_ : Nat} {z v : Value} {x y : Operand} {ei : TI} (g : Nat) (ho : o.op = .makeSlice t x y) (ht : T.at t = some ⟨.slice e, sz, by_, z⟩) (he : T.at e = some ei) (hc : ei.zero.cells = #[v]) (hs : ei.size = 1) (h1 : v.oneCell' = true)
    (hx : vals x = some (.imm (.lit (.int .i64 (n : Int))))) (hy : vals y = some (.imm (.lit (.int .i64 (n : Int))))) (hn : n ≤ slMax) (hb : ei.bytes * n ≤ 281474976710656) : OpT P o vals (fun _ => none) (.ref g n) (one g (.arr e 1 n (List.replicate n (.lit v)))) := by
  intro w M β ρ hamb hm hv
  have a1 := hv x (by simp [ho, Op.operands]) _ hx
  have a2 := hv y (by simp [ho, Op.operands]) _ hy
  rw [RepA, Rep] at a1 a2
  obtain ⟨hu, _⟩ := hT _ _ ht
  obtain ⟨_, j, hj, e1, e2, e3⟩ := hT _ _ he
  obtain ⟨w', hrun, hown, hgr⟩ := run_make_full (P := P) w 0 t e j ei.zero 1 hu hj e3 (by rw [e1, hs]) .i64 .i64 n (by rw [e2]; exact hb) (by simp only [slMax] at hn; simp only [maxLen]; omega) (Nat.zero_le _)
  have hex : (execOp ρ o).run P w = .ok (.value (.slice (some ⟨w.heap.size, 0, none⟩) n n)) w' := by
    unfold execOp
    simp only [ho, a1.1, a2.1, Sem.run_bind, hrun, Result.andThen_ok, Sem.run_pure]
  rw [hex]
  rw [Nat.mul_one, hc, toList_madeCells_one] at hown
  let M' : Nat → Prop := fun b => (b < w.heap.size ∧ M b) ∨ b = w.heap.size
  let β' : Nat → Value := fun k => if k = g then .slice (some ⟨w.heap.size, 0, none⟩) n n else β k
  have eg : β' g = .slice (some ⟨w.heap.size, 0, none⟩) n n := by simp [β']
  refine ⟨M', β', ?_, dM ⟨List.replicate n v, by rw [eg]; exact hown, ?_, vX h1 n, hn, fun b hb => ?_⟩, ⟨hgr.os, hgr.tape, hgr.output, hgr.size, fun b hb _ => ⟨hgr.block b hb (by simp), ⟨fun h => by rcases h with h | h <;> first | exact h.2 | omega, fun h => .inl ⟨hb, h⟩⟩⟩⟩, fun k hk1 hk2 => ?_, fun k hk => absurd rfl hk, fun b hb => ?_⟩
  · rw [RepA, eg]; exact ⟨Nat.le_refl _, fun _ => rfl, rfl⟩
  · rw [List.all_eq_true]; intro q hq; rw [List.eq_of_mem_replicate hq]; rfl
  · rw [eg] at hb; simp only [blk, Option.some.injEq] at hb; exact .inr hb.symm
  · have : k ≠ g := fun e => by subst e; rw [cQ] at hk2; cases hk2
    simp [β', this]
  · rw [dF, eg] at hb
    simp only [blk, Option.some.injEq] at hb
    right; omega
end
end Go.Proofs.YtocaohipfiapkaaGreatDoor.Ab
namespace Go.Proofs.YtocaohipfiapkaaGreatDoor.Ab
set_option linter.unusedVariables false
set_option linter.unusedSimpArgs false
open Go.RowKit
section
variable {P : Program} {T : Tab} {o : Oper} {vals : Operand → Option AV}
/-- A slice of one's own that has elements lies in a block. -/
theorem lR {w : World} {e z n : Nat} {v : Value} {xs : List Value} (h : w.ownsRow 0 e z v n xs) (hn : 0 < n) : ∃ g cap cur, v = .slice (some ⟨g, 0, none⟩) n cap ∧ w.heap[g]? = some (.cells cur e (0, 0)) ∧ n ≤ cap ∧ cur.size = cap * z ∧ cur.toList.take (n * z) = xs := by
  rcases h.2 with ⟨_, h0⟩ | ⟨g, cap, cur, hv, _, hh, hnc, _, hcs, ht⟩
  · omega
  · exact ⟨g, cap, cur, hv, hh, hnc, hcs, ht⟩
theorem uO {t e g n z j : Nat} {k : Int} {x i : Operand} {ti : TypeInfo} {cs : List IV} (hu : P.underlying t = some (.slice e)) (hi : P.info? e = some ti) (hz : ti.size = z) (ho : o.op = .indexAddr t x i)
    (hx : vals x = some (.ref g n)) (hk : vals i = some (.imm (.lit (.int .i64 k)))) (hj : k = (j : Int)) (hlt : j < n) : OpT P o vals (one g (.arr e z n cs)) (.el g n (j * z)) (one g (.arr e z n cs)) :=
  OpT.reads fun w M β ρ hob hv => by
    have h1 := hv x (by simp [ho, Op.operands]) _ hx
    have h2 := hv i (by simp [ho, Op.operands]) _ hk
    rw [RepA] at h1
    rw [RepA, Rep] at h2
    obtain ⟨xs, hown, _⟩ := hob
    obtain ⟨b, cap, cur, hb, hh, hnc, hcs, htk⟩ := lR hown (by omega)
    have hlen : vlen (β g) = n := by rw [hb]; rfl
    have hxv := h1.2.1 hlen
    rw [hb] at hxv
    refine ⟨.pointer (some ⟨b, j * z, none⟩), ?_, by rw [RepA]; exact ⟨by rw [hlen]; exact Nat.le_refl _, fun _ => ⟨b, by rw [hb]; rfl, rfl⟩, rfl⟩⟩
    subst hj
    subst hz
    have : (0 : Int) ≤ (j : Int) ∧ (j : Int) < (n : Int) := ⟨by omega, by omega⟩
    unfold execOp
    simp [ho, hxv, h2.1, Instr.indexAt, asIntOf, run_underlying hu, sizeOf, typeInfo, hi, hlt, Addr.add_mid, Addr.add]
    try omega
theorem yK (hT : TabOk P T) {t e g n z k : Nat} {ti : TI} {x : Operand} {cs : List IV} {y : IV} (ho : o.op = .load t x) (ht : T.at t = some ti) (hr : ti.desc.isRow = false) (hx : vals x = some (.el g n k)) (hn : 0 < n) (hy : cs[k]? = some y) :
    OpT P o vals (one g (.arr e z n cs)) (.imm y) (one g (.arr e z n cs)) :=
  OpT.reads fun w M β ρ hob hv => by
    have h1 := hv x (by simp [ho, Op.operands]) _ hx
    rw [RepA] at h1
    obtain ⟨xs, hown, h2, h3, _⟩ := hob
    obtain ⟨b, cap, cur, hb, hh, hnc, hcs, htk⟩ := lR hown hn
    have hlen : vlen (β g) = n := by rw [hb]; rfl
    obtain ⟨b', hb', e1⟩ := h1.2.1 hlen
    rw [hb] at hb'
    simp only [blk, Option.some.injEq] at hb'
    subst hb'
    obtain ⟨u, hu, hru⟩ := h3.get k y hy
    have hc : w.cell? ⟨b, k, none⟩ = some u := by
      rw [cell_of_row w b k cur e (0, 0) hh]
      rw [← htk] at hu
      rw [List.getElem?_take] at hu
      split at hu
      · simpa using hu
      · cases hu
    refine ⟨u, ?_, by rw [RepA]; exact hru⟩
    unfold execOp
    simp only [ho, e1, Sem.run_bind, iI w (hT _ _ ht).1 hr b k hc, Result.andThen_ok, Sem.run_pure]
end
end Go.Proofs.YtocaohipfiapkaaGreatDoor.Ab
namespace Go.Proofs.YtocaohipfiapkaaGreatDoor.Ab
set_option linter.unusedVariables false
set_option linter.unusedSimpArgs false
open Go.RowKit
def Mold (w : World) (M : Nat → Prop) : Nat → Prop := fun b => b < w.heap.size ∧ M b
theorem aCj {w : World} {M : Nat → Prop} {b : Nat} (h : w.heap.size ≤ b) : ¬ Mold w M b := fun hm => by have := hm.1; omega
theorem nR {P : Program} {f : FuncId} {args : List IV} {r : IV} (he : Enters P f)
    (h : ∀ w M vs, Amb w M → RepL w M args vs → Calls P f vs.toArray w fun e w' => ∃ v, e = .returned v ∧ Below w.heap.size w w' ∧ Rep w' (Mold w M) r v) :
    ACalls P f (args.map .imm) [] (.imm r) [] := by
  refine ⟨he, fun w M β vs hamb hm hv => ?_⟩
  refine (h w M vs hamb (RepAL.imm.2 hv)).mono fun e w' ⟨v, hev, hb, hr⟩ => ⟨v, hev, Mold w M, β, ?_, ?_, ?_, fun _ _ _ => rfl, fun g hg => absurd rfl hg, ?_⟩
  · rw [RepA]; exact hr
  · exact ⟨fun g o hg => (by cases hg), fun g g' o o' b hg => (by cases hg)⟩
  · exact ⟨hb.os, hb.tape, hb.output, hb.size, fun b hlt _ => ⟨hb.block b hlt, ⟨fun h => h.2, fun h => ⟨hlt, h⟩⟩⟩⟩
  · intro b ⟨g, o, hg, _⟩; cases hg
theorem iA {w : World} {M : Nat → Prop} {x : IV} {xs : List IV} {vs : List Value} (h : RepL w M (x :: xs) vs) : ∃ v us, vs = v :: us ∧ Rep w M x v ∧ RepL w M xs us := by
  match vs, h with
  | v :: us, h => rw [RepL] at h; exact ⟨v, us, rfl, h.1, h.2⟩
theorem qL {w : World} {M : Nat → Prop} {vs : List Value} (h : RepL w M [] vs) : vs = [] := by
  match vs, h with
  | [], _ => rfl
theorem kU {w : World} {M : Nat → Prop} {u v : Value} (h : Rep w M (.lit u) v) : v = u := by rw [Rep] at h; exact h.1
theorem iK {w : World} {M : Nat → Prop} {v : Value} (h : v.oneCell' = true) : Rep w M (.lit v) v := by rw [Rep]; exact ⟨rfl, h⟩
/-- A slice of values that hang on nothing, in a row of cells of its own. -/
theorem mR {w : World} {M : Nat → Prop} : ∀ {l : List Value}, l.all (·.oneCell') = true → RepL w M (l.map .lit) l
  | [], _ => by simp [RepL]
  | v :: l, h => by
    simp only [List.all_cons, Bool.and_eq_true] at h
    rw [List.map_cons, RepL]
    exact ⟨iK h.1, mR h.2⟩
theorem iL {w : World} {M : Nat → Prop} : ∀ {l us : List Value}, RepL w M (l.map .lit) us → us = l
  | [], us, h => qL h
  | v :: l, us, h => by
    rw [List.map_cons] at h
    obtain ⟨u, us', rfl, h1, h2⟩ := iA h
    rw [kU h1, iL h2]
/-- A slice of strings that came in: where it lies. -/
def strs (l : List ByteArray) : List IV := l.map fun s => .lit (.string s)
theorem tC (l : List ByteArray) : strs l = (l.map Value.string).map .lit := by simp [strs]
theorem aCk {w : World} {M : Nat → Prop} {f : Bool} {l : List ByteArray} {v : Value} (h : Rep w M (.sl f l.length (strs l)) v) :
    ∃ a cap, v = .slice a l.length cap ∧ l.length ≤ cap ∧ l.length ≤ slMax ∧ ((l = [] ) ∨ ∃ b o, a = some ⟨b, o, none⟩ ∧ b < w.heap.size ∧ ∀ (j : Nat) x, l[j]? = some x → w.cell? ⟨b, o + j, none⟩ = some (.string x)) := by
  rw [Rep] at h
  obtain ⟨a, cap, rfl, hc, _, _, hn, _, h⟩ := h
  refine ⟨a, cap, rfl, hc, hn, ?_⟩
  rcases h with ⟨h1, h2⟩ | ⟨b, o, vs, T, fz, rfl, hb, _, hr⟩
  · exact .inl (List.eq_nil_of_length_eq_zero h1)
  · refine .inr ⟨b, o, rfl, dE hb, fun j x hj => ?_⟩
    rw [tC] at hr
    have e := iL hr
    rw [List.length_map, List.length_map] at e
    rw [cell_of_row w b (o + j) vs T fz hb]
    have h2 : ((vs.toList.drop o).take l.length)[j]? = some (.string x) := by rw [e, List.getElem?_map, hj]; rfl
    have hjl : j < l.length := (List.getElem?_eq_some_iff.1 hj).1
    rw [List.getElem?_take_of_lt hjl, List.getElem?_drop] at h2
    simpa using h2
/-- A new row of strings. -/
theorem uP {w w' : World} {M : Nat → Prop} {b cap : Nat} {l : List ByteArray} {cells : Array Value} {T : TypeId} {fz : Nat × Nat} (hb : w'.heap[b]? = some (.cells cells T fz)) (hnew : w.heap.size ≤ b)
    (hc : cells.toList.take l.length = l.map Value.string) (hcap : l.length ≤ cap) (hn : l.length ≤ slMax) : Rep w' (Mold w M) (.sl false l.length (strs l)) (.slice (some ⟨b, 0, none⟩) l.length cap) := by
  rw [Rep]
  refine ⟨_, cap, rfl, hcap, (fun h => by cases h), (fun h => by cases h), hn, by simp [strs, List.all_eq_true, IV.one], .inr ⟨b, 0, cells, T, fz, rfl, hb, aCj hnew, ?_⟩⟩
  rw [List.drop_zero, tC, List.length_map, List.length_map, hc]
  exact mR (by simp [List.all_eq_true, Value.oneCell'])
/-- A result, its spare room and whether it is nil forgotten. -/
theorem aCl {P : Program} {σ : SF} {x : ResultVar} {r : AV} (h : ResOk P σ x r) : ResOk P σ x r.nz := fun C a w M β hS => by
  obtain ⟨v, h1, h2⟩ := h C a w M β hS
  exact ⟨v, h1, h2.nz⟩
end Go.Proofs.YtocaohipfiapkaaGreatDoor.Ab
namespace Go.Proofs.YtocaohipfiapkaaGreatDoor.Ab
set_option linter.unusedVariables false
set_option linter.unusedSimpArgs false
open Go.RowKit
def IExit (P : Program) (fn : Func) (r : AV) (e : Exit) (σ : SF) : Prop := ∃ σ', Imp [] fn.ntmps σ σ' ∧ AExit P fn (Mem.get []) r (Mem.get []) e σ'
theorem mS {P : Program} {keep : List Nat} {N : Nat} {Q : Exit → SF → Prop} {σ : SF} {c : Code} (h : AWP P keep N c (fun e σ => ∃ σ', Imp keep N σ σ' ∧ Q e σ') σ) : AWP P keep N c Q σ := fun C h1 h2 a w hR =>
  wp_mono (h C h1 h2 a w hR) fun e a w ⟨σ, ⟨σ', hi, hq⟩, hR⟩ => ⟨σ', hq, hi C h1 h2 a w hR⟩
theorem cK {P : Program} {f : FuncId} {fn : Func} {c : Code} {args : List AV} {r : AV} (hf : P.funcs[f]? = some fn) (hn : (fn.name == "runtime.NumGoroutine") = false) (hb : fn.body = some c)
    (hN : args.length ≤ fn.ntmps) (hk1 : AV.namesL args = [])
    (h : AWP P [] fn.ntmps c (IExit P fn r) (S.f ⟨numbered 0 args, []⟩)) : ACalls P f args [] r [] :=
  aH hf hn hb hN hk1 (mS h)
theorem cN {P : Program} {fn : Func} {r : AV} {e : Exit} {σ : SF} (h : AExit P fn (Mem.get []) r (Mem.get []) e σ) : IExit P fn r e σ := ⟨σ, fun _ _ _ _ _ h => h, h⟩
end Go.Proofs.YtocaohipfiapkaaGreatDoor.Ab
namespace Go.Proofs.YtocaohipfiapkaaGreatDoor.Ab
set_option linter.unusedVariables false
set_option linter.unusedSimpArgs false
open Go.RowKit
section
variable {P : Program} {T : Tab} {o : Oper} {vals : Operand → Option AV}
theorem jB (w : World) (t ty e : TypeId) (i : TypeInfo) (ht : P.underlying t = some (.slice e)) (hi : P.info? e = some i) (a : Option Addr) (n cap : Nat) (hnc : n ≤ cap) (hnone : a = none → n = 0 ∧ cap = 0) (b : Option Addr) (c : Nat) :
    (Builtin.append_ #[t, t] ty #[.slice a n cap, .slice b 0 c]).run P w = .ok (.slice a n cap) w := by
  have hf : (Builtin.firstCells i.size 0 (.slice b 0 c)).run P w = .ok #[] w := by
    cases b with
    | none => simp [Builtin.firstCells]
    | some b => exact run_firstCells_some w i.size 0 b 0 c [] (by simp) (fun j v h => by simp at h)
  cases a with
  | none => obtain ⟨rfl, rfl⟩ := hnone rfl; simp [Builtin.append_, run_underlying ht, sizeOf, typeInfo, hi, Builtin.lenOf, hf]
  | some a => simp [Builtin.append_, run_underlying ht, sizeOf, typeInfo, hi, Builtin.lenOf, hf, hnc, storeCells]
/-- append of nothing. -/
theorem vY (hT : TabOk P T) {t e n : Nat} {ti ei : TI} {sx x : Operand} {f q : Bool} {cs ys : List IV} (ho : o.op = .call { callee := .builtin .append, args := #[sx, x], argTypes := #[t, t] })
    (ht : T.at t = some ti) (hd : ti.desc = .slice e) (he : T.at e = some ei) (hs : vals sx = some (.imm (.sl q n cs))) (hx : vals x = some (.imm (.sl f 0 ys))) :
    OpT P o vals (fun _ => none) (.imm (.sl q n cs)) (fun _ => none) :=
  OpT.pure fun w M β ρ hv => by
    have h1 := hv sx (by simp [ho, Op.operands, Call.operands]) _ hs
    have h2 := hv x (by simp [ho, Op.operands, Call.operands]) _ hx
    refine ⟨ρ sx, ?_, h1⟩
    rw [RepA, Rep] at h1 h2
    obtain ⟨a, cap, ea, hc, hfu, hno, hn, hall, hr⟩ := h1
    obtain ⟨b, c2, eb, _⟩ := h2
    obtain ⟨hu, _⟩ := hT _ _ ht
    rw [hd] at hu
    obtain ⟨_, j, hj, e1, e2, e3⟩ := hT _ _ he
    have hrun := jB (P := P) w t o.type e j hu hj a n cap hc (fun h => by have := hno h; omega) b c2
    unfold execOp
    simp only [ho, resolve, invoke, builtin, Sem.run_bind, Sem.run_pure, Result.andThen_ok, List.map_toArray, List.map_cons, List.map_nil, ea, eb, hrun]
/-- append, of one element or more, to a full list: a row of one's own. -/
theorem yL (hT : TabOk P T) {t e n k : Nat} {ti ei : TI} {sx x : Operand} {f : Bool} {cs ys : List IV} (g : Nat) (ho : o.op = .call { callee := .builtin .append, args := #[sx, x], argTypes := #[t, t] })
    (ht : T.at t = some ti) (hd : ti.desc = .slice e) (he : T.at e = some ei) (hzs : ei.zero.cells.size = ei.size) (hsz : 0 < ei.size)
    (hs : vals sx = some (.imm (.sl true n cs))) (hcs : cs.length = n * ei.size) (hx : vals x = some (.imm (.sl f k ys))) (hk : 0 < k) (hl : ys.length = k * ei.size) (hlim : n + k ≤ slMax) (hby : (n + k) * ei.bytes ≤ 140737488355328) :
    OpT P o vals (fun _ => none) (.ref g (n + k)) (one g (.arr e ei.size (n + k) (cs ++ ys))) := by
  intro w M β ρ hamb hm hv
  have hx1 := hv x (by simp [ho, Op.operands, Call.operands]) _ hx
  rw [RepA] at hx1
  have hys : ys ≠ [] := fun e0 => by
    rw [e0] at hl
    have := Nat.mul_pos hk hsz
    simp at hl
    omega
  obtain ⟨ad, cap, us, hxv, hru, hcells, hone⟩ := qF hx1 hys
  have hy1 : ys.all IV.one = true := by rw [Rep] at hx1; obtain ⟨_, _, _, _, _, _, _, h, _⟩ := hx1; exact h
  obtain ⟨hu, _⟩ := hT _ _ ht
  rw [hd] at hu
  obtain ⟨_, j, hj, e1, e2, e3⟩ := hT _ _ he
  have hlu : us.length = k * j.size := by rw [← hru.length, hl, e1]
  have hsmall : n + k ≤ 9223372036854775807 := by unfold slMax at hlim; omega
  have hmax : n + k ≤ maxLen := by simp only [slMax] at hlim; simp only [maxLen]; omega
  have hsv : (ρ sx = .slice none 0 0 ∧ n = 0 ∧ cs = []) ∨ ∃ ad0 os, ρ sx = .slice (some ad0) n n ∧ RepL w M cs os ∧ (∀ j u, os[j]? = some u → w.cell? (ad0.add j) = some u) ∧ cs.all IV.one = true := by
    have h1 := hv sx (by simp [ho, Op.operands, Call.operands]) _ hs
    rw [RepA, Rep] at h1
    obtain ⟨a, cap0, ea, hc, hfu, hno, hn, hall, hr⟩ := h1
    obtain rfl := hfu rfl
    rcases hr with ⟨rfl, rfl⟩ | ⟨b, off, vs, T', fz, rfl, hb, hMb, hr⟩
    · cases a with
      | none => exact .inl ⟨ea, rfl, rfl⟩
      | some ad0 => exact .inr ⟨ad0, [], ea, by simp [RepL], fun j u hj => by simp at hj, rfl⟩
    · refine .inr ⟨⟨b, off, none⟩, _, ea, hr, fun j u hj => ?_, hall⟩
      rw [Addr.add_mid, cell_of_row w b _ vs T' fz hb]
      simpa using jF hj
  -- what the call yields
  have key : ∃ (os : List Value) (old : Nat), os.length = n * ei.size ∧ RepL w M cs os ∧ cs.all IV.one = true ∧ (Builtin.append_ #[t, t] o.type #[ρ sx, .slice (some ad) k cap]).run P w = .ok (.slice (some ⟨w.heap.size, 0, none⟩) (n + k) (grownCap w (n + k) old e)) (w.drew.alloc (.cells (os.toArray ++ us.toArray ++ Builtin.zeroCells ei.zero.cells (grownCap w (n + k) old e - (n + k))) e)) := by
    rcases hsv with ⟨ea, rfl, rfl⟩ | ⟨ad0, os, ea, hro, hoc, hall⟩
    · have hr := run_append_nil (P := P) w t o.type e j ei.zero hu hj e3 ad k cap us hlu hcells hk (by omega) (by rw [e2]; have hb := hby; simp only [Nat.zero_add] at hb; omega)
      refine ⟨[], 0, by simp, by simp [RepL], rfl, ?_⟩
      rw [ea]
      simpa using hr
    · have hlo : os.length = n * j.size := by rw [← hro.length, hcs, e1]
      have hr := run_append_grow (P := P) w t o.type e j ei.zero hu hj e3 ad0 n n os hlo hoc ad k cap us hlu hcells (by omega) (by omega) (growslice_fits (by omega) (by rw [e2]; exact hby))
      refine ⟨os, n, by rw [← hro.length, hcs], hro, hall, ?_⟩
      rw [ea]
      exact hr
  obtain ⟨os, old, hlo, hro, hall, hrun⟩ := key
  have hge := grownCap_ge w (n + k) old e
  have hcm : grownCap w (n + k) old e ≤ maxLen := grownCap_le_maxLen w (n + k) old e hmax
  generalize grownCap w (n + k) old e = cp at *
  rw [e1] at hlu
  have hlen : (os ++ us).length = (n + k) * ei.size := by rw [List.length_append, hlo, hlu, Nat.add_mul]
  have hown : (w.drew.alloc (.cells (os.toArray ++ us.toArray ++ Builtin.zeroCells ei.zero.cells (cp - (n + k))) e)).ownsRow 0 e ei.size (.slice (some ⟨w.heap.size, 0, none⟩) (n + k) cp) (n + k) (os ++ us) := by
    refine ⟨hlen, .inr ⟨w.heap.size, _, _, rfl, Nat.zero_le _, heap_alloc_new w.drew _, hge, hcm, ?_, ?_⟩⟩
    · simp only [Array.size_append, List.size_toArray, size_zeroCells, hzs, hlo, hlu, ← Nat.add_mul]
      congr 1
      omega
    · simp only [Array.toList_append, List.append_assoc]
      rw [← List.append_assoc, ← hlen]
      exact List.take_left
  have hex : (execOp ρ o).run P w = .ok (.value (.slice (some ⟨w.heap.size, 0, none⟩) (n + k) cp)) (w.drew.alloc (.cells (os.toArray ++ us.toArray ++ Builtin.zeroCells ei.zero.cells (cp - (n + k))) e)) := by
    unfold execOp
    simp only [ho, resolve, invoke, builtin, Sem.run_bind, Sem.run_pure, Result.andThen_ok, List.map_toArray, List.map_cons, List.map_nil, hxv, hrun]
  rw [hex]
  have hbel : Below w.heap.size w (w.drew.alloc (.cells (os.toArray ++ us.toArray ++ Builtin.zeroCells ei.zero.cells (cp - (n + k))) e)) := ((Below.refl _ _).drew).alloc (Nat.le_refl _) _
  let M' : Nat → Prop := fun b => (b < w.heap.size ∧ M b) ∨ b = w.heap.size
  let β' : Nat → Value := fun q => if q = g then .slice (some ⟨w.heap.size, 0, none⟩) (n + k) cp else β q
  have eg : β' g = .slice (some ⟨w.heap.size, 0, none⟩) (n + k) cp := by simp [β']
  have hkp : Keeps w M (w.drew.alloc (.cells (os.toArray ++ us.toArray ++ Builtin.zeroCells ei.zero.cells (cp - (n + k))) e)) M' := fun b hb hmb => ⟨hbel.block b hb, fun h => by rcases h with h | h <;> first | exact hmb h.2 | omega⟩
  refine ⟨M', β', ?_, dM ⟨os ++ us, by rw [eg]; exact hown, by simp [List.all_append, hall, hy1], (RepL.append hro hru).keep hkp, hlim, fun b hb => ?_⟩, ⟨hbel.os, hbel.tape, hbel.output, hbel.size, fun b hb _ => ⟨hbel.block b hb, ⟨fun h => by rcases h with h | h <;> first | exact h.2 | omega, fun h => .inl ⟨hb, h⟩⟩⟩⟩, fun q hk1 hk2 => ?_, fun q hk => absurd rfl hk, fun b hb => ?_⟩
  · rw [RepA, eg]; exact ⟨Nat.le_refl _, fun _ => rfl, rfl⟩
  · rw [eg] at hb; simp only [blk, Option.some.injEq] at hb; exact .inr hb.symm
  · have : q ≠ g := fun e => by subst e; rw [cQ] at hk2; cases hk2
    simp [β', this]
  · rw [dF, eg] at hb
    simp only [blk, Option.some.injEq] at hb
    right; omega
end
section
variable {P : Program} {T : Tab} {keep : List Nat} {N : Nat} {ops : Array Oper} {K : List Foot → SF → Prop} {rest : List Oper} {ks : List Foot} {s : List (Nat × AV)} {m : Mem} {o : Oper} {d : Nat}
theorem uQ (hT : TabOk P T) {t e n sz by_ : Nat} {z : Value} {ei : TI} {sx x : Operand} {f q : Bool} {cs ys : List IV} (ho : o.op = .call { callee := .builtin .append, args := #[sx, x], argTypes := #[t, t] }) (hw : wantedA ops o (S.f ⟨s, m⟩) = some true) (hd : o.dst = some d) (hN : d < N)
    (ht : T.at t = some ⟨.slice e, sz, by_, z⟩) (he : T.at e = some ei) (hs : (S.f ⟨s, m⟩).ev sx = some (.imm (.sl q n cs))) (hx : (S.f ⟨s, m⟩).ev x = some (.imm (.sl f 0 ys)))
    (k : AOps P keep N ops K rest (kNo :: ks) (S.f ⟨(d, .imm (.sl q n cs)) :: s, m⟩)) : AOps P keep N ops K (o :: rest) ks (S.f ⟨s, m⟩) :=
  dK hw hd hN (vY hT ho ht rfl he hs hx) k
end
end Go.Proofs.YtocaohipfiapkaaGreatDoor.Ab
namespace Go.Proofs.YtocaohipfiapkaaGreatDoor.Ab
set_option linter.unusedVariables false
set_option linter.unusedSimpArgs false
open Go.RowKit
section
variable {P : Program} {T : Tab} {o : Oper} {vals : Operand → Option AV}
theorem aCm (l : List Value) (k N : Nat) (v : Value) (hk : k < N) (hN : N ≤ l.length) : (l.take k ++ [v] ++ l.drop (k + 1)).take N = (l.take N).set k v := by
  have e : l.take k ++ [v] ++ l.drop (k + 1) = l.set k v := by
    rw [List.set_eq_take_append_cons_drop, if_pos (by omega), List.append_assoc]
    rfl
  rw [e, List.take_set]
theorem vZ (hT : TabOk P T) {t e g n z k : Nat} {ti : TI} {a x : Operand} {cs : List IV} {y : IV} (ho : o.op = .store t a x) (ht : T.at t = some ti) (hs1 : ti.size = 1) (ha : vals a = some (.el g n k)) (hx : vals x = some (.imm y)) (hy1 : (AV.imm y).cells = [.imm y]) (h1 : y.one = true) (hn : 0 < n) (hk : k < n * z) :
    OpT P o vals (one g (.arr e z n cs)) undefA (one g (.arr e z n (cs.set k y))) := by
  intro w M β ρ hamb hm hv
  have hob := hm.ok g _ (cQ g _)
  have ha1 := hv a (by simp [ho, Op.operands]) _ ha
  have hx1 := hv x (by simp [ho, Op.operands]) _ hx
  rw [RepA] at ha1
  obtain ⟨xs, hown, hall, hrep, hsl, hM⟩ := hob
  obtain ⟨b, cap, cur, hb, hh, hnc, hcs, htk⟩ := lR hown hn
  have hlen : vlen (β g) = n := by rw [hb]; rfl
  obtain ⟨b', hb', e1⟩ := ha1.2.1 hlen
  rw [hb] at hb'
  simp only [blk, Option.some.injEq] at hb'
  subst hb'
  have hMb : M b := hM b (by rw [hb]; rfl)
  obtain ⟨hu, j, hj, ej, _⟩ := hT _ _ ht
  have hrx := hD hx1 (by rw [hy1]; simp [AV.one, h1])
  rw [hy1] at hrx
  have hlx : (ρ x).cells.toList.length = 1 := by have := hrx.length; simpa using this.symm
  obtain ⟨v, hv1⟩ : ∃ v, (ρ x).cells.toList = [v] := List.length_eq_one_iff.1 hlx
  have hcap : k + 1 ≤ cur.size := by
    rw [hcs]
    exact Nat.le_trans hk (Nat.mul_le_mul_right _ hnc)
  rw [hv1] at hrx
  have hrv : Rep w M y v := by
    rw [RepAL] at hrx
    have := hrx.1
    rw [RepA] at this
    exact this
  have hone : ∀ u ∈ [v], u.oneCell' = true := fun u hu => hrx.one (by simp [AV.one, h1]) u hu
  have hrun := run_storeCells_at (P := P) b k e [v] 0 cur w hh (by simpa using hcap) hone
  simp only [Nat.add_zero] at hrun
  have hsz : (ρ x).cells.size = j.size := by rw [← Array.length_toList, hlx, ej, hs1]
  have hex : (execOp ρ o).run P w = .ok .skip (w.setRow b (cur.toList.take k ++ [v] ++ cur.toList.drop (k + 1)).toArray) := by
    unfold execOp
    simp only [ho, e1, Instr.storeAt, Instr.sureAddr, storeVar, sizeOf, typeInfo, run_program, hj, Sem.run_bind, Sem.run_pure, Result.andThen_ok]
    rw [if_neg (by rw [hsz]; simp), hv1]
    simp only [Sem.run_bind, hrun, Result.andThen_ok, Sem.run_pure]
    rfl
  rw [hex]
  have hkeep : Keeps w M (w.setRow b (cur.toList.take k ++ [v] ++ cur.toList.drop (k + 1)).toArray) M := fun c hc hmc => ⟨setRow_other w b c _ (fun ec => hmc (ec ▸ hMb)), hmc⟩
  have hl1 : (cur.toList.take k ++ [v] ++ cur.toList.drop (k + 1)).length = cur.size := by
    simp only [List.length_append, List.length_take, List.length_drop, Array.length_toList, List.length_singleton]
    omega
  have hnz : n * z ≤ cur.size := by rw [hcs]; exact Nat.mul_le_mul_right _ hnc
  refine ⟨M, β, gY _ _ _, dM ⟨xs.set k v, ⟨by rw [List.length_set]; exact hown.1, .inr ⟨b, cap, (cur.toList.take k ++ [v] ++ cur.toList.drop (k + 1)).toArray, hb, Nat.zero_le _, setRow_heap w b _ _ _ _ hh, hnc, ?_, by rw [List.size_toArray, hl1, hcs], ?_⟩⟩, ?_, (RepL.set hrv k hrep).keep hkeep, hsl, hM⟩, ⟨rfl, rfl, rfl, by simp, fun c hc hnc => ⟨setRow_other w b c _ (fun ec => hnc (by rw [dF, hb, ec]; rfl)), Iff.rfl⟩⟩, fun _ _ _ => rfl, fun _ _ => LeV.refl _, fun c hc => .inl (by rw [dF] at hc ⊢; exact hc)⟩
  · rcases hown.2 with ⟨hv0, _⟩ | ⟨_, _, _, hv0, _, _, _, hcm, _⟩
    · rw [hb] at hv0; cases hv0
    · rw [hb] at hv0; cases hv0; exact hcm
  · show (cur.toList.take k ++ [v] ++ cur.toList.drop (k + 1)).take (n * z) = _
    rw [aCm _ _ _ _ hk (by rw [Array.length_toList]; exact hnz), htk]
  · rw [List.all_eq_true] at hall ⊢
    intro q hq
    rcases List.mem_or_eq_of_mem_set hq with hq | rfl
    · exact hall q hq
    · exact h1
/-- A struct, its nils told as such. -/
theorem yM (hT : TabOk P T) {t : Nat} {ti : TI} {fs : Array Field} {parts : Array (Nat × Operand)} {pl : List (Nat × Nat)} {ps : List (Nat × AV)} {rs : List AV} (ho : o.op = .build t parts) (ht : T.at t = some ti) (hd : ti.desc = .struct fs)
    (hz : ti.zero.cells.toList.all (·.oneCell') = true) (hpl : T.places fs.toList = some pl) (hps : evParts vals parts.toList = some ps) (hf : fillA (fun i => pl[i]?) (ti.zero.cells.toList.map fun v => .imm (.lit v)) ps = some rs) : OpT P o vals (fun _ => none) (.mkAgg rs) (fun _ => none) :=
  OpT.pure fun w M β ρ hv => by
    obtain ⟨hu, j, hj, _, _, e3⟩ := hT _ _ ht
    rw [hd] at hu
    have hrp := kO (w := w) (M := M) (β := β) (ρ := ρ) hps (fun x hx y hy => hv x.2 (by
      simp only [ho, Op.operands, List.mem_toArray, List.mem_map]
      exact ⟨x, hx, rfl⟩) y hy)
    obtain ⟨us', h1, h2, h3, h4⟩ := mK (place := fun i => pl[i]?) ps _ _ ti.zero.cells rs hrp (jG hz) (by simp [List.all_map, AV.one, IV.one]) hf
    refine ⟨.agg us', ?_, fZ h3 h2⟩
    have hplaces : (fs.mapM fun f => (do Pure.pure (f.offset, ← sizeOf f.type) : Sem (Nat × Nat))).run P w = .ok pl.toArray w := by
      have := lN hT w fs.toList pl hpl
      have e : fs = fs.toList.toArray := by simp
      rw [e, List.mapM_toArray, Sem.run_map, this]
      rfl
    have hmap : (parts.map fun x => (x.1, ρ x.2)).toList = parts.toList.map fun x => (x.1, ρ x.2) := by simp
    unfold execOp
    simp only [ho, Instr.build, zeroValue, typeInfo, run_program, hj, e3, Sem.run_bind, Sem.run_pure, Result.andThen_ok, run_underlying hu, hplaces, hmap]
    have h1' : Instr.fill (fun x => pl.toArray[x]?) ti.zero.cells (List.map (fun x => (x.1, ρ x.2)) parts.toList) = some us' := by
      have e : (fun (x : Nat) => pl.toArray[x]?) = fun (i : Nat) => pl[i]? := by funext x; simp
      rw [e]; exact h1
    rw [h1']
    rfl
end
section
variable {P : Program} {T : Tab} {keep : List Nat} {N : Nat} {ops : Array Oper} {K : List Foot → SF → Prop} {rest : List Oper} {ks : List Foot} {s : List (Nat × AV)} {m : Mem} {o : Oper} {d : Nat}
theorem eP (hT : TabOk P T) {t sz by_ : Nat} {zz : Value} {fs : Array Field} {parts : Array (Nat × Operand)} {pl : List (Nat × Nat)} {ps : List (Nat × AV)} {rs : List AV} (ho : o.op = .build t parts) (hw : wantedA ops o (S.f ⟨s, m⟩) = some true) (hd : o.dst = some d) (hN : d < N) (ht : T.at t = some ⟨.struct fs, sz, by_, zz⟩)
    (hz : zz.cells.toList.all (·.oneCell') = true) (hpl : T.places fs.toList = some pl) (hps : evParts (S.f ⟨s, m⟩).ev parts.toList = some ps) (hf : fillA (fun i => pl[i]?) (zz.cells.toList.map fun v => .imm (.lit v)) ps = some rs)
    (k : AOps P keep N ops K rest (kNo :: ks) (S.f ⟨(d, .mkAgg rs) :: s, m⟩)) : AOps P keep N ops K (o :: rest) ks (S.f ⟨s, m⟩) :=
  dK hw hd hN (yM hT ho ht rfl hz hpl hps hf) k
theorem qM (g : Nat) (hT : TabOk P T) {t e n sz by_ : Nat} {z v : Value} {x y : Operand} {ei : TI} (ho : o.op = .makeSlice t x y) (hw : wantedA ops o (S.f ⟨s, m⟩) = some true) (hd : o.dst = some d) (hN : d < N) (ht : T.at t = some ⟨.slice e, sz, by_, z⟩) (he : T.at e = some ei) (hc : ei.zero.cells = #[v]) (hs : ei.size = 1) (h1 : v.oneCell' = true)
    (hx : (S.f ⟨s, m⟩).ev x = some (.imm (.lit (.int .i64 (n : Int))))) (hy : (S.f ⟨s, m⟩).ev y = some (.imm (.lit (.int .i64 (n : Int))))) (hn : n ≤ slMax) (hb : ei.bytes * n ≤ 281474976710656) (hk : g ∉ keep) (hfs : freshS g s = true) (hfm : freshM g m = true)
    (k : AOps P keep N ops K rest (⟨[g], false, true⟩ :: ks) (S.f ⟨(d, .ref g n) :: s, (g, .arr e 1 n (List.replicate n (.lit v))) :: m⟩)) : AOps P keep N ops K (o :: rest) ks (S.f ⟨s, m⟩) :=
  hP hw hd hN (sR hT g ho ht he hc hs h1 hx hy hn hb) hk hfs hfm k
theorem fE (hT : TabOk P T) {t e g n z j sz by_ : Nat} {zz : Value} {k0 : Int} {x i : Operand} {ei : TI} {cs : List IV} (ho : o.op = .indexAddr t x i) (hw : wantedA ops o (S.f ⟨s, m⟩) = some true) (hd : o.dst = some d) (hN : d < N) (ht : T.at t = some ⟨.slice e, sz, by_, zz⟩) (he : T.at e = some ei) (hz : ei.size = z)
    (hx : (S.f ⟨s, m⟩).ev x = some (.ref g n)) (hi : (S.f ⟨s, m⟩).ev i = some (.imm (.lit (.int .i64 k0)))) (hg : m.get g = some (.arr e z n cs)) (hj : k0 = (j : Int)) (hlt : j < n)
    (k : AOps P keep N ops K rest (⟨[g], true, false⟩ :: ks) (S.f ⟨(d, .el g n (j * z)) :: s, m⟩)) : AOps P keep N ops K (o :: rest) ks (S.f ⟨s, m⟩) := by
  obtain ⟨hu, _⟩ := hT _ _ ht
  obtain ⟨_, jj, hjj, e1, _⟩ := hT _ _ he
  exact hI hw hd hN (uO hu hjj (e1.trans hz) ho hx hi hj hlt) hg k
theorem jN (hT : TabOk P T) {t e g n z k0 : Nat} {ti : TI} {x : Operand} {cs : List IV} {y : IV} (ho : o.op = .load t x) (hw : wantedA ops o (S.f ⟨s, m⟩) = some true) (hd : o.dst = some d) (hN : d < N) (ht : T.at t = some ti) (hr : ti.desc.isRow = false) (hx : (S.f ⟨s, m⟩).ev x = some (.el g n k0)) (hg : m.get g = some (.arr e z n cs)) (hn : 0 < n) (hy : cs[k0]? = some y)
    (k : AOps P keep N ops K rest (⟨[g], true, false⟩ :: ks) (S.f ⟨(d, .imm y) :: s, m⟩)) : AOps P keep N ops K (o :: rest) ks (S.f ⟨s, m⟩) :=
  hI hw hd hN (yK hT ho ht hr hx hn hy) hg k
theorem mT (hT : TabOk P T) {t e g n z k0 : Nat} {ti : TI} {a x : Operand} {cs : List IV} {y : IV} (ho : o.op = .store t a x) (hw : wantedA ops o (S.f ⟨s, m⟩) = some true) (hd : o.dst = none) (ht : T.at t = some ti) (hs1 : ti.size = 1) (ha : (S.f ⟨s, m⟩).ev a = some (.el g n k0)) (hx : (S.f ⟨s, m⟩).ev x = some (.imm y)) (hg : m.get g = some (.arr e z n cs)) (hy1 : (AV.imm y).cells = [.imm y]) (h1 : y.one = true) (hn : 0 < n) (hk : k0 < n * z)
    (k : AOps P keep N ops K rest (⟨[g], false, false⟩ :: ks) (S.f ⟨s, m.put g (.arr e z n (cs.set k0 y))⟩)) : AOps P keep N ops K (o :: rest) ks (S.f ⟨s, m⟩) :=
  kR hw hd (vZ hT ho ht hs1 ha hx hy1 h1 hn hk) hg k
end
theorem dS {P : Program} {fn : Func} {r : AV} {e : Exit} {σ σ' : SF} (hi : Imp [] fn.ntmps σ σ') (h : AExit P fn (Mem.get []) r (Mem.get []) e σ') : IExit P fn r e σ := ⟨σ', hi, h⟩
end Go.Proofs.YtocaohipfiapkaaGreatDoor.Ab
namespace Go.Proofs.YtocaohipfiapkaaGreatDoor.Ab
set_option linter.unusedVariables false
set_option linter.unusedSimpArgs false
open Go.RowKit
theorem OpT.futObj {P : Program} {o : Oper} {vals : Operand → Option AV} {g k : Nat} {cs : List AV} (hcs : g ∉ AV.namesL cs)
    (h : ∀ w M β (ρ : Operand → Value), (∀ x ∈ o.op.operands, ∀ y, vals x = some y → RepA w M β y (ρ x)) → ∃ (vs : Array Value) (T : TypeId), (execOp ρ o).run P w = .ok (.value (.pointer (some ⟨w.heap.size, k, none⟩))) (w.alloc (.cells vs T)) ∧ cs.all AV.one = true ∧ RepAL w M β cs vs.toList) :
    OpT P o vals (one g .fut) (.obj g k) (one g (.cells cs)) := by
  intro w M β ρ hamb hm hx
  obtain ⟨vs, T, h1, h2, h3⟩ := h w M β ρ hx
  rw [h1]
  have hfut : β g = .tuple #[] := hm.ok g .fut (cQ g _)
  let M' : Nat → Prop := fun b => (b < w.heap.size ∧ M b) ∨ b = w.heap.size
  let β' : Nat → Value := fun n => if n = g then .pointer (some ⟨w.heap.size, 0, none⟩) else β n
  have hk : Keeps w M (w.alloc (.cells vs T)) M' := fun b hb hmb => ⟨heap_alloc_old w _ b hb, fun h => by rcases h with h | h <;> first | exact hmb h.2 | omega⟩
  have e1 : β' g = .pointer (some ⟨w.heap.size, 0, none⟩) := by simp [β']
  have hok : ObjOk (w.alloc (.cells vs T)) M' β' g (.cells cs) :=
    ⟨w.heap.size, vs, T, e1, heap_alloc_new w _, .inr rfl, h2, h3.keep hk _ _ (fun n hn => by
      have : n ≠ g := fun e => hcs (e ▸ hn)
      simp only [β', if_neg this]
      exact LeV.refl _)⟩
  refine ⟨M', β', ?_, dM hok, ⟨rfl, rfl, rfl, by simp, fun b hb _ => ⟨heap_alloc_old w _ b hb, ⟨fun h => by rcases h with h | h <;> first | exact h.2 | omega, fun h => .inl ⟨hb, h⟩⟩⟩⟩, fun n hn1 hn2 => ?_, fun n hn => ?_, fun b hb => ?_⟩
  · rw [RepA]; exact ⟨w.heap.size, e1, rfl⟩
  · have : n ≠ g := fun e => by subst e; rw [cQ] at hn2; cases hn2
    simp [β', this]
  · by_cases e : n = g
    · rw [e, hfut]; exact LeV.fut _
    · exact absurd (eJ _ e) hn
  · rw [dF, e1] at hb
    simp only [blk, Option.some.injEq] at hb
    right; omega
theorem yN {P : Program} {T : Tab} (hT : TabOk P T) {o : Oper} {vals : Operand → Option AV} {t : Nat} {ti : TI} (g : Nat) (ho : o.op = .alloc t) (ht : T.at t = some ti) (hz : ti.zero.cells.toList.all (·.oneCell') = true) :
    OpT P o vals (one g .fut) (.obj g 0) (one g (.cells (ti.zero.cells.toList.map fun v => .imm (.lit v)))) :=
  OpT.futObj (by
    have : ∀ l : List Value, AV.namesL (l.map fun v => .imm (.lit v)) = [] := by
      intro l; induction l with
      | nil => rfl
      | cons v l ih => simp [AV.namesL, AV.names, ih]
    rw [this]; intro h; cases h) fun w M β ρ hx => by
    obtain ⟨_, j, hj, _, _, e3⟩ := hT _ _ ht
    refine ⟨ti.zero.cells, t, ?_, by simp [List.all_map, AV.one, IV.one], jG hz⟩
    unfold execOp
    simp [ho, Instr.alloc, zeroValue, typeInfo, hj, e3, newVar, newRow]
section
variable {P : Program} {T : Tab} {keep : List Nat} {N : Nat} {ops : Array Oper} {K : List Foot → SF → Prop} {o : Oper} {rest : List Oper} {ks : List Foot} {s : List (Nat × AV)} {m : Mem} {d : Nat}
/-- A variable, by a name that was reserved. -/
theorem eB (g : Nat) (hT : TabOk P T) {t : Nat} {ti : TI} (ho : o.op = .alloc t) (hw : wantedA ops o (S.f ⟨s, m⟩) = some true) (hd : o.dst = some d) (hN : d < N) (ht : T.at t = some ti) (hz : ti.zero.cells.toList.all (·.oneCell') = true) (hg : m.get g = some .fut)
    {cs : List AV} (hcs : (ti.zero.cells.toList.map fun v => AV.imm (.lit v)) = cs) (k : AOps P keep N ops K rest (⟨[g], false, false⟩ :: ks) (S.f ⟨(d, .obj g 0) :: s, m.put g (.cells cs)⟩)) : AOps P keep N ops K (o :: rest) ks (S.f ⟨s, m⟩) := by
  subst hcs
  exact jJ hw hd hN (yN hT g ho ht hz) hg k
end
theorem eH {keep : List Nat} {N : Nat} {s : List (Nat × AV)} {m : Mem} (g : Nat) (hk : g ∉ keep) (hs : freshS g s = true) (hm : freshM g m = true) :
    Imp keep N (S.f ⟨s, m⟩) (S.f ⟨s, (g, .fut) :: m⟩) := by
  intro C hC1 hC2 a w ⟨M, β, h0⟩
  have h := h0.named g (.tuple #[]) (by rw [hC1]; exact hk) hs hm
  have eg : (fun n => if n = g then (Value.tuple #[]) else β n) g = .tuple #[] := by simp
  generalize (fun n => if n = g then (Value.tuple #[]) else β n) = β' at h eg
  obtain ⟨f1, f2⟩ := eV hm
  have key : ∀ k o, Mem.get ((g, .fut) :: m) k = some o → (k = g ∧ o = .fut) ∨ (k ≠ g ∧ m.get k = some o) := fun k o ho => by
    simp only [Mem.get] at ho
    split at ho
    · rename_i e; cases ho; exact .inl ⟨e.symm, rfl⟩
    · rename_i e; exact .inr ⟨fun e2 => e e2.symm, ho⟩
  refine ⟨M, β', h.amb, h.size, h.defers, fun t' x hx => h.slots t' x hx, ⟨fun k o ho => ?_, fun k k' o o' b h1 h2 hne hb => ?_⟩, h.ev, h.keepn, fun b hb => ?_⟩
  · rcases key k o ho with ⟨rfl, rfl⟩ | ⟨_, ho⟩
    · exact eg
    · exact h.mem.ok k o ho
  · rcases key k o h1 with ⟨rfl, rfl⟩ | ⟨_, h1⟩
    · rw [eg] at hb; cases hb
    · rcases key k' o' h2 with ⟨rfl, rfl⟩ | ⟨_, h2⟩
      · rw [eg]; simp [blk]
      · exact h.mem.apart k k' o o' b h1 h2 hne hb
  · obtain ⟨k, o, ho, hb⟩ := hb
    rcases key k o ho with ⟨rfl, rfl⟩ | ⟨_, ho⟩
    · rw [eg] at hb; cases hb
    · exact h.mine b ⟨k, o, ho, hb⟩
end Go.Proofs.YtocaohipfiapkaaGreatDoor.Ab
namespace Go.Proofs.YtocaohipfiapkaaGreatDoor.Ab
set_option linter.unusedVariables false
set_option linter.unusedSimpArgs false
open Go.RowKit
def GExit (P : Program) (fn : Func) (keep : List Nat) (m : Mem) (r : AV) (m' : Mem) (e : Exit) (σ : SF) : Prop := ∃ σ', Imp keep fn.ntmps σ σ' ∧ AExit P fn m.get r m'.get e σ'
/-- A function that is handed variables that name nothing. -/
theorem bX {P : Program} {f : FuncId} {fn : Func} {c : Code} {args : List AV} {m m' : Mem} {r : AV} (keep : List Nat) (hf : P.funcs[f]? = some fn) (hn : (fn.name == "runtime.NumGoroutine") = false) (hb : fn.body = some c)
    (hN : args.length ≤ fn.ntmps) (hk1 : (AV.namesL args).all keep.contains = true) (hk2 : m.all (fun p => keep.contains p.1 && p.2.names.isEmpty) = true)
    (h : AWP P keep fn.ntmps c (GExit P fn keep m r m') (S.f ⟨numbered 0 args, m⟩)) : ACalls P f args m r m' := by
  refine gD keep hf hn hb hN (fun g hg => ?_) (fun g o hg => ?_) (mS h)
  · simpa using List.all_eq_true.1 hk1 g hg
  · have key : ∀ l : Mem, l.all (fun p => keep.contains p.1 && p.2.names.isEmpty) = true → l.get g = some o → g ∈ keep ∧ o.names = [] := by
      intro l
      induction l with
      | nil => intro _ h; cases h
      | cons p l ih =>
        intro h1 h2
        rw [List.all_cons, Bool.and_eq_true, Bool.and_eq_true] at h1
        simp only [Mem.get] at h2
        split at h2
        · rename_i e
          cases h2
          exact ⟨by rw [← e]; simpa using h1.1.1, by simpa using h1.1.2⟩
        · exact ih h1.2 h2
    have := key m hk2 hg
    exact ⟨this.1, fun k hk => by rw [this.2] at hk; cases hk⟩
theorem cA {P : Program} {fn : Func} {r r' : AV} {e : Exit} {s : List (Nat × AV)} {m m0 m' : Mem} (he : e = .normal ∨ e = .ret) (hr : Results P fn (S.f ⟨s, m⟩) r') (hn : r'.names = []) (hl : LeM m m') (hm : m'.all (fun p => p.2.names.isEmpty) = true) (h : r' = r) : AExit P fn m0.get r m'.get e (S.f ⟨s, m⟩) := by
  subst h
  refine ⟨he, hr, fun g o hg => hl.get g o hg, (by rw [hn]; intro g hg; cases hg), fun g o hg k hk => ?_⟩
  have key : ∀ l : Mem, l.all (fun p => p.2.names.isEmpty) = true → l.get g = some o → o.names = [] := by
    intro l
    induction l with
    | nil => intro _ h; cases h
    | cons p l ih =>
      intro h1 h2
      rw [List.all_cons, Bool.and_eq_true] at h1
      simp only [Mem.get] at h2
      split at h2
      · cases h2; simpa using h1.1
      · exact ih h1.2 h2
  rw [key m' hm hg] at hk
  cases hk
theorem cB {P : Program} {fn : Func} {keep : List Nat} {m m' : Mem} {r : AV} {e : Exit} {σ : SF} (h : AExit P fn m.get r m'.get e σ) : GExit P fn keep m r m' e σ := ⟨σ, fun _ _ _ _ _ h => h, h⟩
theorem nS {P : Program} {fn : Func} {keep : List Nat} {m m' : Mem} {r : AV} {e : Exit} {σ σ' : SF} (hi : Imp keep fn.ntmps σ σ') (h : AExit P fn m.get r m'.get e σ') : GExit P fn keep m r m' e σ := ⟨σ', hi, h⟩
section
variable {P : Program} {T : Tab} {keep : List Nat} {N : Nat} {ops : Array Oper} {K : List Foot → SF → Prop} {o : Oper} {rest : List Oper} {ks : List Foot} {s : List (Nat × AV)} {m : Mem} {d : Nat}
/-- A boxed value, by a name of one's own choice. -/
theorem cH (g : Nat) {t : Nat} {x : Operand} {y : AV} (ho : o.op = .box t x) (hw : wantedA ops o (S.f ⟨s, m⟩) = some true) (hd : o.dst = some d) (hN : d < N) (hx : (S.f ⟨s, m⟩).ev x = some y) (h1 : y.cells.all AV.one = true) (hk : keep.contains g = false) (hs : freshS g s = true) (hm : freshM g m = true) (hy : (AV.namesL y.cells).contains g = false)
    {cs : List AV} (hcs : y.cells = cs) (k : AOps P keep N ops K rest (⟨[g], false, true⟩ :: ks) (S.f ⟨(d, .obj g 0) :: s, (g, .cells cs) :: m⟩)) : AOps P keep N ops K (o :: rest) ks (S.f ⟨s, m⟩) := by
  subst hcs
  exact hP hw hd hN (lO g ho hx h1 (by simpa using hy)) (by simpa using hk) hs hm k
end
end Go.Proofs.YtocaohipfiapkaaGreatDoor.Ab
namespace Go.Proofs.YtocaohipfiapkaaGreatDoor.Ab
set_option linter.unusedVariables false
set_option linter.unusedSimpArgs false
open Go.RowKit
theorem uR {w w' : World} {M : Nat → Prop} {β : Nat → Value} {g : Nat} {r : AV} {v : Value} {ob : MO} (hf : β g = .tuple #[]) (h : Out w M β (fun _ => none) w' r v (one g ob)) : Out w M β (one g .fut) w' r v (one g ob) := by
  obtain ⟨M', β', h⟩ := h
  have hno : ∀ b, ¬ blks β (fun _ => none) b := fun b ⟨k, o, hk, _⟩ => by cases hk
  refine ⟨M', β', h.rep, h.mem, h.ev.weaken (fun b hb => absurd hb (hno b)), fun k h1 h2 => h.eq k rfl h2, fun k hk => ?_, fun b hb => ?_⟩
  · by_cases e : k = g
    · rw [e, hf]; exact LeV.fut _
    · exact absurd (eJ _ e) hk
  · rcases h.mine b hb with h | h
    · exact absurd h (hno b)
    · exact .inr h
/-- What makes an object makes it under a reserved name too. -/
theorem OpT.fut {P : Program} {o : Oper} {vals : Operand → Option AV} {g : Nat} {r : AV} {ob : MO} (h : OpT P o vals (fun _ => none) r (one g ob)) : OpT P o vals (one g .fut) r (one g ob) := by
  intro w M β ρ ha hm hx
  have hf : β g = .tuple #[] := hm.ok g .fut (cQ g _)
  have h1 := h w M β ρ ha ⟨fun k o hk => (by cases hk), fun k k' o o' b hk => (by cases hk)⟩ hx
  generalize (execOp ρ o).run P w = res at h1 ⊢
  cases res with
  | ok n w' =>
    cases n with
    | value v => exact uR hf h1
    | skip => exact uR hf h1
    | enter f args =>
      obtain ⟨e, hc⟩ := h1
      exact ⟨e, hc.mono fun e w'' ⟨v, hv, ho⟩ => ⟨v, hv, uR hf ho⟩⟩
    | _ => exact h1.elim
  | halt x w' => exact h1.elim
/-- A slice that is not empty is not nil. -/
theorem aAQ {P : Program} {o : Oper} {vals : Operand → Option AV} {t u : TypeId} {x y : Operand} {e : TypeId} {f : Bool} {n : Nat} {cs : List IV} (hu : P.underlying t = some (.slice e)) (ho : o.op = .binOp .eql t x y u)
    (hx : vals x = some (.imm (.sl f n cs))) (hy : vals y = some (.imm (.lit (.slice none 0 0)))) (hn : 0 < n) :
    OpT P o vals (fun _ => none) (.imm (.lit (.bool false))) (fun _ => none) :=
  OpT.pure fun w M β ρ hv => by
    have h1 := hv x (by simp [ho, Op.operands]) _ hx
    have h2 := hv y (by simp [ho, Op.operands]) _ hy
    rw [RepA, Rep] at h1
    rw [RepA, Rep] at h2
    obtain ⟨a, cap, ea, hc, _, hno, _, _, hr⟩ := h1
    have ha : ∃ ad, a = some ad := by
      rcases hr with ⟨h0, _⟩ | ⟨b, o, vs, T, fz, rfl, _⟩
      · omega
      · exact ⟨_, rfl⟩
    obtain ⟨ad, rfl⟩ := ha
    refine ⟨.bool false, ?_, by rw [RepA, Rep]; exact ⟨rfl, rfl⟩⟩
    have hg : (eqGuard .eql t x y (.slice (some ad) n cap) (.slice none 0 0)).run P w = .ok () w := by unfold eqGuard; rfl
    have hq := Lib.run_eql_slice_nil (P := P) w t e (some ad) n cap 0 0 hu
    unfold execOp
    simp only [ho, ea, h2.1, Sem.run_bind, hg, Result.andThen_ok, hq, Sem.run_pure]
    rfl
section
variable {P : Program} {T : Tab} {keep : List Nat} {N : Nat} {ops : Array Oper} {K : List Foot → SF → Prop} {rest : List Oper} {ks : List Foot} {s : List (Nat × AV)} {m : Mem} {o : Oper} {d : Nat}
theorem yO (hT : TabOk P T) {t u e sz by_ : Nat} {z : Value} {x y : Operand} {f : Bool} {n : Nat} {cs : List IV} (ho : o.op = .binOp .eql t x y u) (hw : wantedA ops o (S.f ⟨s, m⟩) = some true) (hd : o.dst = some d) (hN : d < N)
    (ht : T.at t = some ⟨.slice e, sz, by_, z⟩) (hx : (S.f ⟨s, m⟩).ev x = some (.imm (.sl f n cs))) (hy : (S.f ⟨s, m⟩).ev y = some (.imm (.lit (.slice none 0 0)))) (hn : 0 < n)
    (k : AOps P keep N ops K rest (kNo :: ks) (S.f ⟨(d, .imm (.lit (.bool false))) :: s, m⟩)) : AOps P keep N ops K (o :: rest) ks (S.f ⟨s, m⟩) :=
  dK hw hd hN (aAQ (hT _ _ ht).1 ho hx hy hn) k
/-- append to a full list, under a reserved name. -/
theorem aAR (g : Nat) (hT : TabOk P T) {t e n j sz by_ : Nat} {z : Value} {ei : TI} {sx x : Operand} {f : Bool} {cs ys : List IV} (ho : o.op = .call { callee := .builtin .append, args := #[sx, x], argTypes := #[t, t] }) (hw : wantedA ops o (S.f ⟨s, m⟩) = some true) (hd : o.dst = some d) (hN : d < N)
    (ht : T.at t = some ⟨.slice e, sz, by_, z⟩) (he : T.at e = some ei) (hzs : ei.zero.cells.size = ei.size) (hsz : Nat.ble 1 ei.size = true)
    (hs : (S.f ⟨s, m⟩).ev sx = some (.imm (.sl true n cs))) (hcs : cs.length = n * ei.size) (hx : (S.f ⟨s, m⟩).ev x = some (.imm (.sl f j ys))) (hj : 0 < j) (hl : ys.length = j * ei.size) (hlim : n + j ≤ 17592186044416) (hby : (n + j) * ei.bytes ≤ 140737488355328) (hg : m.get g = some .fut)
    (k : AOps P keep N ops K rest (⟨[g], false, false⟩ :: ks) (S.f ⟨(d, .ref g (n + j)) :: s, m.put g (.arr e ei.size (n + j) (cs ++ ys))⟩)) : AOps P keep N ops K (o :: rest) ks (S.f ⟨s, m⟩) :=
  jJ hw hd hN (yL hT g ho ht rfl he hzs (Nat.le_of_ble_eq_true hsz) hs hcs hx hj hl hlim hby).fut hg k
end
/-- The end of a function that names what it has made. -/
theorem yP {P : Program} {fn : Func} {r r' : AV} {e : Exit} {s : List (Nat × AV)} {m m0 m' : Mem} (he : e = .normal ∨ e = .ret) (hr : Results P fn (S.f ⟨s, m⟩) r') (hn : r'.names.all (fun g => (m'.get g).isSome) = true) (hl : LeM m m') (hm : m'.all (fun p => p.2.names.isEmpty) = true) (h : r' = r) : AExit P fn m0.get r m'.get e (S.f ⟨s, m⟩) := by
  subst h
  refine ⟨he, hr, fun g o hg => hl.get g o hg, fun g hg => .inr ?_, fun g o hg k hk => ?_⟩
  · have := List.all_eq_true.1 hn g hg
    intro e
    rw [e] at this
    cases this
  · have key : ∀ l : Mem, l.all (fun p => p.2.names.isEmpty) = true → l.get g = some o → o.names = [] := by
      intro l
      induction l with
      | nil => intro _ h; cases h
      | cons p l ih =>
        intro h1 h2
        rw [List.all_cons, Bool.and_eq_true] at h1
        simp only [Mem.get] at h2
        split at h2
        · cases h2; simpa using h1.1
        · exact ih h1.2 h2
    rw [key m' hm hg] at hk
    cases hk
end Go.Proofs.YtocaohipfiapkaaGreatDoor.Ab
namespace Go.Proofs.YtocaohipfiapkaaGreatDoor.Ab
set_option linter.unusedVariables false
set_option linter.unusedSimpArgs false
open Go.RowKit
theorem aAS {P : Program} {T : Tab} (hT : TabOk P T) {o : Oper} {vals : Operand → Option AV} {t e g n z : Nat} {ti ei : TI} {sx x : Operand} {f : Bool} {cs ys : List IV} (ho : o.op = .call { callee := .builtin .append, args := #[sx, x], argTypes := #[t, t] })
    (ht : T.at t = some ti) (hd : ti.desc = .slice e) (he : T.at e = some ei) (hs : vals sx = some (.ref g n)) (hx : vals x = some (.imm (.sl f 0 ys)) ∨ vals x = some (.imm (.lit (.slice none 0 0)))) :
    OpT P o vals (one g (.arr e z n cs)) (.ref g n) (one g (.arr e z n cs)) :=
  OpT.reads fun w M β ρ hob hv => by
    have h1 := hv sx (by simp [ho, Op.operands, Call.operands]) _ hs
    rw [RepA] at h1
    obtain ⟨xs, hown, _⟩ := hob
    have hsl : ∃ a c, β g = .slice a n c ∧ n ≤ c ∧ (a = none → n = 0 ∧ c = 0) := by
      rcases hown.2 with ⟨h2, rfl⟩ | ⟨b, cap, cur, h2, _, _, h3, _⟩
      · exact ⟨_, _, h2, Nat.le_refl _, fun _ => ⟨rfl, rfl⟩⟩
      · exact ⟨_, _, h2, h3, fun h => by cases h⟩
    obtain ⟨a, c, hβ, hnc, hno⟩ := hsl
    have hlen : vlen (β g) = n := by rw [hβ]; rfl
    have hxv := h1.2.1 hlen
    have h2 : ∃ b c2, ρ x = .slice b 0 c2 := by
      rcases hx with hx | hx
      · have h2 := hv x (by simp [ho, Op.operands, Call.operands]) _ hx
        rw [RepA, Rep] at h2
        obtain ⟨b, c2, eb, _⟩ := h2
        exact ⟨b, c2, eb⟩
      · have h2 := hv x (by simp [ho, Op.operands, Call.operands]) _ hx
        rw [RepA, Rep] at h2
        exact ⟨none, 0, h2.1⟩
    obtain ⟨b, c2, eb⟩ := h2
    obtain ⟨hu, _⟩ := hT _ _ ht
    rw [hd] at hu
    obtain ⟨_, j, hj, e1, e2, e3⟩ := hT _ _ he
    refine ⟨ρ sx, ?_, by rw [RepA]; exact h1⟩
    have hrun := jB (P := P) w t o.type e j hu hj a n c hnc hno b c2
    rw [hxv, hβ]
    unfold execOp
    simp only [ho, resolve, invoke, builtin, Sem.run_bind, Sem.run_pure, Result.andThen_ok, List.map_toArray, List.map_cons, List.map_nil, hxv, hβ, eb, hrun]
section
variable {P : Program} {T : Tab} {keep : List Nat} {N : Nat} {ops : Array Oper} {K : List Foot → SF → Prop} {o : Oper} {rest : List Oper} {ks : List Foot} {s : List (Nat × AV)} {m : Mem} {d : Nat}
theorem qN (hT : TabOk P T) {t e g n sz by_ z : Nat} {zz : Value} {ei : TI} {sx x : Operand} {f : Bool} {cs ys : List IV} (ho : o.op = .call { callee := .builtin .append, args := #[sx, x], argTypes := #[t, t] }) (hw : wantedA ops o (S.f ⟨s, m⟩) = some true) (hd : o.dst = some d) (hN : d < N)
    (ht : T.at t = some ⟨.slice e, sz, by_, zz⟩) (he : T.at e = some ei) (hs : (S.f ⟨s, m⟩).ev sx = some (.ref g n)) (hx : (S.f ⟨s, m⟩).ev x = some (.imm (.sl f 0 ys)) ∨ (S.f ⟨s, m⟩).ev x = some (.imm (.lit (.slice none 0 0)))) (hg : m.get g = some (.arr e z n cs))
    (k : AOps P keep N ops K rest (⟨[g], true, false⟩ :: ks) (S.f ⟨(d, .ref g n) :: s, m⟩)) : AOps P keep N ops K (o :: rest) ks (S.f ⟨s, m⟩) :=
  hI hw hd hN (aAS hT ho ht rfl he hs hx) hg k
end
end Go.Proofs.YtocaohipfiapkaaGreatDoor.Ab
