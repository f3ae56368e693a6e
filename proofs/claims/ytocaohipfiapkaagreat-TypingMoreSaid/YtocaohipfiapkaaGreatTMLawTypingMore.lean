/- The law TypingMore holds of every input that the row lets in: the walk on abstract values (Mor4.TypingMore_law) read back into the row. Conditions: none but the row's own. -/
import Derived.Test.YtocaohipfiapkaaGreatRows
import Derived.Test.YtocaohipfiapkaaGreatTML3
import Derived.Test.YtocaohipfiapkaaGreatTMAb0
import Derived.WalkKit
import Derived.ProofKit
import Derived.OpenShut
import Derived.ShutString
import Derived.ChangeOld
import Derived.Below
import Derived.SizedLaws
import Derived.Carry
namespace Go.Proofs.YtocaohipfiapkaaGreat.typingMore
open Go.ChangeShapes Go.WideShapes Go.ChangeAt Go.RowKit Go.Lib
set_option linter.unusedVariables false
theorem own : ownKnob Tryz.prog.godebug = none := by kernel_rfl
theorem laidOut : laidOutB Tryz.prog = true := by kernel_rfl
set_option maxRecDepth 100000 in
theorem lifted (os : Os) (started : os.Started) (H : Type) (enc : TypeId × Value → H) :
    ReturnsInHanded {} Tryz.checked os 3 .any (Rows.typingMoreSpec.pre6 enc Tryz.prog Tryz.f3 Rows.typingMoreRow.domain false) (Rows.typingMoreSpec.post enc Tryz.prog Tryz.f3 false true false false) := by
  refine returnsInHanded_of_change_sized (C := Tryz.checked) own started (by kernel_rfl) Tryz.func3
    (ChangeSpec.witness6 (enc := enc) (C := Tryz.checked) false ⟨#[], #[.slice none 0 0, .agg #[.slice none 0 0], .agg #[.slice none 0 0]], []⟩ 8 (by kernel_rfl) (by kernel_rfl) (by kernel_rfl) (by kernel_rfl)) ?_
  intro W base args ds gs before hval0 hW hcnd hsz0 _
  have hsz : (DataW.weightsEach Tryz.prog (Tryz.f3.params.toList ++ Rows.typingMoreSpec.plain.varTypes Tryz.prog) (ds ++ gs)).all (· ≤ reachBytes) = true := hsz0
  have hval : ∀ (j : Nat) t v, Tryz.f3.params[j]? = some t → args[j]? = some v → Value.okWide Tryz.prog W .any base t v := hval0
  have hW' := hW
  have hlt := DataW.Whole.lt hW
  obtain ⟨p, q, hA0, hV, rfl, hfz, hnd⟩ := hW
  have hA : DataW.TrodAll enc Tryz.prog W 0 (fun _ => true) true Tryz.f3.params.toList args.toList ds p := hA0
  rw [Tryz.params3] at hA hval hsz
  obtain ⟨v0, vs0, d0, ds0, p0, q0, hargs, rfl, rfl, h0, r0⟩ := trodAll_cons hA
  obtain ⟨v1, vs1, d1, ds1, p1, q1, rfl, rfl, rfl, h1, r1⟩ := trodAll_cons r0
  obtain ⟨v2, vs2, d2, ds2, p2, q2, rfl, rfl, rfl, h2, r2⟩ := trodAll_cons r1
  obtain ⟨rfl, rfl, rfl⟩ := trodAll_nil r2
  obtain rfl : args = #[v0, v1, v2] := by cases args; simp_all
  obtain ⟨rfl, rfl⟩ := trodVars_none hV
  have hB : DataW.TrodAll enc Tryz.prog W 0 (fun _ => true) true [22, 25, 25] [v0, v1, v2] [d0, d1, d2] _ := ⟨p0, _, h0, ⟨p1, _, h1, ⟨p2, _, h2, rfl, rfl⟩, rfl⟩, rfl⟩
  have hpar : ∀ t ∈ ([22, 25, 25] : List TypeId), Tryz.prog.readableRec t = true ∧ t < Tryz.prog.types.size := by
    intro t ht
    simp only [List.mem_cons, List.not_mem_nil, or_false] at ht
    rcases ht with rfl | rfl | rfl <;> exact ⟨by kernel_rfl, of_decide_eq_true (by kernel_rfl)⟩
  have hz : (DataW.weightsEach Tryz.prog [22, 25, 25] [d0, d1, d2]).all (· ≤ reachBytes) = true := hsz
  obtain ⟨xs, hfit, hrep⟩ := Ab.tZ (P := Tryz.prog) (tys := [.slice (.struct [.slice (.struct [.int .i64, .int .i64, .string, .string, .slice (.int .i64)])]), .struct [.slice (.struct [.int .i64, .int .i64, .string, .string, .slice (.int .i64)])], .struct [.slice (.struct [.int .i64, .int .i64, .string, .string, .slice (.int .i64)])]]) (by kernel_rfl) (fun j t v h1 h2 => hval j t v (by simpa using h1) (by simpa using h2)) hB hz
  have hamb : Ab.Amb W (fun _ => False) := trivial
  refine (Ab.wB (Ab.TypingMore_law xs hfit) hamb hrep).mono fun e W' ⟨he, bel⟩ => ?_
  subst he
  exact ⟨_, rfl, _, _, _, [], _, [], hW', trodAll_mk1 (shut_bool Tryz.underlying4 _), Ab.qT laidOut bel hpar hB (fun x hx => hlt x (List.mem_append_left _ hx)), rfl, bel.frame _, fun h => by cases h⟩
theorem over : Rows.typingMoreRow.holds Tryz.pinned (OpenSpec.ofChange Rows.typingMoreSpec) :=
  OpenClaim.holds_of_wide 3 Tryz.f3 rfl rfl rfl rfl rfl rfl rfl ⟨rfl, rfl, rfl, rfl, rfl⟩ rfl rfl rfl rfl rfl (by kernel_rfl) Tryz.func3 (by kernel_rfl)
    (of_decide_eq_true (by kernel_rfl)) (by unfold Func.isWrapper; first | (rw [if_pos (by decide +kernel)]; kernel_rfl) | (rw [if_neg (by decide +kernel)]; exact ⟨rfl, rfl⟩))
    (fun os started H enc _ => lifted os started H enc)
theorem proved : Rows.TypingMoreSaid := over
#print axioms proved
end Go.Proofs.YtocaohipfiapkaaGreat.typingMore
namespace Go.Proofs.YtocaohipfiapkaaGreat
/-- The row, under a short name, for the claim. -/
theorem typingMore_holds : Rows.TypingMoreSaid := typingMore.proved
end Go.Proofs.YtocaohipfiapkaaGreat
