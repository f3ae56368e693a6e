/- The law MatchCoerces holds of every input that the row lets in: the walk on abstract values (Coe4.MatchCoerces_law) read back into the row. Conditions: none but the row's own. -/
import Derived.Test.YtlbemgokilhdnaaRows
import Derived.Test.YtlbemgokilhdnaaCL5
import Derived.Test.YtlbemgokilhdnaaCAb0
import Derived.WalkKit
import Derived.ProofKit
import Derived.OpenShut
import Derived.ShutString
import Derived.ChangeOld
import Derived.Below
import Derived.SizedLaws
import Derived.Carry
namespace Go.Proofs.Ytlbemgokilhdnaa.matchCoerces
open Go.ChangeShapes Go.WideShapes Go.ChangeAt Go.RowKit Go.Lib
set_option linter.unusedVariables false
theorem own : ownKnob Try.prog.godebug = none := by kernel_rfl
theorem laidOut : laidOutB Try.prog = true := by kernel_rfl
set_option maxRecDepth 100000 in
theorem lifted (os : Os) (started : os.Started) (H : Type) (enc : TypeId × Value → H) :
    ReturnsInHanded {} Try.checked os 8 .any (Rows.matchCoercesSpec.pre6 enc Try.prog Try.f8 Rows.matchCoercesRow.domain false) (Rows.matchCoercesSpec.post enc Try.prog Try.f8 false true false false) := by
  refine returnsInHanded_of_change_sized (C := Try.checked) own started (by kernel_rfl) Try.func8
    (ChangeSpec.witness6 (enc := enc) (C := Try.checked) false ⟨#[], #[.agg #[.slice none 0 0], .agg #[.slice none 0 0]], []⟩ 8 (by kernel_rfl) (by kernel_rfl) (by kernel_rfl) (by kernel_rfl)) ?_
  intro W base args ds gs before hval0 hW hcnd hsz0 _
  have hsz : (DataW.weightsEach Try.prog (Try.f8.params.toList ++ Rows.matchCoercesSpec.plain.varTypes Try.prog) (ds ++ gs)).all (· ≤ reachBytes) = true := hsz0
  have hval : ∀ (j : Nat) t v, Try.f8.params[j]? = some t → args[j]? = some v → Value.okWide Try.prog W .any base t v := hval0
  have hW' := hW
  have hlt := DataW.Whole.lt hW
  obtain ⟨p, q, hA0, hV, rfl, hfz, hnd⟩ := hW
  have hA : DataW.TrodAll enc Try.prog W 0 (fun _ => true) true Try.f8.params.toList args.toList ds p := hA0
  rw [Try.params8] at hA hval hsz
  obtain ⟨v0, vs0, d0, ds0, p0, q0, hargs, rfl, rfl, h0, r0⟩ := trodAll_cons hA
  obtain ⟨v1, vs1, d1, ds1, p1, q1, rfl, rfl, rfl, h1, r1⟩ := trodAll_cons r0
  obtain ⟨rfl, rfl, rfl⟩ := trodAll_nil r1
  obtain rfl : args = #[v0, v1] := by cases args; simp_all
  obtain ⟨rfl, rfl⟩ := trodVars_none hV
  have hB : DataW.TrodAll enc Try.prog W 0 (fun _ => true) true [24, 24] [v0, v1] [d0, d1] _ := ⟨p0, _, h0, ⟨p1, _, h1, rfl, rfl⟩, rfl⟩
  have hpar : ∀ t ∈ ([24, 24] : List TypeId), Try.prog.readableRec t = true ∧ t < Try.prog.types.size := by
    intro t ht
    simp only [List.mem_cons, List.not_mem_nil, or_false] at ht
    rcases ht with rfl | rfl <;> exact ⟨by kernel_rfl, of_decide_eq_true (by kernel_rfl)⟩
  have hz : (DataW.weightsEach Try.prog [24, 24] [d0, d1]).all (· ≤ reachBytes) = true := hsz
  obtain ⟨xs, hfit, hrep⟩ := Ab.oK (P := Try.prog) (tys := [.struct [.slice (.struct [.int .i64, .int .i64, .string, .string, .slice (.int .i64)])], .struct [.slice (.struct [.int .i64, .int .i64, .string, .string, .slice (.int .i64)])]]) (by kernel_rfl) (fun j t v h1 h2 => hval j t v (by simpa using h1) (by simpa using h2)) hB hz
  have hamb : Ab.Amb W (fun _ => False) := trivial
  refine (Ab.pY (Ab.MatchCoerces_law xs hfit) hamb hrep).mono fun e W' ⟨he, bel⟩ => ?_
  subst he
  exact ⟨_, rfl, _, _, _, [], _, [], hW', trodAll_mk1 (shut_bool Try.underlying4 _), Ab.mO laidOut bel hpar hB (fun x hx => hlt x (List.mem_append_left _ hx)), rfl, bel.frame _, fun h => by cases h⟩
theorem over : Rows.matchCoercesRow.holds Try.pinned (OpenSpec.ofChange Rows.matchCoercesSpec) :=
  OpenClaim.holds_of_wide 8 Try.f8 rfl rfl rfl rfl rfl rfl rfl ⟨rfl, rfl, rfl, rfl, rfl⟩ rfl rfl rfl rfl rfl (by kernel_rfl) Try.func8 (by kernel_rfl)
    (of_decide_eq_true (by kernel_rfl)) (by unfold Func.isWrapper; first | (rw [if_pos (by decide +kernel)]; kernel_rfl) | (rw [if_neg (by decide +kernel)]; exact ⟨rfl, rfl⟩))
    (fun os started H enc _ => lifted os started H enc)
theorem proved : Rows.MatchCoercesSaid := over
#print axioms proved
end Go.Proofs.Ytlbemgokilhdnaa.matchCoerces
namespace Go.Proofs.Ytlbemgokilhdnaa
/-- The row, under a short name, for the claim. -/
theorem matchCoerces_holds : Rows.MatchCoercesSaid := matchCoerces.proved
end Go.Proofs.Ytlbemgokilhdnaa
