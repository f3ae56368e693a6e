/- The law MatchTyped holds of every input that the row lets in: the walk on abstract values (Mtc3.MatchTyped_law) read back into the row. Conditions: none but the row's own. -/
import Derived.Test.YtlbemgokilhdnaaGreatRows
import Derived.Test.YtlbemgokilhdnaaGreatMTL4
import Derived.Test.YtlbemgokilhdnaaGreatMTAb0
import Derived.WalkKit
import Derived.ProofKit
import Derived.OpenShut
import Derived.ShutString
import Derived.ChangeOld
import Derived.Below
import Derived.SizedLaws
import Derived.Carry
namespace Go.Proofs.YtlbemgokilhdnaaGreat.matchTyped
open Go.ChangeShapes Go.WideShapes Go.ChangeAt Go.RowKit Go.Lib
set_option linter.unusedVariables false
theorem own : ownKnob Tryz.prog.godebug = none := by kernel_rfl
theorem laidOut : laidOutB Tryz.prog = true := by kernel_rfl
set_option maxRecDepth 100000 in
theorem lifted (os : Os) (started : os.Started) (H : Type) (enc : TypeId × Value → H) :
    ReturnsInHanded {} Tryz.checked os 4 .any (Rows.matchTypedSpec.pre6 enc Tryz.prog Tryz.f4 Rows.matchTypedRow.domain false) (Rows.matchTypedSpec.post enc Tryz.prog Tryz.f4 false true false false) := by
  refine returnsInHanded_of_change_sized (C := Tryz.checked) own started (by kernel_rfl) Tryz.func4
    (ChangeSpec.witness6 (enc := enc) (C := Tryz.checked) false ⟨#[], #[.agg #[.slice none 0 0], .agg #[.slice none 0 0]], []⟩ 8 (by kernel_rfl) (by kernel_rfl) (by kernel_rfl) (by kernel_rfl)) ?_
  intro W base args ds gs before hval0 hW hcnd hsz0 _
  have hsz : (DataW.weightsEach Tryz.prog (Tryz.f4.params.toList ++ Rows.matchTypedSpec.plain.varTypes Tryz.prog) (ds ++ gs)).all (· ≤ reachBytes) = true := hsz0
  have hval : ∀ (j : Nat) t v, Tryz.f4.params[j]? = some t → args[j]? = some v → Value.okWide Tryz.prog W .any base t v := hval0
  have hW' := hW
  have hlt := DataW.Whole.lt hW
  obtain ⟨p, q, hA0, hV, rfl, hfz, hnd⟩ := hW
  have hA : DataW.TrodAll enc Tryz.prog W 0 (fun _ => true) true Tryz.f4.params.toList args.toList ds p := hA0
  rw [Tryz.params4] at hA hval hsz
  obtain ⟨v0, vs0, d0, ds0, p0, q0, hargs, rfl, rfl, h0, r0⟩ := trodAll_cons hA
  obtain ⟨v1, vs1, d1, ds1, p1, q1, rfl, rfl, rfl, h1, r1⟩ := trodAll_cons r0
  obtain ⟨rfl, rfl, rfl⟩ := trodAll_nil r1
  obtain rfl : args = #[v0, v1] := by cases args; simp_all
  obtain ⟨rfl, rfl⟩ := trodVars_none hV
  have hB : DataW.TrodAll enc Tryz.prog W 0 (fun _ => true) true [24, 24] [v0, v1] [d0, d1] _ := ⟨p0, _, h0, ⟨p1, _, h1, rfl, rfl⟩, rfl⟩
  have hpar : ∀ t ∈ ([24, 24] : List TypeId), Tryz.prog.readableRec t = true ∧ t < Tryz.prog.types.size := by
    intro t ht
    simp only [List.mem_cons, List.not_mem_nil, or_false] at ht
    rcases ht with rfl | rfl <;> exact ⟨by kernel_rfl, of_decide_eq_true (by kernel_rfl)⟩
  have hz : (DataW.weightsEach Tryz.prog [24, 24] [d0, d1]).all (· ≤ reachBytes) = true := hsz
  obtain ⟨xs, hfit, hrep⟩ := Ab.vE (P := Tryz.prog) (tys := [.struct [.slice (.struct [.int .i64, .int .i64, .string, .string, .slice (.int .i64)])], .struct [.slice (.struct [.int .i64, .int .i64, .string, .string, .slice (.int .i64)])]]) (by kernel_rfl) (fun j t v h1 h2 => hval j t v (by simpa using h1) (by simpa using h2)) hB hz
  have hamb : Ab.Amb W (fun _ => False) := trivial
  refine (Ab.xL (Ab.MatchTyped_law xs hfit) hamb hrep).mono fun e W' ⟨he, bel⟩ => ?_
  subst he
  exact ⟨_, rfl, _, _, _, [], _, [], hW', trodAll_mk1 (shut_bool Tryz.underlying4 _), Ab.rT laidOut bel hpar hB (fun x hx => hlt x (List.mem_append_left _ hx)), rfl, bel.frame _, fun h => by cases h⟩
theorem over : Rows.matchTypedRow.holds Tryz.pinned (OpenSpec.ofChange Rows.matchTypedSpec) :=
  OpenClaim.holds_of_wide 4 Tryz.f4 rfl rfl rfl rfl rfl rfl rfl ⟨rfl, rfl, rfl, rfl, rfl⟩ rfl rfl rfl rfl rfl (by kernel_rfl) Tryz.func4 (by kernel_rfl)
    (of_decide_eq_true (by kernel_rfl)) (by unfold Func.isWrapper; first | (rw [if_pos (by decide +kernel)]; kernel_rfl) | (rw [if_neg (by decide +kernel)]; exact ⟨rfl, rfl⟩))
    (fun os started H enc _ => lifted os started H enc)
theorem proved : Rows.MatchTypedSaid := over
#print axioms proved
end Go.Proofs.YtlbemgokilhdnaaGreat.matchTyped
namespace Go.Proofs.YtlbemgokilhdnaaGreat
/-- The row, under a short name, for the claim. -/
theorem matchTyped_holds : Rows.MatchTypedSaid := matchTyped.proved
end Go.Proofs.YtlbemgokilhdnaaGreat
