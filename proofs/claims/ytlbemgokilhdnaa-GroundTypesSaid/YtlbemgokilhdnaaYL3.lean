/- Words, walks and laws under the claim's statement: what it uses of them. No condition of its own. -/
import Derived.Test.YtlbemgokilhdnaaYL2
import Derived.Test.YtlbemgokilhdnaaYL1
namespace Go.Proofs.Ytlbemgokilhdnaa.Ab
set_option linter.unusedVariables false
set_option linter.unusedSimpArgs false
open Go.RowKit
attribute [local irreducible] AWP AOps AExit AThen ABlock ANoGoto FeetOk
set_option maxHeartbeats 16000000 in
set_option maxRecDepth 10000 in
theorem aAp (t : Tree) : t.whole = true → t.size ≤ 1000000 → ACalls Try.prog 97 [.imm t.iv] [] (.imm (.lit (.bool (isConP t)))) [] := by
  induction t using Tree.sind with
  | h t ih =>
    intro h hs
    obtain ⟨k, n, a, b, kids, rfl⟩ := cZ h
    have hl : kids.length < 1000000000 := by have := cI kids h; simp only [Tree.size] at hs; omega
    have hc : ∀ t', t'.size < (Tree.node k n a b kids).size → t'.whole = true → ACalls Try.prog 97 [.imm t'.iv] [] (.imm (.lit (.bool (isConP t')))) [] := fun t' h1 h2 => ih t' h1 h2 (by omega)
    have hc2 : ∀ t', t'.size < Tree.sizes kids → t'.whole = true → ACalls Try.prog 97 [.imm t'.iv] [] (.imm (.lit (.bool (isConP t')))) [] := fun t' h1 h2 => hc t' (by simp only [Tree.size]; omega) h2
    have e1 : labelsB kids 116 true = (namedPs kids 116 && risingP kids) := by unfold labelsB pairsP; rw [if_pos rfl]
    have e2 : labelsB kids 122 false = (namedPs kids 122 && distinctP kids) := by unfold labelsB pairsP; rw [if_neg (by simp)]
    have cl1 := rX kids 116 true h hl hc2
    have cl2 := rX kids 122 false h hl hc2
    rw [e1] at cl1
    rw [e2] at cl2
    refine bY Try.func97 rfl rfl (nb rfl) rfl ?_
    repeat' (first | refine bM ?_ | (refine bP ?_; first | refine aX tabOk rfl rfl rfl (nb rfl) rfl ?_ | refine bF rfl rfl (nb rfl) ?_ | (refine bO rfl rfl rfl (nb rfl) rfl rfl rfl (fun hq => ?_) (fun hq => ?_) <;> (first | (simp only [sD, sE, sB, sC, sN, sM, sT, sF] at hq; try (exfalso; omega)) | skip))| (refine cE rfl rfl rfl (nb rfl) rfl rfl rfl (mZ _ _ _ _ _ _) (fun hq => ?_) (fun hq => ?_)) | (refine cE rfl rfl rfl (nb rfl) rfl rfl rfl (cl1) (fun hq => ?_) (fun hq => ?_)) | (refine cE rfl rfl rfl (nb rfl) rfl rfl rfl (cl2) (fun hq => ?_) (fun hq => ?_)) | (refine cE rfl rfl rfl (nb rfl) rfl rfl rfl (zS _ (cD h (List.getElem_mem _))) (fun hq => ?_) (fun hq => ?_)) | (refine cE rfl rfl rfl (nb rfl) rfl rfl rfl (hc _ (cG (List.getElem_mem _)) (cD h (List.getElem_mem _))) (fun hq => ?_) (fun hq => ?_)) | refine aE rfl rfl rfl (nb rfl) rfl rfl (by omega) ?_ | refine bI rfl rfl rfl (nb rfl) rfl rfl rfl (by omega) (by omega) ?_ | refine bJ rfl rfl rfl (nb rfl) rfl rfl rfl (by omega) (by omega) ?_ | refine bH tabOk rfl rfl rfl (nb rfl) rfl rfl rfl rfl rfl rfl rfl rfl rfl ?_ | refine aZ tabOk rfl rfl (nb rfl) rfl ?_ | refine aU tabOk rfl rfl rfl (nb rfl) rfl rfl rfl rfl rfl rfl ?_ | refine aV tabOk rfl rfl rfl (nb rfl) rfl rfl rfl rfl ?_ | refine aN tabOk rfl rfl rfl rfl rfl rfl rfl rfl rfl rfl rfl ?_ | refine aR tabOk rfl rfl rfl (nb rfl) rfl rfl rfl rfl (by first | assumption | omega) ?_ | refine aJ tabOk rfl rfl rfl (nb rfl) rfl rfl rfl rfl (by first | rfl | omega) (by first | omega | simp) ?_ | refine aC tabOk rfl rfl rfl (nb rfl) rfl rfl rfl (by assumption) ?_ | refine aC tabOk rfl rfl rfl (nb rfl) rfl rfl rfl (bS _ _ (by first | assumption | omega)) ?_ | refine aE rfl rfl rfl (nb rfl) rfl rfl (by omega) ?_ | ((fail_if_success (refine aG (b := true) rfl rfl rfl ?_)); (fail_if_success (refine aG (b := false) rfl rfl rfl ?_)); refine aW rfl rfl rfl (fun hq => ?_) (fun hq => ?_) <;> first | subst hq | (first | (simp only [sD, sE, sB, sC, sN, sM, sT, sF] at hq; try (exfalso; omega)) | skip)) | fail) | (refine bW ?_; first | refine bN ?_ | refine bT ?_ | refine aQ ?_ | refine bD ?_ | refine bU ?_ | refine bL ?_ | refine bK ?_ | refine aA (b := true) rfl (fun _ => ?_) nTf | refine aA (b := false) rfl nFt (fun _ => ?_) | refine bE ?_ | refine bC ?_ | refine bA mixed (by kernel_rfl) ?_ | refine aD mixed (by kernel_rfl) ?_ | (refine aA rfl (fun hq => ?_) (fun hq => ?_) <;> first | subst hq | (first | (simp only [sD, sE, sB, sC, sN, sM, sT, sF] at hq; try (exfalso; omega)) | skip)) | fail) | (refine bQ ?_; first | refine bZ ?_ | refine aK ?_ | refine aT ?_ | fail) | (refine bG ?_; first | refine bV ?_ | refine aH ?_ | refine aI (by decide) ?_ | refine aM ?_ | fail) | refine bR (bB (by kernel_rfl)) ?_ | fail)
    all_goals (refine cA (by first | exact .inl rfl | exact .inr rfl) (cB rfl (aY rfl)) rfl ?_; refine cK ?_; clear cl1 cl2 hc hc2 ih e1 e2; by_cases h2 : kids.length = 2 <;> first | (obtain ⟨x, y, rfl⟩ := two h2; simp_all [isConP, isCons, isCon2, bareP, eqB, emptyB]; done) | (exfalso; omega) | (simp_all [isConP, eI, bareP, eqB, emptyB]; done) | (simp_all [isConP, eI, bareP, eqB, emptyB]; omega) | (rw [isConP]; cases hk : (k == 110) <;> simp_all [bareP, eqB, emptyB]; done))
end Go.Proofs.Ytlbemgokilhdnaa.Ab
namespace Go.Proofs.Ytlbemgokilhdnaa.Ab
set_option linter.unusedVariables false
set_option linter.unusedSimpArgs false
open Go.RowKit
attribute [local irreducible] AWP AOps AExit AThen ABlock ANoGoto FeetOk
set_option maxHeartbeats 4000000 in
set_option maxRecDepth 10000 in
theorem uA (left : Int) : ACalls Try.prog 96 [.imm (Tree.iv .nil), .imm (.lit (.int .i64 left))] [] (.imm (.tup [.lit (.int .i64 left), .lit (.int .i64 1)])) [] := by
  refine bY Try.func96 rfl rfl (nb rfl) rfl ?_
  repeat' (first | refine bM ?_ | (refine bP ?_; first | refine aX tabOk rfl rfl rfl (nb rfl) rfl ?_ | refine bF rfl rfl (nb rfl) ?_ | (refine bO rfl rfl rfl (nb rfl) rfl rfl rfl (fun hq => ?_) (fun hq => ?_) <;> (first | (simp only [sD, sE, sB, sC, sN, sM, sT, sF] at hq; try (exfalso; omega)) | skip)) | refine aE rfl rfl rfl (nb rfl) rfl rfl (by omega) ?_ | refine bI rfl rfl rfl (nb rfl) rfl rfl rfl (by omega) (by omega) ?_ | refine bJ rfl rfl rfl (nb rfl) rfl rfl rfl (by omega) (by omega) ?_ | refine bH tabOk rfl rfl rfl (nb rfl) rfl rfl rfl rfl rfl rfl rfl rfl rfl ?_ | refine aZ tabOk rfl rfl (nb rfl) rfl ?_ | refine aU tabOk rfl rfl rfl (nb rfl) rfl rfl rfl rfl rfl rfl ?_ | refine aV tabOk rfl rfl rfl (nb rfl) rfl rfl rfl rfl ?_ | refine aN tabOk rfl rfl rfl rfl rfl rfl rfl rfl rfl rfl rfl ?_ | refine aR tabOk rfl rfl rfl (nb rfl) rfl rfl rfl rfl (by first | assumption | omega) ?_ | refine aJ tabOk rfl rfl rfl (nb rfl) rfl rfl rfl rfl (by first | rfl | omega) (by first | omega | simp) ?_ | refine aC tabOk rfl rfl rfl (nb rfl) rfl rfl rfl (by assumption) ?_ | refine aC tabOk rfl rfl rfl (nb rfl) rfl rfl rfl (bS _ _ (by first | assumption | omega)) ?_ | refine aE rfl rfl rfl (nb rfl) rfl rfl (by omega) ?_ | ((fail_if_success (refine aG (b := true) rfl rfl rfl ?_)); (fail_if_success (refine aG (b := false) rfl rfl rfl ?_)); refine aW rfl rfl rfl (fun hq => ?_) (fun hq => ?_) <;> first | subst hq | (first | (simp only [sD, sE, sB, sC, sN, sM, sT, sF] at hq; try (exfalso; omega)) | skip)) | fail) | (refine bW ?_; first | refine bN ?_ | refine bT ?_ | refine aQ ?_ | refine bD ?_ | refine bU ?_ | refine bL ?_ | refine bK ?_ | refine aA (b := true) rfl (fun _ => ?_) nTf | refine aA (b := false) rfl nFt (fun _ => ?_) | refine bE ?_ | refine bC ?_ | refine bA mixed (by kernel_rfl) ?_ | refine aD mixed (by kernel_rfl) ?_ | (refine aA rfl (fun hq => ?_) (fun hq => ?_) <;> first | subst hq | (first | (simp only [sD, sE, sB, sC, sN, sM, sT, sF] at hq; try (exfalso; omega)) | skip)) | fail) | (refine bQ ?_; first | refine bZ ?_ | refine aK ?_ | refine aT ?_ | fail) | (refine bG ?_; first | refine bV ?_ | refine aH ?_ | refine aI (by decide) ?_ | refine aM ?_ | fail) | refine bR (bB (by kernel_rfl)) ?_ | fail)
  all_goals (refine cA (by first | exact .inl rfl | exact .inr rfl) (cC rfl (aY rfl) (aY rfl)) rfl ?_; rfl)
end Go.Proofs.Ytlbemgokilhdnaa.Ab
namespace Go.Proofs.Ytlbemgokilhdnaa.Ab
set_option linter.unusedVariables false
set_option linter.unusedSimpArgs false
open Go.RowKit
attribute [local irreducible] AWP AOps AExit AThen ABlock ANoGoto FeetOk
end Go.Proofs.Ytlbemgokilhdnaa.Ab
namespace Go.Proofs.Ytlbemgokilhdnaa.Ab
set_option linter.unusedVariables false
set_option linter.unusedSimpArgs false
open Go.RowKit
attribute [local irreducible] AWP AOps AExit AThen ABlock ANoGoto FeetOk
end Go.Proofs.Ytlbemgokilhdnaa.Ab
namespace Go.Proofs.Ytlbemgokilhdnaa.Ab
set_option linter.unusedVariables false
set_option linter.unusedSimpArgs false
open Go.RowKit
attribute [local irreducible] AWP AOps AExit AThen ABlock ANoGoto FeetOk
end Go.Proofs.Ytlbemgokilhdnaa.Ab
namespace Go.Proofs.Ytlbemgokilhdnaa.Ab
set_option linter.unusedVariables false
set_option linter.unusedSimpArgs false
open Go.RowKit
attribute [local irreducible] AWP AOps AExit AThen ABlock ANoGoto FeetOk
end Go.Proofs.Ytlbemgokilhdnaa.Ab
namespace Go.Proofs.Ytlbemgokilhdnaa.Ab
set_option linter.unusedVariables false
set_option linter.unusedSimpArgs false
open Go.RowKit
attribute [local irreducible] AWP AOps AExit AThen ABlock ANoGoto FeetOk
end Go.Proofs.Ytlbemgokilhdnaa.Ab
namespace Go.Proofs.Ytlbemgokilhdnaa.Ab
set_option linter.unusedVariables false
set_option linter.unusedSimpArgs false
open Go.RowKit
attribute [local irreducible] AWP AOps AExit AThen ABlock ANoGoto FeetOk
end Go.Proofs.Ytlbemgokilhdnaa.Ab
namespace Go.Proofs.Ytlbemgokilhdnaa.Ab
set_option linter.unusedVariables false
set_option linter.unusedSimpArgs false
open Go.RowKit
attribute [local irreducible] AWP AOps AExit AThen ABlock ANoGoto FeetOk
set_option maxHeartbeats 4000000 in
set_option maxRecDepth 10000 in
theorem vA (t : Tree) : t.whole = true → t.size ≤ 1000000 → ACalls Try.prog 54 [.imm t.iv] [] (.imm (.lit (.int .i64 (t.size : Int)))) [] := by
  induction t using Tree.ind with
  | h1 => intro h; simp [Tree.whole] at h
  | h2 k n a b kids ih =>
    intro hw hs
    have hl := cI kids hw
    have hsz : (Tree.node k n a b kids).size = 1 + Tree.sizes kids := by rw [Tree.size]
    rw [hsz] at hs ⊢
    have htk : ∀ j (h : j < kids.length), Tree.sizes (kids.take (j + 1)) = Tree.sizes (kids.take j) + kids[j].size := fun j h => by
      rw [List.take_succ_eq_append_getElem h, fC]
      simp only [Tree.sizes]; omega
    have hle : ∀ j, Tree.sizes (kids.take j) ≤ Tree.sizes kids := fun j => by
      have := fC (kids.take j) (kids.drop j)
      rw [List.take_append_drop] at this
      omega
    refine bY Try.func54 rfl rfl (nb rfl) rfl ?_
    repeat' (first | refine bM ?_ | (refine bP ?_; first | refine aX tabOk rfl rfl rfl (nb rfl) rfl ?_ | refine bF rfl rfl (nb rfl) ?_ | (refine bO rfl rfl rfl (nb rfl) rfl rfl rfl (fun hq => ?_) (fun hq => ?_) <;> (first | (simp only [sD, sE, sB, sC, sN, sM, sT, sF] at hq; try (exfalso; omega)) | skip)) | refine aE rfl rfl rfl (nb rfl) rfl rfl (by omega) ?_ | refine bI rfl rfl rfl (nb rfl) rfl rfl rfl (by omega) (by omega) ?_ | refine bJ rfl rfl rfl (nb rfl) rfl rfl rfl (by omega) (by omega) ?_ | refine bH tabOk rfl rfl rfl (nb rfl) rfl rfl rfl rfl rfl rfl rfl rfl rfl ?_ | refine aZ tabOk rfl rfl (nb rfl) rfl ?_ | refine aU tabOk rfl rfl rfl (nb rfl) rfl rfl rfl rfl rfl rfl ?_ | refine aV tabOk rfl rfl rfl (nb rfl) rfl rfl rfl rfl ?_ | refine aN tabOk rfl rfl rfl rfl rfl rfl rfl rfl rfl rfl rfl ?_ | refine aR tabOk rfl rfl rfl (nb rfl) rfl rfl rfl rfl (by first | assumption | omega) ?_ | refine aJ tabOk rfl rfl rfl (nb rfl) rfl rfl rfl rfl (by first | rfl | omega) (by first | omega | simp) ?_ | refine aC tabOk rfl rfl rfl (nb rfl) rfl rfl rfl (by assumption) ?_ | refine aC tabOk rfl rfl rfl (nb rfl) rfl rfl rfl (bS _ _ (by first | assumption | omega)) ?_ | refine aE rfl rfl rfl (nb rfl) rfl rfl (by omega) ?_ | ((fail_if_success (refine aG (b := true) rfl rfl rfl ?_)); (fail_if_success (refine aG (b := false) rfl rfl rfl ?_)); refine aW rfl rfl rfl (fun hq => ?_) (fun hq => ?_) <;> first | subst hq | (first | (simp only [sD, sE, sB, sC, sN, sM, sT, sF] at hq; try (exfalso; omega)) | skip)) | fail) | (refine bW ?_; first | refine bN ?_ | refine bT ?_ | refine aQ ?_ | refine bD ?_ | refine bU ?_ | refine bL ?_ | refine bK ?_ | refine aA (b := true) rfl (fun _ => ?_) nTf | refine aA (b := false) rfl nFt (fun _ => ?_) | refine bE ?_ | refine bC ?_ | refine bA mixed (by kernel_rfl) ?_ | refine aD mixed (by kernel_rfl) ?_ | (refine aA rfl (fun hq => ?_) (fun hq => ?_) <;> first | subst hq | (first | (simp only [sD, sE, sB, sC, sN, sM, sT, sF] at hq; try (exfalso; omega)) | skip)) | fail) | (refine bQ ?_; first | refine bZ ?_ | refine aK ?_ | refine aT ?_ | fail) | (refine bG ?_; first | refine bV ?_ | refine aH ?_ | refine aI (by decide) ?_ | refine aM ?_ | fail) | refine bR (bB (by kernel_rfl)) ?_ | fail)
    refine cH (ι := {j : Nat // j ≤ kids.length}) (fun j => S.f ⟨[(4, .imm (.lit (.int .i64 (j.1 : Int)))), (0, .imm (Tree.iv (.node k n a b kids))), (3, .imm (.lit (.int .i64 ((1 + Tree.sizes (kids.take j.1) : Nat) : Int))))], []⟩) (fun j => kids.length - j.1) ⟨0, Nat.zero_le _⟩ (cF (by repeat' first | exact trivial | refine ⟨rfl, ?_⟩) (by repeat' first | exact trivial | refine ⟨rfl, ?_⟩)) ?_
    rintro ⟨j, hj⟩
    dsimp only
    by_cases hlt : j < kids.length
    · have hm := List.getElem_mem hlt
      have hget := bS kids j hlt
      have h1 := htk j hlt
      have h2 := hle j
      have h3 := hle (j + 1)
      have hc := ih _ hm (cD hw hm) (by omega)
      repeat' (first | refine bM ?_ | (refine bP ?_; first | refine aX tabOk rfl rfl rfl (nb rfl) rfl ?_ | refine bF rfl rfl (nb rfl) ?_ | (refine bO rfl rfl rfl (nb rfl) rfl rfl rfl (fun hq => ?_) (fun hq => ?_) <;> (first | (simp only [sD, sE, sB, sC, sN, sM, sT, sF] at hq; try (exfalso; omega)) | skip))| refine aC tabOk rfl rfl rfl (nb rfl) rfl rfl rfl hget ?_ | refine bX rfl rfl (nb rfl) rfl rfl rfl rfl (hc) ?_ | refine bI (z := ((1 + Tree.sizes (kids.take (j + 1)) : Nat) : Int)) rfl rfl rfl (nb rfl) rfl rfl (by omega) (by omega) (by omega) ?_ | refine aE rfl rfl rfl (nb rfl) rfl rfl (by omega) ?_ | refine bI rfl rfl rfl (nb rfl) rfl rfl rfl (by omega) (by omega) ?_ | refine bJ rfl rfl rfl (nb rfl) rfl rfl rfl (by omega) (by omega) ?_ | refine bH tabOk rfl rfl rfl (nb rfl) rfl rfl rfl rfl rfl rfl rfl rfl rfl ?_ | refine aZ tabOk rfl rfl (nb rfl) rfl ?_ | refine aU tabOk rfl rfl rfl (nb rfl) rfl rfl rfl rfl rfl rfl ?_ | refine aV tabOk rfl rfl rfl (nb rfl) rfl rfl rfl rfl ?_ | refine aN tabOk rfl rfl rfl rfl rfl rfl rfl rfl rfl rfl rfl ?_ | refine aR tabOk rfl rfl rfl (nb rfl) rfl rfl rfl rfl (by first | assumption | omega) ?_ | refine aJ tabOk rfl rfl rfl (nb rfl) rfl rfl rfl rfl (by first | rfl | omega) (by first | omega | simp) ?_ | refine aC tabOk rfl rfl rfl (nb rfl) rfl rfl rfl (by assumption) ?_ | refine aC tabOk rfl rfl rfl (nb rfl) rfl rfl rfl (bS _ _ (by first | assumption | omega)) ?_ | refine aE rfl rfl rfl (nb rfl) rfl rfl (by omega) ?_ | ((fail_if_success (refine aG (b := true) rfl rfl rfl ?_)); (fail_if_success (refine aG (b := false) rfl rfl rfl ?_)); refine aW rfl rfl rfl (fun hq => ?_) (fun hq => ?_) <;> first | subst hq | (first | (simp only [sD, sE, sB, sC, sN, sM, sT, sF] at hq; try (exfalso; omega)) | skip)) | fail) | (refine bW ?_; first | refine bN ?_ | refine bT ?_ | refine aQ ?_ | refine bD ?_ | refine bU ?_ | refine bL ?_ | refine bK ?_ | refine aA (b := true) rfl (fun _ => ?_) nTf | refine aA (b := false) rfl nFt (fun _ => ?_) | refine bE ?_ | refine bC ?_ | refine bA mixed (by kernel_rfl) ?_ | refine aD mixed (by kernel_rfl) ?_ | (refine aA rfl (fun hq => ?_) (fun hq => ?_) <;> first | subst hq | (first | (simp only [sD, sE, sB, sC, sN, sM, sT, sF] at hq; try (exfalso; omega)) | skip)) | fail) | (refine bQ ?_; first | refine bZ ?_ | refine aK ?_ | refine aT ?_ | fail) | (refine bG ?_; first | refine bV ?_ | refine aH ?_ | refine aI (by decide) ?_ | refine aM ?_ | fail) | refine bR (bB (by kernel_rfl)) ?_ | fail)
      all_goals first
        | (exfalso; omega)
        | exact ⟨⟨j + 1, hlt⟩, (by show kids.length - (j + 1) < kids.length - j; omega), (cF (by repeat' first | exact trivial | refine ⟨rfl, ?_⟩) (by repeat' first | exact trivial | refine ⟨rfl, ?_⟩))⟩
    · have ej : j = kids.length := by omega
      subst ej
      rw [List.take_length]
      repeat' (first | refine bM ?_ | (refine bP ?_; first | refine aX tabOk rfl rfl rfl (nb rfl) rfl ?_ | refine bF rfl rfl (nb rfl) ?_ | (refine bO rfl rfl rfl (nb rfl) rfl rfl rfl (fun hq => ?_) (fun hq => ?_) <;> (first | (simp only [sD, sE, sB, sC, sN, sM, sT, sF] at hq; try (exfalso; omega)) | skip)) | refine aE rfl rfl rfl (nb rfl) rfl rfl (by omega) ?_ | refine bI rfl rfl rfl (nb rfl) rfl rfl rfl (by omega) (by omega) ?_ | refine bJ rfl rfl rfl (nb rfl) rfl rfl rfl (by omega) (by omega) ?_ | refine bH tabOk rfl rfl rfl (nb rfl) rfl rfl rfl rfl rfl rfl rfl rfl rfl ?_ | refine aZ tabOk rfl rfl (nb rfl) rfl ?_ | refine aU tabOk rfl rfl rfl (nb rfl) rfl rfl rfl rfl rfl rfl ?_ | refine aV tabOk rfl rfl rfl (nb rfl) rfl rfl rfl rfl ?_ | refine aN tabOk rfl rfl rfl rfl rfl rfl rfl rfl rfl rfl rfl ?_ | refine aR tabOk rfl rfl rfl (nb rfl) rfl rfl rfl rfl (by first | assumption | omega) ?_ | refine aJ tabOk rfl rfl rfl (nb rfl) rfl rfl rfl rfl (by first | rfl | omega) (by first | omega | simp) ?_ | refine aC tabOk rfl rfl rfl (nb rfl) rfl rfl rfl (by assumption) ?_ | refine aC tabOk rfl rfl rfl (nb rfl) rfl rfl rfl (bS _ _ (by first | assumption | omega)) ?_ | refine aE rfl rfl rfl (nb rfl) rfl rfl (by omega) ?_ | ((fail_if_success (refine aG (b := true) rfl rfl rfl ?_)); (fail_if_success (refine aG (b := false) rfl rfl rfl ?_)); refine aW rfl rfl rfl (fun hq => ?_) (fun hq => ?_) <;> first | subst hq | (first | (simp only [sD, sE, sB, sC, sN, sM, sT, sF] at hq; try (exfalso; omega)) | skip)) | fail) | (refine bW ?_; first | refine bN ?_ | refine bT ?_ | refine aQ ?_ | refine bD ?_ | refine bU ?_ | refine bL ?_ | refine bK ?_ | refine aA (b := true) rfl (fun _ => ?_) nTf | refine aA (b := false) rfl nFt (fun _ => ?_) | refine bE ?_ | refine bC ?_ | refine bA mixed (by kernel_rfl) ?_ | refine aD mixed (by kernel_rfl) ?_ | (refine aA rfl (fun hq => ?_) (fun hq => ?_) <;> first | subst hq | (first | (simp only [sD, sE, sB, sC, sN, sM, sT, sF] at hq; try (exfalso; omega)) | skip)) | fail) | (refine bQ ?_; first | refine bZ ?_ | refine aK ?_ | refine aT ?_ | fail) | (refine bG ?_; first | refine bV ?_ | refine aH ?_ | refine aI (by decide) ?_ | refine aM ?_ | fail) | refine bR (bB (by kernel_rfl)) ?_ | fail)
      all_goals first
        | (exfalso; omega)
        | (refine cA (by first | exact .inl rfl | exact .inr rfl) (cB rfl (aY rfl)) rfl ?_; rfl)
end Go.Proofs.Ytlbemgokilhdnaa.Ab
namespace Go.Proofs.Ytlbemgokilhdnaa.Ab
set_option linter.unusedVariables false
set_option linter.unusedSimpArgs false
open Go.RowKit
attribute [local irreducible] AWP AOps AExit AThen ABlock ANoGoto FeetOk
section
variable {P : Program} {T : Tab} {keep : List Nat} {N : Nat} {ops : Array Oper} {K : List Foot → SF → Prop} {o : Oper} {rest : List Oper} {ks : List Foot} {s : List (Nat × AV)} {m : Mem} {d : Nat}
/-- A boxed value, by a name that was reserved. -/
theorem eC (g : Nat) {t : Nat} {x : Operand} {y : AV} (ho : o.op = .box t x) (hw : wantedA ops o (S.f ⟨s, m⟩) = some true) (hd : o.dst = some d) (hN : d < N) (hx : (S.f ⟨s, m⟩).ev x = some y) (h1 : y.cells.all AV.one = true) (hg : m.get g = some .fut) (hy : (AV.namesL y.cells).contains g = false)
    {cs : List AV} (hcs : y.cells = cs) (k : AOps P keep N ops K rest (⟨[g], false, false⟩ :: ks) (S.f ⟨(d, .obj g 0) :: s, m.put g (.cells cs)⟩)) : AOps P keep N ops K (o :: rest) ks (S.f ⟨s, m⟩) := by
  subst hcs
  exact jU hw hd hN (jF g ho hx h1 (by simpa using hy)).fut hg k
end
mutual
/-- Has no node of a tree a mark? -/
def noMark : Tree → Bool
  | .nil => true
  | .node _ _ _ b kids => decide (b = emptyB) && noMarks kids
def noMarks : List Tree → Bool
  | [] => true
  | t :: ts => noMark t && noMarks ts
end
theorem kZ : ∀ {l : List Tree}, noMarks l = true → ∀ t ∈ l, noMark t = true
  | x :: xs, h, t, ht => by
    simp only [noMarks, Bool.and_eq_true] at h
    rcases List.mem_cons.1 ht with rfl | ht
    · exact h.1
    · exact kZ h.2 t ht
theorem nC : ∀ {l : List Tree}, (∀ t ∈ l, noMark t = true) → noMarks l = true
  | [], _ => by rw [noMarks]
  | x :: xs, h => by
    simp only [noMarks, Bool.and_eq_true]
    exact ⟨h x (by simp), nC fun t ht => h t (by simp [ht])⟩
theorem lA {k n : Int} {a b : ByteArray} {kids : List Tree} (h : noMark (.node k n a b kids) = true) : b = emptyB ∧ ∀ t ∈ kids, noMark t = true := by
  rw [noMark, Bool.and_eq_true, decide_eq_true_eq] at h
  exact ⟨h.1, kZ h.2⟩
theorem iP {k n : Int} {a b : ByteArray} {kids : List Tree} (hb : b = emptyB) (h : ∀ t ∈ kids, noMark t = true) : noMark (.node k n a b kids) = true := by
  rw [noMark, Bool.and_eq_true, decide_eq_true_eq]
  exact ⟨hb, nC h⟩
theorem gQ {n : Int} {a b : ByteArray} {nm nu : Bool} (h : bareP n a b nm nu = true) : b = emptyB := by
  simp only [bareP, Bool.and_eq_true] at h
  exact pR h.1.1
theorem rY (t : Tree) : isKindP t = true → noMark t = true := by
  induction t using Tree.ind with
  | h1 => intro h; simp [isKindP] at h
  | h2 k n a b kids ih =>
    intro h
    rw [isKindP] at h
    split at h
    · rename_i e
      simp only [Bool.and_eq_true, beq_iff_eq] at h
      have e0 : kids = [] := List.eq_nil_of_length_eq_zero (by omega)
      subst e0
      exact iP (gQ h.1) (by simp)
    · split at h
      · rename_i e0 e
        simp only [Bool.and_eq_true] at h
        refine iP (gQ h.1.1) fun t ht => ih t ht ?_
        rw [eX, List.all_map] at h
        exact List.all_eq_true.1 h.2 t ht
      · cases h
theorem iF {kind : Int} {t : Tree} (ih : ∀ t' : Tree, t'.size < t.size → isConP t' = true → noMark t' = true) (h : okNamed kind t = true) : noMark t = true := by
  cases t with
  | nil => simp [okNamed] at h
  | node k n a b ks =>
    simp only [okNamed, Bool.and_eq_true, beq_iff_eq] at h
    obtain ⟨⟨⟨rfl, hb⟩, _⟩, h⟩ := h
    by_cases h1 : ks.length = 1
    · obtain ⟨c, rfl⟩ := one_of h1
      refine iP (gQ hb) fun t ht => ?_
      obtain rfl := List.mem_singleton.1 ht
      exact ih t (cG (by simp)) (by simpa [isCon1] using h)
    · rw [fA h1] at h; cases h
/-- A constructor has no marks. -/
theorem nD (t : Tree) : isConP t = true → noMark t = true := by
  induction t using Tree.sind with
  | h t ih =>
    intro h
    cases t with
    | nil => simp [isConP] at h
    | node k n a b kids =>
      rw [isConP, Bool.and_eq_true] at h
      obtain ⟨hb, h⟩ := h
      have kid : ∀ t ∈ kids, isConP t = true → noMark t = true := fun t ht => ih t (cG ht)
      refine iP (gQ hb) fun t ht => ?_
      have hz := cG (k := k) (n := n) (a := a) (b := b) ht
      by_cases k0 : k = 110
      · rw [if_pos k0] at h
        simp only [Bool.and_eq_true, beq_iff_eq] at h
        have e0 : kids = [] := List.eq_nil_of_length_eq_zero (by omega)
        rw [e0] at ht; cases ht
      · rw [if_neg k0] at h
        by_cases k1 : k = 111 ∨ k = 112 ∨ k = 113
        · rw [if_pos k1] at h
          have e0 : kids = [] := List.eq_nil_of_length_eq_zero (by simpa using h)
          rw [e0] at ht
          cases ht
        · rw [if_neg k1] at h
          by_cases k2 : k = 114 ∨ k = 120
          · rw [if_pos k2, Bool.and_eq_true, jK] at h
            exact kid t ht (List.all_eq_true.1 h.2 t ht)
          · rw [if_neg k2] at h
            by_cases k3 : k = 115
            · rw [if_pos k3, Bool.and_eq_true, dC] at h
              exact iF (fun t' h1 h2 => ih t' (by omega) h2) (List.all_eq_true.1 h.1 t ht)
            · rw [if_neg k3] at h
              by_cases k4 : k = 117 ∨ k = 118 ∨ k = 119
              · rw [if_pos k4] at h
                by_cases h2 : kids.length = 2
                · obtain ⟨x, y, rfl⟩ := two h2
                  simp only [isCon2, Bool.and_eq_true] at h
                  rcases List.mem_cons.1 ht with rfl | ht'
                  · exact rY _ h.1
                  · obtain rfl := List.mem_singleton.1 ht'
                    exact kid _ ht h.2
                · rw [eI h2] at h; cases h
              · rw [if_neg k4] at h
                by_cases k5 : k = 121
                · rw [if_pos k5, Bool.and_eq_true, Bool.and_eq_true, dC] at h
                  exact iF (fun t' h1 h2 => ih t' (by omega) h2) (List.all_eq_true.1 h.1.2 t ht)
                · rw [if_neg k5] at h; cases h
section
variable {σ : Type} (V : Int → Int → σ → Tree × σ) (B : σ → Prop)
theorem eJ {k : Int} (n d : Int) (s : σ) {a b : ByteArray} (kids : List Tree) (hk : ¬ k = 110) : walkS V (.node k n a b kids) d s = (.node k n a b (walkSs V kids (d + bindsP k) s).1, (walkSs V kids (d + bindsP k) s).2) := by
  by_cases h : kids.length = 0
  · have e0 : kids = [] := List.eq_nil_of_length_eq_zero h
    subst e0
    rw [gN _ _ _ _ hk, cU]
  · rw [gO _ _ _ _ hk h]
/-- What is refused once stays refused. -/
theorem wW (hV : ∀ n d s, B s → B (V n d s).2) (t : Tree) : ∀ d s, B s → B (walkS V t d s).2 := by
  induction t using Tree.ind with
  | h1 => intro d s h; rw [walkS]; exact h
  | h2 k n a b kids ih =>
    intro d s h
    by_cases k0 : k = 110
    · subst k0; rw [dT]; exact hV _ _ _ h
    · rw [eJ V _ _ _ _ k0]
      have key : ∀ (l : List Tree) (s : σ), (∀ t ∈ l, t ∈ kids) → B s → B (walkSs V l (d + bindsP k) s).2 := by
        intro l
        induction l with
        | nil => intro s _ h; rw [cU]; exact h
        | cons t ts ih2 =>
          intro s hm h
          rw [walkSs]
          exact ih2 _ (fun t' h' => hm t' (by simp [h'])) (ih t (hm t (by simp)) _ _ h)
      exact key kids s (fun _ h => h) h
theorem gR (hV : ∀ n d s, B s → B (V n d s).2) (d : Int) : ∀ (l : List Tree) (s : σ), B s → B (walkSs V l d s).2
  | [], s, h => by rw [cU]; exact h
  | t :: ts, s, h => by rw [walkSs]; exact gR hV d ts _ (wW V B hV t d s h)
theorem nE (d : Int) : ∀ (l r : List Tree) (s : σ), (walkSs V (l ++ r) d s).2 = (walkSs V r d (walkSs V l d s).2).2
  | [], r, s => by rw [cU]; rfl
  | t :: ts, r, s => by rw [List.cons_append, walkSs, walkSs]; exact nE d ts r _
theorem nF (hV : ∀ n d s, B s → B (V n d s).2) (d : Int) (s : σ) (l : List Tree) (j : Nat) (h : B (walkSs V (l.take j) d s).2) : B (walkSs V l d s).2 := by
  have e := nE V d (l.take j) (l.drop j) s
  rw [List.take_append_drop] at e
  rw [e]
  exact gR V B hV d _ _ h
end
set_option maxRecDepth 10000 in
theorem nG (k n : Int) (a b : ByteArray) (kids : List Tree) : ACalls Try.prog 139 [.imm (Tree.iv (.node k n a b kids))] [] (.imm (.lit (.int .i64 (bindsP k)))) [] := by
  refine bY Try.func139 rfl rfl (nb rfl) rfl ?_
  repeat' (first | refine bM ?_ | (refine bP ?_; first | refine aX tabOk rfl rfl rfl (nb rfl) rfl ?_ | refine bF rfl rfl (nb rfl) ?_ | (refine bO rfl rfl rfl (nb rfl) rfl rfl rfl (fun hq => ?_) (fun hq => ?_) <;> (first | (simp only [sD, sE, sB, sC, sN, sM, sT, sF] at hq; try (exfalso; omega)) | skip)) | refine aE rfl rfl rfl (nb rfl) rfl rfl (by omega) ?_ | refine bI rfl rfl rfl (nb rfl) rfl rfl rfl (by omega) (by omega) ?_ | refine bJ rfl rfl rfl (nb rfl) rfl rfl rfl (by omega) (by omega) ?_ | refine bH tabOk rfl rfl rfl (nb rfl) rfl rfl rfl rfl rfl rfl rfl rfl rfl ?_ | refine aZ tabOk rfl rfl (nb rfl) rfl ?_ | refine aU tabOk rfl rfl rfl (nb rfl) rfl rfl rfl rfl rfl rfl ?_ | refine aV tabOk rfl rfl rfl (nb rfl) rfl rfl rfl rfl ?_ | refine aN tabOk rfl rfl rfl rfl rfl rfl rfl rfl rfl rfl rfl ?_ | refine aR tabOk rfl rfl rfl (nb rfl) rfl rfl rfl rfl (by first | assumption | omega) ?_ | refine aJ tabOk rfl rfl rfl (nb rfl) rfl rfl rfl rfl (by first | rfl | omega) (by first | omega | simp) ?_ | refine aC tabOk rfl rfl rfl (nb rfl) rfl rfl rfl (by assumption) ?_ | refine aC tabOk rfl rfl rfl (nb rfl) rfl rfl rfl (bS _ _ (by first | assumption | omega)) ?_ | refine aE rfl rfl rfl (nb rfl) rfl rfl (by omega) ?_ | ((fail_if_success (refine aG (b := true) rfl rfl rfl ?_)); (fail_if_success (refine aG (b := false) rfl rfl rfl ?_)); refine aW rfl rfl rfl (fun hq => ?_) (fun hq => ?_) <;> first | subst hq | (first | (simp only [sD, sE, sB, sC, sN, sM, sT, sF] at hq; try (exfalso; omega)) | skip)) | fail) | (refine bW ?_; first | refine bN ?_ | refine bT ?_ | refine aQ ?_ | refine bD ?_ | refine bU ?_ | refine bL ?_ | refine bK ?_ | refine aA (b := true) rfl (fun _ => ?_) nTf | refine aA (b := false) rfl nFt (fun _ => ?_) | refine bE ?_ | refine bC ?_ | refine bA mixed (by kernel_rfl) ?_ | refine aD mixed (by kernel_rfl) ?_ | (refine aA rfl (fun hq => ?_) (fun hq => ?_) <;> first | subst hq | (first | (simp only [sD, sE, sB, sC, sN, sM, sT, sF] at hq; try (exfalso; omega)) | skip)) | fail) | (refine bQ ?_; first | refine bZ ?_ | refine aK ?_ | refine aT ?_ | fail) | (refine bG ?_; first | refine bV ?_ | refine aH ?_ | refine aI (by decide) ?_ | refine aM ?_ | fail) | refine bR (bB (by kernel_rfl)) ?_ | fail)
  all_goals (refine cA (by first | exact .inl rfl | exact .inr rfl) (cB rfl (aY rfl)) rfl ?_; refine kE ?_; unfold bindsP; first | (rw [if_pos (by omega)]; done) | (rw [if_neg (by omega)]; done))
/-- What is told of what was made anew: it, or nil. -/
def told (R : Tree × Bool) : Tree := if R.2 = true then R.1 else .nil
theorem iQ (t : Tree) : told (t, true) = t := rfl
theorem nH (t : Tree) : told (t, false) = .nil := rfl
theorem uB (by_ from_ : Int) (n d : Int) (s : Bool) (h : s = false) : (shiftV by_ from_ n d s).2 = false := by
  subst h
  unfold shiftV
  split
  · rfl
  · rw [if_neg (by simp)]
end Go.Proofs.Ytlbemgokilhdnaa.Ab
namespace Go.Proofs.Ytlbemgokilhdnaa.Ab
set_option linter.unusedVariables false
set_option linter.unusedSimpArgs false
open Go.RowKit
attribute [local irreducible] AWP AOps AExit AThen ABlock ANoGoto FeetOk
set_option maxHeartbeats 16000000 in
set_option maxRecDepth 10000 in
theorem yN (by_ from_ : Int) (t : Tree) : ∀ d : Int, okVars t = true → noMark t = true → t.whole = true → 0 ≤ d → d + t.size ≤ 1000000 →
    ACalls Try.prog 140 [.imm t.iv, .imm (.lit (.int .i64 by_)), .imm (.lit (.int .i64 from_)), .imm (.lit (.int .i64 d))] [] (.imm (.tup [(told (walkS (shiftV by_ from_) t d true)).iv, .lit (.bool (walkS (shiftV by_ from_) t d true).2)])) [] := by
  induction t using Tree.ind with
  | h1 => intro d _ _ h; simp [Tree.whole] at h
  | h2 k n a b kids ih =>
    intro d hv hk hw hd hs
    have hl := cI kids hw
    have hsz : (Tree.node k n a b kids).size = 1 + Tree.sizes kids := by rw [Tree.size]
    rw [hsz] at hs
    have ci := nG k n a b kids
    obtain ⟨rfl, hks⟩ := lA hk
    by_cases k110 : k = 110
    · obtain ⟨q1, q2, rfl, _, rfl⟩ := dL k110 hv
      subst k110
      clear ih
      rw [dT]
      unfold shiftV
      by_cases h1 : n < d ∨ n - d < from_
      · rw [if_pos h1]
        refine cS Try.func140 rfl rfl (nb rfl) rfl ?_
        refine cY (eW 27 (by simp) rfl rfl) ?_
        repeat' (first | refine bM ?_ | (refine bP ?_; first | refine aX tabOk rfl rfl rfl (nb rfl) rfl ?_ | refine bF rfl rfl (nb rfl) ?_ | (refine bO rfl rfl rfl (nb rfl) rfl rfl rfl (fun hq => ?_) (fun hq => ?_) <;> (first | (simp only [sD, sE, sB, sC, sN, sM, sT, sF] at hq; try (exfalso; omega)) | skip))| refine dG (d := 26) tabOk rfl rfl rfl (nb rfl) rfl rfl rfl rfl rfl ?_ | refine eC 27 (d := 27) rfl rfl rfl (nb rfl) rfl rfl rfl rfl rfl ?_ | refine aE rfl rfl rfl (nb rfl) rfl rfl (by omega) ?_ | refine bI rfl rfl rfl (nb rfl) rfl rfl rfl (by omega) (by omega) ?_ | refine bJ rfl rfl rfl (nb rfl) rfl rfl rfl (by omega) (by omega) ?_ | refine bH tabOk rfl rfl rfl (nb rfl) rfl rfl rfl rfl rfl rfl rfl rfl rfl ?_ | refine aZ tabOk rfl rfl (nb rfl) rfl ?_ | refine aU tabOk rfl rfl rfl (nb rfl) rfl rfl rfl rfl rfl rfl ?_ | refine aV tabOk rfl rfl rfl (nb rfl) rfl rfl rfl rfl ?_ | refine aN tabOk rfl rfl rfl rfl rfl rfl rfl rfl rfl rfl rfl ?_ | refine aR tabOk rfl rfl rfl (nb rfl) rfl rfl rfl rfl (by first | assumption | omega) ?_ | refine aJ tabOk rfl rfl rfl (nb rfl) rfl rfl rfl rfl (by first | rfl | omega) (by first | omega | simp) ?_ | refine aC tabOk rfl rfl rfl (nb rfl) rfl rfl rfl (by assumption) ?_ | refine aC tabOk rfl rfl rfl (nb rfl) rfl rfl rfl (bS _ _ (by first | assumption | omega)) ?_ | refine aE rfl rfl rfl (nb rfl) rfl rfl (by omega) ?_ | ((fail_if_success (refine aG (b := true) rfl rfl rfl ?_)); (fail_if_success (refine aG (b := false) rfl rfl rfl ?_)); refine aW rfl rfl rfl (fun hq => ?_) (fun hq => ?_) <;> first | subst hq | (first | (simp only [sD, sE, sB, sC, sN, sM, sT, sF] at hq; try (exfalso; omega)) | skip)) | fail) | (refine bW ?_; first | refine bN ?_ | refine bT ?_ | refine aQ ?_ | refine bD ?_ | refine bU ?_ | refine bL ?_ | refine bK ?_ | refine aA (b := true) rfl (fun _ => ?_) nTf | refine aA (b := false) rfl nFt (fun _ => ?_) | refine bE ?_ | refine bC ?_ | refine bA mixed (by kernel_rfl) ?_ | refine aD mixed (by kernel_rfl) ?_ | (refine aA rfl (fun hq => ?_) (fun hq => ?_) <;> first | subst hq | (first | (simp only [sD, sE, sB, sC, sN, sM, sT, sF] at hq; try (exfalso; omega)) | skip)) | fail) | (refine bQ ?_; first | refine bZ ?_ | refine aK ?_ | refine aT ?_ | fail) | (refine bG ?_; first | refine bV ?_ | refine aH ?_ | refine aI (by decide) ?_ | refine aM ?_ | fail) | refine bR (bB (by kernel_rfl)) ?_ | fail)
        all_goals first
          | exact absurd rfl (by assumption)
          | (exfalso; omega)
          | (refine cY (dU (h0 := 27) (k0 := 4) 500 25 1 rfl rfl (by simp) rfl rfl) ?_
             refine cH (ι := Unit) (fun _ => S.f ⟨[(11, .imm (.lit (.int .i64 0))), (10, .obj 27 0), (0, .imm (Tree.iv (.node 110 n emptyB emptyB [])))], [(500, .arr 25 1 0 []), (27, .cells [.imm (.lit (.int .i64 110)), .imm (.lit (.int .i64 (n))), .imm (.lit (.string ⟨#[]⟩)), .imm (.lit (.string ⟨#[]⟩)), .ref 500 0])]⟩) (fun _ => 0) () (cF (by repeat' first | exact trivial | refine ⟨rfl, ?_⟩) (by repeat' first | exact trivial | refine ⟨rfl, ?_⟩)) ?_
             rintro ⟨⟩
             dsimp only
             repeat' (first | refine bM ?_ | (refine bP ?_; first | refine aX tabOk rfl rfl rfl (nb rfl) rfl ?_ | refine bF rfl rfl (nb rfl) ?_ | (refine bO rfl rfl rfl (nb rfl) rfl rfl rfl (fun hq => ?_) (fun hq => ?_) <;> (first | (simp only [sD, sE, sB, sC, sN, sM, sT, sF] at hq; try (exfalso; omega)) | skip)) | refine aE rfl rfl rfl (nb rfl) rfl rfl (by omega) ?_ | refine bI rfl rfl rfl (nb rfl) rfl rfl rfl (by omega) (by omega) ?_ | refine bJ rfl rfl rfl (nb rfl) rfl rfl rfl (by omega) (by omega) ?_ | refine bH tabOk rfl rfl rfl (nb rfl) rfl rfl rfl rfl rfl rfl rfl rfl rfl ?_ | refine aZ tabOk rfl rfl (nb rfl) rfl ?_ | refine aU tabOk rfl rfl rfl (nb rfl) rfl rfl rfl rfl rfl rfl ?_ | refine aV tabOk rfl rfl rfl (nb rfl) rfl rfl rfl rfl ?_ | refine aN tabOk rfl rfl rfl rfl rfl rfl rfl rfl rfl rfl rfl ?_ | refine aR tabOk rfl rfl rfl (nb rfl) rfl rfl rfl rfl (by first | assumption | omega) ?_ | refine aJ tabOk rfl rfl rfl (nb rfl) rfl rfl rfl rfl (by first | rfl | omega) (by first | omega | simp) ?_ | refine aC tabOk rfl rfl rfl (nb rfl) rfl rfl rfl (by assumption) ?_ | refine aC tabOk rfl rfl rfl (nb rfl) rfl rfl rfl (bS _ _ (by first | assumption | omega)) ?_ | refine aE rfl rfl rfl (nb rfl) rfl rfl (by omega) ?_ | ((fail_if_success (refine aG (b := true) rfl rfl rfl ?_)); (fail_if_success (refine aG (b := false) rfl rfl rfl ?_)); refine aW rfl rfl rfl (fun hq => ?_) (fun hq => ?_) <;> first | subst hq | (first | (simp only [sD, sE, sB, sC, sN, sM, sT, sF] at hq; try (exfalso; omega)) | skip)) | fail) | (refine bW ?_; first | refine bN ?_ | refine bT ?_ | refine aQ ?_ | refine bD ?_ | refine bU ?_ | refine bL ?_ | refine bK ?_ | refine aA (b := true) rfl (fun _ => ?_) nTf | refine aA (b := false) rfl nFt (fun _ => ?_) | refine bE ?_ | refine bC ?_ | refine bA mixed (by kernel_rfl) ?_ | refine aD mixed (by kernel_rfl) ?_ | (refine aA rfl (fun hq => ?_) (fun hq => ?_) <;> first | subst hq | (first | (simp only [sD, sE, sB, sC, sN, sM, sT, sF] at hq; try (exfalso; omega)) | skip)) | fail) | (refine bQ ?_; first | refine bZ ?_ | refine aK ?_ | refine aT ?_ | fail) | (refine bG ?_; first | refine bV ?_ | refine aH ?_ | refine aI (by decide) ?_ | refine aM ?_ | fail) | refine bR (bB (by kernel_rfl)) ?_ | fail)
             all_goals first
               | (exfalso; have hh : (0 : Int) < (([] : List Tree).length : Int) := by assumption
                  simp at hh)
               | (exfalso; omega)
               | (refine dR ((Imp.of_le (σ' := S.f ⟨[(8, .obj 27 0), (9, .imm (.lit (.bool true)))], [(500, .arr 25 1 0 []), (27, .cells [.imm (.lit (.int .i64 110)), .imm (.lit (.int .i64 (n))), .imm (.lit (.string ⟨#[]⟩)), .imm (.lit (.string ⟨#[]⟩)), .ref 500 0])]⟩) (cF (by repeat' first | exact trivial | refine ⟨rfl, ?_⟩) (by repeat' first | exact trivial | refine ⟨rfl, ?_⟩))).trans ((cW (g := 500) rfl (by repeat' first | exact trivial | exact fun _ => rfl | refine ⟨?_, ?_⟩) (by repeat' first | exact trivial | exact fun _ => rfl | refine ⟨?_, ?_⟩)).trans (dE (g := 27) rfl rfl))) ?_
                  refine cA (by first | exact .inl rfl | exact .inr rfl) (cC rfl (aY rfl) (aY rfl)) rfl ?_; rfl))
      · rw [if_neg h1]
        by_cases h2 : d - n ≤ by_ ∧ by_ ≤ 65536 - n
        · rw [if_pos ⟨rfl, h2⟩]
          refine cS Try.func140 rfl rfl (nb rfl) rfl ?_
          refine cY (eW 27 (by simp) rfl rfl) ?_
          repeat' (first | refine bM ?_ | (refine bP ?_; first | refine aX tabOk rfl rfl rfl (nb rfl) rfl ?_ | refine bF rfl rfl (nb rfl) ?_ | (refine bO rfl rfl rfl (nb rfl) rfl rfl rfl (fun hq => ?_) (fun hq => ?_) <;> (first | (simp only [sD, sE, sB, sC, sN, sM, sT, sF] at hq; try (exfalso; omega)) | skip))| refine dG (d := 26) tabOk rfl rfl rfl (nb rfl) rfl rfl rfl rfl rfl ?_ | refine eC 27 (d := 27) rfl rfl rfl (nb rfl) rfl rfl rfl rfl rfl ?_ | refine bI (z := n + by_) rfl rfl rfl (nb rfl) rfl rfl rfl (by omega) (by omega) ?_ | refine aE rfl rfl rfl (nb rfl) rfl rfl (by omega) ?_ | refine bI rfl rfl rfl (nb rfl) rfl rfl rfl (by omega) (by omega) ?_ | refine bJ rfl rfl rfl (nb rfl) rfl rfl rfl (by omega) (by omega) ?_ | refine bH tabOk rfl rfl rfl (nb rfl) rfl rfl rfl rfl rfl rfl rfl rfl rfl ?_ | refine aZ tabOk rfl rfl (nb rfl) rfl ?_ | refine aU tabOk rfl rfl rfl (nb rfl) rfl rfl rfl rfl rfl rfl ?_ | refine aV tabOk rfl rfl rfl (nb rfl) rfl rfl rfl rfl ?_ | refine aN tabOk rfl rfl rfl rfl rfl rfl rfl rfl rfl rfl rfl ?_ | refine aR tabOk rfl rfl rfl (nb rfl) rfl rfl rfl rfl (by first | assumption | omega) ?_ | refine aJ tabOk rfl rfl rfl (nb rfl) rfl rfl rfl rfl (by first | rfl | omega) (by first | omega | simp) ?_ | refine aC tabOk rfl rfl rfl (nb rfl) rfl rfl rfl (by assumption) ?_ | refine aC tabOk rfl rfl rfl (nb rfl) rfl rfl rfl (bS _ _ (by first | assumption | omega)) ?_ | refine aE rfl rfl rfl (nb rfl) rfl rfl (by omega) ?_ | ((fail_if_success (refine aG (b := true) rfl rfl rfl ?_)); (fail_if_success (refine aG (b := false) rfl rfl rfl ?_)); refine aW rfl rfl rfl (fun hq => ?_) (fun hq => ?_) <;> first | subst hq | (first | (simp only [sD, sE, sB, sC, sN, sM, sT, sF] at hq; try (exfalso; omega)) | skip)) | fail) | (refine bW ?_; first | refine bN ?_ | refine bT ?_ | refine aQ ?_ | refine bD ?_ | refine bU ?_ | refine bL ?_ | refine bK ?_ | refine aA (b := true) rfl (fun _ => ?_) nTf | refine aA (b := false) rfl nFt (fun _ => ?_) | refine bE ?_ | refine bC ?_ | refine bA mixed (by kernel_rfl) ?_ | refine aD mixed (by kernel_rfl) ?_ | (refine aA rfl (fun hq => ?_) (fun hq => ?_) <;> first | subst hq | (first | (simp only [sD, sE, sB, sC, sN, sM, sT, sF] at hq; try (exfalso; omega)) | skip)) | fail) | (refine bQ ?_; first | refine bZ ?_ | refine aK ?_ | refine aT ?_ | fail) | (refine bG ?_; first | refine bV ?_ | refine aH ?_ | refine aI (by decide) ?_ | refine aM ?_ | fail) | refine bR (bB (by kernel_rfl)) ?_ | fail)
          all_goals first
            | exact absurd rfl (by assumption)
            | (exfalso; omega)
            | (refine cY (dU (h0 := 27) (k0 := 4) 500 25 1 rfl rfl (by simp) rfl rfl) ?_
               refine cH (ι := Unit) (fun _ => S.f ⟨[(11, .imm (.lit (.int .i64 0))), (10, .obj 27 0), (0, .imm (Tree.iv (.node 110 n emptyB emptyB [])))], [(500, .arr 25 1 0 []), (27, .cells [.imm (.lit (.int .i64 110)), .imm (.lit (.int .i64 (n + by_))), .imm (.lit (.string ⟨#[]⟩)), .imm (.lit (.string ⟨#[]⟩)), .ref 500 0])]⟩) (fun _ => 0) () (cF (by repeat' first | exact trivial | refine ⟨rfl, ?_⟩) (by repeat' first | exact trivial | refine ⟨rfl, ?_⟩)) ?_
               rintro ⟨⟩
               dsimp only
               repeat' (first | refine bM ?_ | (refine bP ?_; first | refine aX tabOk rfl rfl rfl (nb rfl) rfl ?_ | refine bF rfl rfl (nb rfl) ?_ | (refine bO rfl rfl rfl (nb rfl) rfl rfl rfl (fun hq => ?_) (fun hq => ?_) <;> (first | (simp only [sD, sE, sB, sC, sN, sM, sT, sF] at hq; try (exfalso; omega)) | skip)) | refine aE rfl rfl rfl (nb rfl) rfl rfl (by omega) ?_ | refine bI rfl rfl rfl (nb rfl) rfl rfl rfl (by omega) (by omega) ?_ | refine bJ rfl rfl rfl (nb rfl) rfl rfl rfl (by omega) (by omega) ?_ | refine bH tabOk rfl rfl rfl (nb rfl) rfl rfl rfl rfl rfl rfl rfl rfl rfl ?_ | refine aZ tabOk rfl rfl (nb rfl) rfl ?_ | refine aU tabOk rfl rfl rfl (nb rfl) rfl rfl rfl rfl rfl rfl ?_ | refine aV tabOk rfl rfl rfl (nb rfl) rfl rfl rfl rfl ?_ | refine aN tabOk rfl rfl rfl rfl rfl rfl rfl rfl rfl rfl rfl ?_ | refine aR tabOk rfl rfl rfl (nb rfl) rfl rfl rfl rfl (by first | assumption | omega) ?_ | refine aJ tabOk rfl rfl rfl (nb rfl) rfl rfl rfl rfl (by first | rfl | omega) (by first | omega | simp) ?_ | refine aC tabOk rfl rfl rfl (nb rfl) rfl rfl rfl (by assumption) ?_ | refine aC tabOk rfl rfl rfl (nb rfl) rfl rfl rfl (bS _ _ (by first | assumption | omega)) ?_ | refine aE rfl rfl rfl (nb rfl) rfl rfl (by omega) ?_ | ((fail_if_success (refine aG (b := true) rfl rfl rfl ?_)); (fail_if_success (refine aG (b := false) rfl rfl rfl ?_)); refine aW rfl rfl rfl (fun hq => ?_) (fun hq => ?_) <;> first | subst hq | (first | (simp only [sD, sE, sB, sC, sN, sM, sT, sF] at hq; try (exfalso; omega)) | skip)) | fail) | (refine bW ?_; first | refine bN ?_ | refine bT ?_ | refine aQ ?_ | refine bD ?_ | refine bU ?_ | refine bL ?_ | refine bK ?_ | refine aA (b := true) rfl (fun _ => ?_) nTf | refine aA (b := false) rfl nFt (fun _ => ?_) | refine bE ?_ | refine bC ?_ | refine bA mixed (by kernel_rfl) ?_ | refine aD mixed (by kernel_rfl) ?_ | (refine aA rfl (fun hq => ?_) (fun hq => ?_) <;> first | subst hq | (first | (simp only [sD, sE, sB, sC, sN, sM, sT, sF] at hq; try (exfalso; omega)) | skip)) | fail) | (refine bQ ?_; first | refine bZ ?_ | refine aK ?_ | refine aT ?_ | fail) | (refine bG ?_; first | refine bV ?_ | refine aH ?_ | refine aI (by decide) ?_ | refine aM ?_ | fail) | refine bR (bB (by kernel_rfl)) ?_ | fail)
               all_goals first
                 | (exfalso; have hh : (0 : Int) < (([] : List Tree).length : Int) := by assumption
                    simp at hh)
                 | (exfalso; omega)
                 | (refine dR ((Imp.of_le (σ' := S.f ⟨[(8, .obj 27 0), (9, .imm (.lit (.bool true)))], [(500, .arr 25 1 0 []), (27, .cells [.imm (.lit (.int .i64 110)), .imm (.lit (.int .i64 (n + by_))), .imm (.lit (.string ⟨#[]⟩)), .imm (.lit (.string ⟨#[]⟩)), .ref 500 0])]⟩) (cF (by repeat' first | exact trivial | refine ⟨rfl, ?_⟩) (by repeat' first | exact trivial | refine ⟨rfl, ?_⟩))).trans ((cW (g := 500) rfl (by repeat' first | exact trivial | exact fun _ => rfl | refine ⟨?_, ?_⟩) (by repeat' first | exact trivial | exact fun _ => rfl | refine ⟨?_, ?_⟩)).trans (dE (g := 27) rfl rfl))) ?_
                    refine cA (by first | exact .inl rfl | exact .inr rfl) (cC rfl (aY rfl) (aY rfl)) rfl ?_; rfl))
        · rw [if_neg (by simp only [true_and]; exact h2)]
          refine cS Try.func140 rfl rfl (nb rfl) rfl ?_
          refine cY (eW 27 (by simp) rfl rfl) ?_
          repeat' (first | refine bM ?_ | (refine bP ?_; first | refine aX tabOk rfl rfl rfl (nb rfl) rfl ?_ | refine bF rfl rfl (nb rfl) ?_ | (refine bO rfl rfl rfl (nb rfl) rfl rfl rfl (fun hq => ?_) (fun hq => ?_) <;> (first | (simp only [sD, sE, sB, sC, sN, sM, sT, sF] at hq; try (exfalso; omega)) | skip))| refine dG (d := 26) tabOk rfl rfl rfl (nb rfl) rfl rfl rfl rfl rfl ?_ | refine eC 27 (d := 27) rfl rfl rfl (nb rfl) rfl rfl rfl rfl rfl ?_ | refine aE rfl rfl rfl (nb rfl) rfl rfl (by omega) ?_ | refine bI rfl rfl rfl (nb rfl) rfl rfl rfl (by omega) (by omega) ?_ | refine bJ rfl rfl rfl (nb rfl) rfl rfl rfl (by omega) (by omega) ?_ | refine bH tabOk rfl rfl rfl (nb rfl) rfl rfl rfl rfl rfl rfl rfl rfl rfl ?_ | refine aZ tabOk rfl rfl (nb rfl) rfl ?_ | refine aU tabOk rfl rfl rfl (nb rfl) rfl rfl rfl rfl rfl rfl ?_ | refine aV tabOk rfl rfl rfl (nb rfl) rfl rfl rfl rfl ?_ | refine aN tabOk rfl rfl rfl rfl rfl rfl rfl rfl rfl rfl rfl ?_ | refine aR tabOk rfl rfl rfl (nb rfl) rfl rfl rfl rfl (by first | assumption | omega) ?_ | refine aJ tabOk rfl rfl rfl (nb rfl) rfl rfl rfl rfl (by first | rfl | omega) (by first | omega | simp) ?_ | refine aC tabOk rfl rfl rfl (nb rfl) rfl rfl rfl (by assumption) ?_ | refine aC tabOk rfl rfl rfl (nb rfl) rfl rfl rfl (bS _ _ (by first | assumption | omega)) ?_ | refine aE rfl rfl rfl (nb rfl) rfl rfl (by omega) ?_ | ((fail_if_success (refine aG (b := true) rfl rfl rfl ?_)); (fail_if_success (refine aG (b := false) rfl rfl rfl ?_)); refine aW rfl rfl rfl (fun hq => ?_) (fun hq => ?_) <;> first | subst hq | (first | (simp only [sD, sE, sB, sC, sN, sM, sT, sF] at hq; try (exfalso; omega)) | skip)) | fail) | (refine bW ?_; first | refine bN ?_ | refine bT ?_ | refine aQ ?_ | refine bD ?_ | refine bU ?_ | refine bL ?_ | refine bK ?_ | refine aA (b := true) rfl (fun _ => ?_) nTf | refine aA (b := false) rfl nFt (fun _ => ?_) | refine bE ?_ | refine bC ?_ | refine bA mixed (by kernel_rfl) ?_ | refine aD mixed (by kernel_rfl) ?_ | (refine aA rfl (fun hq => ?_) (fun hq => ?_) <;> first | subst hq | (first | (simp only [sD, sE, sB, sC, sN, sM, sT, sF] at hq; try (exfalso; omega)) | skip)) | fail) | (refine bQ ?_; first | refine bZ ?_ | refine aK ?_ | refine aT ?_ | fail) | (refine bG ?_; first | refine bV ?_ | refine aH ?_ | refine aI (by decide) ?_ | refine aM ?_ | fail) | refine bR (bB (by kernel_rfl)) ?_ | fail)
          all_goals first
            | exact absurd rfl (by assumption)
            | (exfalso; omega)
            | (refine dI ?_; refine cA (by first | exact .inl rfl | exact .inr rfl) (cC rfl (aY rfl) (aY rfl)) rfl ?_; rfl)
    · have e := eJ (shiftV by_ from_) n d true (a := a) (b := emptyB) kids k110
      rw [e]
      clear e
      have hb := fB k
      have hvs := dN k110 hv
      obtain ⟨Y, hY⟩ : ∃ Y, walkSs (shiftV by_ from_) kids (d + bindsP k) true = Y := ⟨_, rfl⟩
      rw [hY]
      refine cS Try.func140 rfl rfl (nb rfl) rfl ?_
      refine cY (eW 27 (by simp) rfl rfl) ?_
      repeat' (first | refine bM ?_ | (refine bP ?_; first | refine aX tabOk rfl rfl rfl (nb rfl) rfl ?_ | refine bF rfl rfl (nb rfl) ?_ | (refine bO rfl rfl rfl (nb rfl) rfl rfl rfl (fun hq => ?_) (fun hq => ?_) <;> (first | (simp only [sD, sE, sB, sC, sN, sM, sT, sF] at hq; try (exfalso; omega)) | skip))| refine dG (d := 26) tabOk rfl rfl rfl (nb rfl) rfl rfl rfl rfl rfl ?_ | refine eC 27 (d := 27) rfl rfl rfl (nb rfl) rfl rfl rfl rfl rfl ?_ | refine aE rfl rfl rfl (nb rfl) rfl rfl (by omega) ?_ | refine bI rfl rfl rfl (nb rfl) rfl rfl rfl (by omega) (by omega) ?_ | refine bJ rfl rfl rfl (nb rfl) rfl rfl rfl (by omega) (by omega) ?_ | refine bH tabOk rfl rfl rfl (nb rfl) rfl rfl rfl rfl rfl rfl rfl rfl rfl ?_ | refine aZ tabOk rfl rfl (nb rfl) rfl ?_ | refine aU tabOk rfl rfl rfl (nb rfl) rfl rfl rfl rfl rfl rfl ?_ | refine aV tabOk rfl rfl rfl (nb rfl) rfl rfl rfl rfl ?_ | refine aN tabOk rfl rfl rfl rfl rfl rfl rfl rfl rfl rfl rfl ?_ | refine aR tabOk rfl rfl rfl (nb rfl) rfl rfl rfl rfl (by first | assumption | omega) ?_ | refine aJ tabOk rfl rfl rfl (nb rfl) rfl rfl rfl rfl (by first | rfl | omega) (by first | omega | simp) ?_ | refine aC tabOk rfl rfl rfl (nb rfl) rfl rfl rfl (by assumption) ?_ | refine aC tabOk rfl rfl rfl (nb rfl) rfl rfl rfl (bS _ _ (by first | assumption | omega)) ?_ | refine aE rfl rfl rfl (nb rfl) rfl rfl (by omega) ?_ | ((fail_if_success (refine aG (b := true) rfl rfl rfl ?_)); (fail_if_success (refine aG (b := false) rfl rfl rfl ?_)); refine aW rfl rfl rfl (fun hq => ?_) (fun hq => ?_) <;> first | subst hq | (first | (simp only [sD, sE, sB, sC, sN, sM, sT, sF] at hq; try (exfalso; omega)) | skip)) | fail) | (refine bW ?_; first | refine bN ?_ | refine bT ?_ | refine aQ ?_ | refine bD ?_ | refine bU ?_ | refine bL ?_ | refine bK ?_ | refine aA (b := true) rfl (fun _ => ?_) nTf | refine aA (b := false) rfl nFt (fun _ => ?_) | refine bE ?_ | refine bC ?_ | refine bA mixed (by kernel_rfl) ?_ | refine aD mixed (by kernel_rfl) ?_ | (refine aA rfl (fun hq => ?_) (fun hq => ?_) <;> first | subst hq | (first | (simp only [sD, sE, sB, sC, sN, sM, sT, sF] at hq; try (exfalso; omega)) | skip)) | fail) | (refine bQ ?_; first | refine bZ ?_ | refine aK ?_ | refine aT ?_ | fail) | (refine bG ?_; first | refine bV ?_ | refine aH ?_ | refine aI (by decide) ?_ | refine aM ?_ | fail) | refine bR (bB (by kernel_rfl)) ?_ | fail)
      all_goals first
        | exact absurd (by assumption) k110
        | (exfalso; omega)
        | skip
      refine cY (dU (h0 := 27) (k0 := 4) 500 25 1 rfl rfl (by simp) rfl rfl) ?_
      refine cH (ι := {j : Nat // j ≤ kids.length ∧ (walkSs (shiftV by_ from_) (kids.take j) (d + bindsP k) true).2 = true}) (fun j => S.f ⟨[(11, .imm (.lit (.int .i64 (j.1 : Int)))), (10, .obj 27 0), (0, .imm (Tree.iv (.node k n a emptyB kids))), (1, .imm (.lit (.int .i64 by_))), (2, .imm (.lit (.int .i64 from_))), (3, .imm (.lit (.int .i64 d)))], [(500, .arr 25 1 j.1 (Tree.ivs (walkSs (shiftV by_ from_) (kids.take j.1) (d + bindsP k) true).1)), (27, .cells [.imm (.lit (.int .i64 k)), .imm (.lit (.int .i64 n)), .imm (.lit (.string a)), .imm (.lit (.string ⟨#[]⟩)), .ref 500 j.1])]⟩) (fun j => kids.length - j.1) ⟨0, Nat.zero_le _, by rw [List.take_zero, cU]⟩ (by dsimp only; rw [List.take_zero, cU]; exact (cF (by repeat' first | exact trivial | refine ⟨rfl, ?_⟩) (by repeat' first | exact trivial | refine ⟨rfl, ?_⟩))) ?_
      rintro ⟨j, hj, hok⟩
      dsimp only
      by_cases hlt : j < kids.length
      · have hm := List.getElem_mem hlt
        have hz := cT hm
        have hwk := cD hw hm
        have hget := bS kids j hlt
        have hc := ih _ hm (d + bindsP k) (hvs _ hm) (hks _ hm) hwk (by omega) (by omega)
        have htk := eA (shiftV by_ from_) (d + bindsP k) true hlt
        rw [hok] at htk
        have hfn := (jM (shiftV by_ from_) (fun _ => True) (fun _ => 0) (fun n d s _ _ _ _ _ => ⟨(eB by_ from_ n d s).1, trivial, by rw [(eB by_ from_ n d s).2]; omega⟩) kids[j] (d + bindsP k) true (hvs _ hm) hwk (by omega) (by omega) trivial).1
        clear ih
        generalize hR : walkS (shiftV by_ from_) kids[j] (d + bindsP k) true = R at *
        obtain ⟨R1, R2⟩ := R
        dsimp only at hc hfn htk
        obtain ⟨pm, hpm⟩ := fR (fF hfn)
        cases R2 with
        | false =>
          have hbad : Y.2 = false := by
            rw [← hY]
            refine nF _ (fun s => s = false) (fun n d s h => uB by_ from_ n d s h) _ _ _ (j + 1) ?_
            rw [htk]
          have hres : told ((Tree.node k n a emptyB Y.1), Y.2) = .nil ∧ Y.2 = false := ⟨by rw [hbad]; rfl, hbad⟩
          rw [nH] at hc
          rw [hres.1, hres.2]
          clear hY htk
          generalize Tree.ivs (walkSs (shiftV by_ from_) (kids.take j) (d + bindsP k) true).1 = ZI at *
          repeat' (first | refine bM ?_ | (refine bP ?_; first | refine aX tabOk rfl rfl rfl (nb rfl) rfl ?_ | refine bF rfl rfl (nb rfl) ?_ | (refine bO rfl rfl rfl (nb rfl) rfl rfl rfl (fun hq => ?_) (fun hq => ?_) <;> (first | (simp only [sD, sE, sB, sC, sN, sM, sT, sF] at hq; try (exfalso; omega)) | skip))| refine aC tabOk rfl rfl rfl (nb rfl) rfl rfl rfl hget ?_ | refine bX rfl rfl (nb rfl) rfl rfl rfl rfl (hc) ?_ | refine bX rfl rfl (nb rfl) rfl rfl rfl rfl (ci) ?_ | refine aE rfl rfl rfl (nb rfl) rfl rfl (by omega) ?_ | refine bI rfl rfl rfl (nb rfl) rfl rfl rfl (by omega) (by omega) ?_ | refine bJ rfl rfl rfl (nb rfl) rfl rfl rfl (by omega) (by omega) ?_ | refine bH tabOk rfl rfl rfl (nb rfl) rfl rfl rfl rfl rfl rfl rfl rfl rfl ?_ | refine aZ tabOk rfl rfl (nb rfl) rfl ?_ | refine aU tabOk rfl rfl rfl (nb rfl) rfl rfl rfl rfl rfl rfl ?_ | refine aV tabOk rfl rfl rfl (nb rfl) rfl rfl rfl rfl ?_ | refine aN tabOk rfl rfl rfl rfl rfl rfl rfl rfl rfl rfl rfl ?_ | refine aR tabOk rfl rfl rfl (nb rfl) rfl rfl rfl rfl (by first | assumption | omega) ?_ | refine aJ tabOk rfl rfl rfl (nb rfl) rfl rfl rfl rfl (by first | rfl | omega) (by first | omega | simp) ?_ | refine aC tabOk rfl rfl rfl (nb rfl) rfl rfl rfl (by assumption) ?_ | refine aC tabOk rfl rfl rfl (nb rfl) rfl rfl rfl (bS _ _ (by first | assumption | omega)) ?_ | refine aE rfl rfl rfl (nb rfl) rfl rfl (by omega) ?_ | ((fail_if_success (refine aG (b := true) rfl rfl rfl ?_)); (fail_if_success (refine aG (b := false) rfl rfl rfl ?_)); refine aW rfl rfl rfl (fun hq => ?_) (fun hq => ?_) <;> first | subst hq | (first | (simp only [sD, sE, sB, sC, sN, sM, sT, sF] at hq; try (exfalso; omega)) | skip)) | fail) | (refine bW ?_; first | refine bN ?_ | refine bT ?_ | refine aQ ?_ | refine bD ?_ | refine bU ?_ | refine bL ?_ | refine bK ?_ | refine aA (b := true) rfl (fun _ => ?_) nTf | refine aA (b := false) rfl nFt (fun _ => ?_) | refine bE ?_ | refine bC ?_ | refine bA mixed (by kernel_rfl) ?_ | refine aD mixed (by kernel_rfl) ?_ | (refine aA rfl (fun hq => ?_) (fun hq => ?_) <;> first | subst hq | (first | (simp only [sD, sE, sB, sC, sN, sM, sT, sF] at hq; try (exfalso; omega)) | skip)) | fail) | (refine bQ ?_; first | refine bZ ?_ | refine aK ?_ | refine aT ?_ | fail) | (refine bG ?_; first | refine bV ?_ | refine aH ?_ | refine aI (by decide) ?_ | refine aM ?_ | fail) | refine bR (bB (by kernel_rfl)) ?_ | fail)
          all_goals first
            | (exfalso; omega)
            | (refine dI ?_; refine cA (by first | exact .inl rfl | exact .inr rfl) (cC rfl (aY rfl) (aY rfl)) rfl ?_; rfl)
        | true =>
          have hnx : Tree.ivs (walkSs (shiftV by_ from_) (kids.take (j + 1)) (d + bindsP k) true).1 = Tree.ivs (walkSs (shiftV by_ from_) (kids.take j) (d + bindsP k) true).1 ++ [.ptr pm 0] := by
            rw [htk, dK, dK, List.map_append, ← hpm]; rfl
          have hok2 : (walkSs (shiftV by_ from_) (kids.take (j + 1)) (d + bindsP k) true).2 = true := by rw [htk]
          have hil := eH (walkSs (shiftV by_ from_) (kids.take j) (d + bindsP k) true).1
          rw [dO, List.length_take, Nat.min_eq_left hj] at hil
          rw [iQ, hpm] at hc
          clear htk hY
          generalize Tree.ivs (walkSs (shiftV by_ from_) (kids.take j) (d + bindsP k) true).1 = ZI at *
          repeat' (first | refine bM ?_ | (refine bP ?_; first | refine aX tabOk rfl rfl rfl (nb rfl) rfl ?_ | refine bF rfl rfl (nb rfl) ?_ | (refine bO rfl rfl rfl (nb rfl) rfl rfl rfl (fun hq => ?_) (fun hq => ?_) <;> (first | (simp only [sD, sE, sB, sC, sN, sM, sT, sF] at hq; try (exfalso; omega)) | skip))| refine aC tabOk rfl rfl rfl (nb rfl) rfl rfl rfl hget ?_ | refine bX rfl rfl (nb rfl) rfl rfl rfl rfl (hc) ?_ | refine bX rfl rfl (nb rfl) rfl rfl rfl rfl (ci) ?_ | refine dF tabOk rfl rfl rfl (nb rfl) rfl rfl rfl rfl rfl rfl rfl (by first | omega | decide) rfl (by first | omega | (dsimp only; omega)) (by first | omega | (dsimp only; omega)) ?_ | refine aE rfl rfl rfl (nb rfl) rfl rfl (by omega) ?_ | refine bI rfl rfl rfl (nb rfl) rfl rfl rfl (by omega) (by omega) ?_ | refine bJ rfl rfl rfl (nb rfl) rfl rfl rfl (by omega) (by omega) ?_ | refine bH tabOk rfl rfl rfl (nb rfl) rfl rfl rfl rfl rfl rfl rfl rfl rfl ?_ | refine aZ tabOk rfl rfl (nb rfl) rfl ?_ | refine aU tabOk rfl rfl rfl (nb rfl) rfl rfl rfl rfl rfl rfl ?_ | refine aV tabOk rfl rfl rfl (nb rfl) rfl rfl rfl rfl ?_ | refine aN tabOk rfl rfl rfl rfl rfl rfl rfl rfl rfl rfl rfl ?_ | refine aR tabOk rfl rfl rfl (nb rfl) rfl rfl rfl rfl (by first | assumption | omega) ?_ | refine aJ tabOk rfl rfl rfl (nb rfl) rfl rfl rfl rfl (by first | rfl | omega) (by first | omega | simp) ?_ | refine aC tabOk rfl rfl rfl (nb rfl) rfl rfl rfl (by assumption) ?_ | refine aC tabOk rfl rfl rfl (nb rfl) rfl rfl rfl (bS _ _ (by first | assumption | omega)) ?_ | refine aE rfl rfl rfl (nb rfl) rfl rfl (by omega) ?_ | ((fail_if_success (refine aG (b := true) rfl rfl rfl ?_)); (fail_if_success (refine aG (b := false) rfl rfl rfl ?_)); refine aW rfl rfl rfl (fun hq => ?_) (fun hq => ?_) <;> first | subst hq | (first | (simp only [sD, sE, sB, sC, sN, sM, sT, sF] at hq; try (exfalso; omega)) | skip)) | fail) | (refine bW ?_; first | refine bN ?_ | refine bT ?_ | refine aQ ?_ | refine bD ?_ | refine bU ?_ | refine bL ?_ | refine bK ?_ | refine aA (b := true) rfl (fun _ => ?_) nTf | refine aA (b := false) rfl nFt (fun _ => ?_) | refine bE ?_ | refine bC ?_ | refine bA mixed (by kernel_rfl) ?_ | refine aD mixed (by kernel_rfl) ?_ | (refine aA rfl (fun hq => ?_) (fun hq => ?_) <;> first | subst hq | (first | (simp only [sD, sE, sB, sC, sN, sM, sT, sF] at hq; try (exfalso; omega)) | skip)) | fail) | (refine bQ ?_; first | refine bZ ?_ | refine aK ?_ | refine aT ?_ | fail) | (refine bG ?_; first | refine bV ?_ | refine aH ?_ | refine aI (by decide) ?_ | refine aM ?_ | fail) | refine bR (bB (by kernel_rfl)) ?_ | fail)
          all_goals first
            | (exfalso; omega)
            | (refine ⟨⟨j + 1, hlt, hok2⟩, (by show kids.length - (j + 1) < kids.length - j; omega), ?_⟩; dsimp only; rw [hnx]; exact (cF (by repeat' first | exact trivial | refine ⟨rfl, ?_⟩) (by repeat' first | exact trivial | refine ⟨rfl, ?_⟩)))
      · have ej : j = kids.length := by omega
        subst ej
        rw [List.take_length] at hok ⊢
        rw [hY] at hok ⊢
        have hll : Y.1.length = kids.length := by rw [← hY, dO]
        have hiv : (told ((Tree.node k n a emptyB Y.1), Y.2)).iv = .ptr [.lit (.int .i64 k), .lit (.int .i64 n), .lit (.string a), .lit (.string ⟨#[]⟩), .sl false kids.length (Tree.ivs Y.1)] 0 := by rw [hok, iQ, Tree.iv, hll]; rfl
        rw [hiv, hok]
        clear ih hY
        generalize Tree.ivs Y.1 = ZI at *
        repeat' (first | refine bM ?_ | (refine bP ?_; first | refine aX tabOk rfl rfl rfl (nb rfl) rfl ?_ | refine bF rfl rfl (nb rfl) ?_ | (refine bO rfl rfl rfl (nb rfl) rfl rfl rfl (fun hq => ?_) (fun hq => ?_) <;> (first | (simp only [sD, sE, sB, sC, sN, sM, sT, sF] at hq; try (exfalso; omega)) | skip)) | refine aE rfl rfl rfl (nb rfl) rfl rfl (by omega) ?_ | refine bI rfl rfl rfl (nb rfl) rfl rfl rfl (by omega) (by omega) ?_ | refine bJ rfl rfl rfl (nb rfl) rfl rfl rfl (by omega) (by omega) ?_ | refine bH tabOk rfl rfl rfl (nb rfl) rfl rfl rfl rfl rfl rfl rfl rfl rfl ?_ | refine aZ tabOk rfl rfl (nb rfl) rfl ?_ | refine aU tabOk rfl rfl rfl (nb rfl) rfl rfl rfl rfl rfl rfl ?_ | refine aV tabOk rfl rfl rfl (nb rfl) rfl rfl rfl rfl ?_ | refine aN tabOk rfl rfl rfl rfl rfl rfl rfl rfl rfl rfl rfl ?_ | refine aR tabOk rfl rfl rfl (nb rfl) rfl rfl rfl rfl (by first | assumption | omega) ?_ | refine aJ tabOk rfl rfl rfl (nb rfl) rfl rfl rfl rfl (by first | rfl | omega) (by first | omega | simp) ?_ | refine aC tabOk rfl rfl rfl (nb rfl) rfl rfl rfl (by assumption) ?_ | refine aC tabOk rfl rfl rfl (nb rfl) rfl rfl rfl (bS _ _ (by first | assumption | omega)) ?_ | refine aE rfl rfl rfl (nb rfl) rfl rfl (by omega) ?_ | ((fail_if_success (refine aG (b := true) rfl rfl rfl ?_)); (fail_if_success (refine aG (b := false) rfl rfl rfl ?_)); refine aW rfl rfl rfl (fun hq => ?_) (fun hq => ?_) <;> first | subst hq | (first | (simp only [sD, sE, sB, sC, sN, sM, sT, sF] at hq; try (exfalso; omega)) | skip)) | fail) | (refine bW ?_; first | refine bN ?_ | refine bT ?_ | refine aQ ?_ | refine bD ?_ | refine bU ?_ | refine bL ?_ | refine bK ?_ | refine aA (b := true) rfl (fun _ => ?_) nTf | refine aA (b := false) rfl nFt (fun _ => ?_) | refine bE ?_ | refine bC ?_ | refine bA mixed (by kernel_rfl) ?_ | refine aD mixed (by kernel_rfl) ?_ | (refine aA rfl (fun hq => ?_) (fun hq => ?_) <;> first | subst hq | (first | (simp only [sD, sE, sB, sC, sN, sM, sT, sF] at hq; try (exfalso; omega)) | skip)) | fail) | (refine bQ ?_; first | refine bZ ?_ | refine aK ?_ | refine aT ?_ | fail) | (refine bG ?_; first | refine bV ?_ | refine aH ?_ | refine aI (by decide) ?_ | refine aM ?_ | fail) | refine bR (bB (by kernel_rfl)) ?_ | fail)
        all_goals first
          | (exfalso; omega)
          | (refine dR ((Imp.of_le (σ' := S.f ⟨[(8, .obj 27 0), (9, .imm (.lit (.bool true)))], [(500, .arr 25 1 kids.length ZI), (27, .cells [.imm (.lit (.int .i64 k)), .imm (.lit (.int .i64 n)), .imm (.lit (.string a)), .imm (.lit (.string ⟨#[]⟩)), .ref 500 kids.length])]⟩) (cF (by repeat' first | exact trivial | refine ⟨rfl, ?_⟩) (by repeat' first | exact trivial | refine ⟨rfl, ?_⟩))).trans ((cW (g := 500) rfl (by repeat' first | exact trivial | exact fun _ => rfl | refine ⟨?_, ?_⟩) (by repeat' first | exact trivial | exact fun _ => rfl | refine ⟨?_, ?_⟩)).trans (dE (g := 27) rfl rfl))) ?_
             refine cA (by first | exact .inl rfl | exact .inr rfl) (cC rfl (aY rfl) (aY rfl)) rfl ?_; rfl)
end Go.Proofs.Ytlbemgokilhdnaa.Ab
namespace Go.Proofs.Ytlbemgokilhdnaa.Ab
set_option linter.unusedVariables false
set_option linter.unusedSimpArgs false
open Go.RowKit
attribute [local irreducible] AWP AOps AExit AThen ABlock ANoGoto FeetOk
theorem lB {σ : Type} (V : Int → Int → σ → Tree × σ) (hV : ∀ n d s, (V n d s).1.whole = true) (t : Tree) : ∀ d s, t.whole = true → (walkS V t d s).1.whole = true := by
  induction t using Tree.ind with
  | h1 => intro d s h; simp [Tree.whole] at h
  | h2 k n a b kids ih =>
    intro d s hw
    by_cases k0 : k = 110
    · subst k0; rw [dT]; exact hV _ _ _
    · rw [eJ V _ _ _ _ k0]
      have key : ∀ (l : List Tree) (s : σ), (∀ t ∈ l, t ∈ kids) → Tree.wholes (walkSs V l (d + bindsP k) s).1 = true := by
        intro l
        induction l with
        | nil => intro s _; rw [cU]; rfl
        | cons t ts ih2 =>
          intro s hm
          rw [walkSs]
          simp only [Tree.wholes, Bool.and_eq_true]
          exact ⟨ih t (hm t (by simp)) _ _ (cD hw (hm t (by simp))), ih2 _ fun t' h' => hm t' (by simp [h'])⟩
      exact key kids s fun _ h => h
/-- What Put makes of a variable. -/
def putV (i : Int) (by_ : Tree) (n d : Int) (ok : Bool) : Tree × Bool :=
  if n < d ∨ n - d < i then (varT n, ok)
  else if n - d > i then (varT (n - 1), ok)
  else if ok = true ∧ (walkS (shiftV d 0) by_ 0 true).2 = true then ((walkS (shiftV d 0) by_ 0 true).1, true) else (varT n, false)
theorem rZ (i : Int) (by_ : Tree) (n d : Int) (s : Bool) (h : s = false) : (putV i by_ n d s).2 = false := by
  subst h
  unfold putV
  split
  · rfl
  · split
    · rfl
    · rw [if_neg (by simp)]
theorem uC (i : Int) (by_ : Tree) (hw : by_.whole = true) (n d : Int) (s : Bool) : (putV i by_ n d s).1.whole = true := by
  unfold putV
  split
  · rfl
  · split
    · rfl
    · split
      · exact lB _ (fun n d s => (eB _ _ n d s).1) by_ 0 true hw
      · rfl
set_option maxHeartbeats 16000000 in
set_option maxRecDepth 10000 in
theorem aAq (i : Int) (by_ : Tree) (hi : 0 ≤ i) (bv : okVars by_ = true) (bk : noMark by_ = true) (bw : by_.whole = true) (bs : by_.size ≤ 1000000) (t : Tree) : ∀ d : Int, okVars t = true → noMark t = true → t.whole = true → 0 ≤ d → d + t.size ≤ 1000000 →
    ACalls Try.prog 132 [.imm t.iv, .imm (.lit (.int .i64 i)), .imm by_.iv, .imm (.lit (.int .i64 d))] [] (.imm (.tup [(told (walkS (putV i by_) t d true)).iv, .lit (.bool (walkS (putV i by_) t d true).2)])) [] := by
  induction t using Tree.ind with
  | h1 => intro d _ _ h; simp [Tree.whole] at h
  | h2 k n a b kids ih =>
    intro d hv hk hw hd hs
    have hl := cI kids hw
    have hsz : (Tree.node k n a b kids).size = 1 + Tree.sizes kids := by rw [Tree.size]
    rw [hsz] at hs
    have ci := nG k n a b kids
    obtain ⟨rfl, hks⟩ := lA hk
    by_cases k110 : k = 110
    · obtain ⟨q1, q2, rfl, _, rfl⟩ := dL k110 hv
      subst k110
      clear ih
      rw [dT]
      unfold putV
      by_cases h1 : n < d ∨ n - d < i
      · rw [if_pos h1]
        refine cS Try.func132 rfl rfl (nb rfl) rfl ?_
        refine cY (eW 55 (by simp) rfl rfl) ?_
        repeat' (first | refine bM ?_ | (refine bP ?_; first | refine aX tabOk rfl rfl rfl (nb rfl) rfl ?_ | refine bF rfl rfl (nb rfl) ?_ | (refine bO rfl rfl rfl (nb rfl) rfl rfl rfl (fun hq => ?_) (fun hq => ?_) <;> (first | (simp only [sD, sE, sB, sC, sN, sM, sT, sF] at hq; try (exfalso; omega)) | skip))| refine dG (d := 54) tabOk rfl rfl rfl (nb rfl) rfl rfl rfl rfl rfl ?_ | refine eC 55 (d := 55) rfl rfl rfl (nb rfl) rfl rfl rfl rfl rfl ?_ | refine aE rfl rfl rfl (nb rfl) rfl rfl (by omega) ?_ | refine bI rfl rfl rfl (nb rfl) rfl rfl rfl (by omega) (by omega) ?_ | refine bJ rfl rfl rfl (nb rfl) rfl rfl rfl (by omega) (by omega) ?_ | refine bH tabOk rfl rfl rfl (nb rfl) rfl rfl rfl rfl rfl rfl rfl rfl rfl ?_ | refine aZ tabOk rfl rfl (nb rfl) rfl ?_ | refine aU tabOk rfl rfl rfl (nb rfl) rfl rfl rfl rfl rfl rfl ?_ | refine aV tabOk rfl rfl rfl (nb rfl) rfl rfl rfl rfl ?_ | refine aN tabOk rfl rfl rfl rfl rfl rfl rfl rfl rfl rfl rfl ?_ | refine aR tabOk rfl rfl rfl (nb rfl) rfl rfl rfl rfl (by first | assumption | omega) ?_ | refine aJ tabOk rfl rfl rfl (nb rfl) rfl rfl rfl rfl (by first | rfl | omega) (by first | omega | simp) ?_ | refine aC tabOk rfl rfl rfl (nb rfl) rfl rfl rfl (by assumption) ?_ | refine aC tabOk rfl rfl rfl (nb rfl) rfl rfl rfl (bS _ _ (by first | assumption | omega)) ?_ | refine aE rfl rfl rfl (nb rfl) rfl rfl (by omega) ?_ | ((fail_if_success (refine aG (b := true) rfl rfl rfl ?_)); (fail_if_success (refine aG (b := false) rfl rfl rfl ?_)); refine aW rfl rfl rfl (fun hq => ?_) (fun hq => ?_) <;> first | subst hq | (first | (simp only [sD, sE, sB, sC, sN, sM, sT, sF] at hq; try (exfalso; omega)) | skip)) | fail) | (refine bW ?_; first | refine bN ?_ | refine bT ?_ | refine aQ ?_ | refine bD ?_ | refine bU ?_ | refine bL ?_ | refine bK ?_ | refine aA (b := true) rfl (fun _ => ?_) nTf | refine aA (b := false) rfl nFt (fun _ => ?_) | refine bE ?_ | refine bC ?_ | refine bA mixed (by kernel_rfl) ?_ | refine aD mixed (by kernel_rfl) ?_ | (refine aA rfl (fun hq => ?_) (fun hq => ?_) <;> first | subst hq | (first | (simp only [sD, sE, sB, sC, sN, sM, sT, sF] at hq; try (exfalso; omega)) | skip)) | fail) | (refine bQ ?_; first | refine bZ ?_ | refine aK ?_ | refine aT ?_ | fail) | (refine bG ?_; first | refine bV ?_ | refine aH ?_ | refine aI (by decide) ?_ | refine aM ?_ | fail) | refine bR (bB (by kernel_rfl)) ?_ | fail)
        all_goals first
          | exact absurd rfl (by assumption)
          | (exfalso; omega)
          | (refine cY (dU (h0 := 55) (k0 := 4) 500 25 1 rfl rfl (by simp) rfl rfl) ?_
             refine cH (ι := Unit) (fun _ => S.f ⟨[(11, .imm (.lit (.int .i64 0))), (10, .obj 55 0), (0, .imm (Tree.iv (.node 110 n emptyB emptyB [])))], [(500, .arr 25 1 0 []), (55, .cells [.imm (.lit (.int .i64 110)), .imm (.lit (.int .i64 (n))), .imm (.lit (.string ⟨#[]⟩)), .imm (.lit (.string ⟨#[]⟩)), .ref 500 0])]⟩) (fun _ => 0) () (cF (by repeat' first | exact trivial | refine ⟨rfl, ?_⟩) (by repeat' first | exact trivial | refine ⟨rfl, ?_⟩)) ?_
             rintro ⟨⟩
             dsimp only
             repeat' (first | refine bM ?_ | (refine bP ?_; first | refine aX tabOk rfl rfl rfl (nb rfl) rfl ?_ | refine bF rfl rfl (nb rfl) ?_ | (refine bO rfl rfl rfl (nb rfl) rfl rfl rfl (fun hq => ?_) (fun hq => ?_) <;> (first | (simp only [sD, sE, sB, sC, sN, sM, sT, sF] at hq; try (exfalso; omega)) | skip)) | refine aE rfl rfl rfl (nb rfl) rfl rfl (by omega) ?_ | refine bI rfl rfl rfl (nb rfl) rfl rfl rfl (by omega) (by omega) ?_ | refine bJ rfl rfl rfl (nb rfl) rfl rfl rfl (by omega) (by omega) ?_ | refine bH tabOk rfl rfl rfl (nb rfl) rfl rfl rfl rfl rfl rfl rfl rfl rfl ?_ | refine aZ tabOk rfl rfl (nb rfl) rfl ?_ | refine aU tabOk rfl rfl rfl (nb rfl) rfl rfl rfl rfl rfl rfl ?_ | refine aV tabOk rfl rfl rfl (nb rfl) rfl rfl rfl rfl ?_ | refine aN tabOk rfl rfl rfl rfl rfl rfl rfl rfl rfl rfl rfl ?_ | refine aR tabOk rfl rfl rfl (nb rfl) rfl rfl rfl rfl (by first | assumption | omega) ?_ | refine aJ tabOk rfl rfl rfl (nb rfl) rfl rfl rfl rfl (by first | rfl | omega) (by first | omega | simp) ?_ | refine aC tabOk rfl rfl rfl (nb rfl) rfl rfl rfl (by assumption) ?_ | refine aC tabOk rfl rfl rfl (nb rfl) rfl rfl rfl (bS _ _ (by first | assumption | omega)) ?_ | refine aE rfl rfl rfl (nb rfl) rfl rfl (by omega) ?_ | ((fail_if_success (refine aG (b := true) rfl rfl rfl ?_)); (fail_if_success (refine aG (b := false) rfl rfl rfl ?_)); refine aW rfl rfl rfl (fun hq => ?_) (fun hq => ?_) <;> first | subst hq | (first | (simp only [sD, sE, sB, sC, sN, sM, sT, sF] at hq; try (exfalso; omega)) | skip)) | fail) | (refine bW ?_; first | refine bN ?_ | refine bT ?_ | refine aQ ?_ | refine bD ?_ | refine bU ?_ | refine bL ?_ | refine bK ?_ | refine aA (b := true) rfl (fun _ => ?_) nTf | refine aA (b := false) rfl nFt (fun _ => ?_) | refine bE ?_ | refine bC ?_ | refine bA mixed (by kernel_rfl) ?_ | refine aD mixed (by kernel_rfl) ?_ | (refine aA rfl (fun hq => ?_) (fun hq => ?_) <;> first | subst hq | (first | (simp only [sD, sE, sB, sC, sN, sM, sT, sF] at hq; try (exfalso; omega)) | skip)) | fail) | (refine bQ ?_; first | refine bZ ?_ | refine aK ?_ | refine aT ?_ | fail) | (refine bG ?_; first | refine bV ?_ | refine aH ?_ | refine aI (by decide) ?_ | refine aM ?_ | fail) | refine bR (bB (by kernel_rfl)) ?_ | fail)
             all_goals first
               | (exfalso; have hh : (0 : Int) < (([] : List Tree).length : Int) := by assumption
                  simp at hh)
               | (exfalso; omega)
               | (refine dR ((Imp.of_le (σ' := S.f ⟨[(8, .obj 55 0), (9, .imm (.lit (.bool true)))], [(500, .arr 25 1 0 []), (55, .cells [.imm (.lit (.int .i64 110)), .imm (.lit (.int .i64 (n))), .imm (.lit (.string ⟨#[]⟩)), .imm (.lit (.string ⟨#[]⟩)), .ref 500 0])]⟩) (cF (by repeat' first | exact trivial | refine ⟨rfl, ?_⟩) (by repeat' first | exact trivial | refine ⟨rfl, ?_⟩))).trans ((cW (g := 500) rfl (by repeat' first | exact trivial | exact fun _ => rfl | refine ⟨?_, ?_⟩) (by repeat' first | exact trivial | exact fun _ => rfl | refine ⟨?_, ?_⟩)).trans (dE (g := 55) rfl rfl))) ?_
                  refine cA (by first | exact .inl rfl | exact .inr rfl) (cC rfl (aY rfl) (aY rfl)) rfl ?_; rfl))
      · rw [if_neg h1]
        by_cases h2 : n - d > i
        · rw [if_pos h2]
          refine cS Try.func132 rfl rfl (nb rfl) rfl ?_
          refine cY (eW 55 (by simp) rfl rfl) ?_
          repeat' (first | refine bM ?_ | (refine bP ?_; first | refine aX tabOk rfl rfl rfl (nb rfl) rfl ?_ | refine bF rfl rfl (nb rfl) ?_ | (refine bO rfl rfl rfl (nb rfl) rfl rfl rfl (fun hq => ?_) (fun hq => ?_) <;> (first | (simp only [sD, sE, sB, sC, sN, sM, sT, sF] at hq; try (exfalso; omega)) | skip))| refine dG (d := 54) tabOk rfl rfl rfl (nb rfl) rfl rfl rfl rfl rfl ?_ | refine eC 55 (d := 55) rfl rfl rfl (nb rfl) rfl rfl rfl rfl rfl ?_ | refine bJ (z := n - 1) rfl rfl rfl (nb rfl) rfl rfl rfl (by omega) (by omega) ?_ | refine aE rfl rfl rfl (nb rfl) rfl rfl (by omega) ?_ | refine bI rfl rfl rfl (nb rfl) rfl rfl rfl (by omega) (by omega) ?_ | refine bJ rfl rfl rfl (nb rfl) rfl rfl rfl (by omega) (by omega) ?_ | refine bH tabOk rfl rfl rfl (nb rfl) rfl rfl rfl rfl rfl rfl rfl rfl rfl ?_ | refine aZ tabOk rfl rfl (nb rfl) rfl ?_ | refine aU tabOk rfl rfl rfl (nb rfl) rfl rfl rfl rfl rfl rfl ?_ | refine aV tabOk rfl rfl rfl (nb rfl) rfl rfl rfl rfl ?_ | refine aN tabOk rfl rfl rfl rfl rfl rfl rfl rfl rfl rfl rfl ?_ | refine aR tabOk rfl rfl rfl (nb rfl) rfl rfl rfl rfl (by first | assumption | omega) ?_ | refine aJ tabOk rfl rfl rfl (nb rfl) rfl rfl rfl rfl (by first | rfl | omega) (by first | omega | simp) ?_ | refine aC tabOk rfl rfl rfl (nb rfl) rfl rfl rfl (by assumption) ?_ | refine aC tabOk rfl rfl rfl (nb rfl) rfl rfl rfl (bS _ _ (by first | assumption | omega)) ?_ | refine aE rfl rfl rfl (nb rfl) rfl rfl (by omega) ?_ | ((fail_if_success (refine aG (b := true) rfl rfl rfl ?_)); (fail_if_success (refine aG (b := false) rfl rfl rfl ?_)); refine aW rfl rfl rfl (fun hq => ?_) (fun hq => ?_) <;> first | subst hq | (first | (simp only [sD, sE, sB, sC, sN, sM, sT, sF] at hq; try (exfalso; omega)) | skip)) | fail) | (refine bW ?_; first | refine bN ?_ | refine bT ?_ | refine aQ ?_ | refine bD ?_ | refine bU ?_ | refine bL ?_ | refine bK ?_ | refine aA (b := true) rfl (fun _ => ?_) nTf | refine aA (b := false) rfl nFt (fun _ => ?_) | refine bE ?_ | refine bC ?_ | refine bA mixed (by kernel_rfl) ?_ | refine aD mixed (by kernel_rfl) ?_ | (refine aA rfl (fun hq => ?_) (fun hq => ?_) <;> first | subst hq | (first | (simp only [sD, sE, sB, sC, sN, sM, sT, sF] at hq; try (exfalso; omega)) | skip)) | fail) | (refine bQ ?_; first | refine bZ ?_ | refine aK ?_ | refine aT ?_ | fail) | (refine bG ?_; first | refine bV ?_ | refine aH ?_ | refine aI (by decide) ?_ | refine aM ?_ | fail) | refine bR (bB (by kernel_rfl)) ?_ | fail)
          all_goals first
            | exact absurd rfl (by assumption)
            | (exfalso; omega)
            | (refine cY (dU (h0 := 55) (k0 := 4) 500 25 1 rfl rfl (by simp) rfl rfl) ?_
               refine cH (ι := Unit) (fun _ => S.f ⟨[(11, .imm (.lit (.int .i64 0))), (10, .obj 55 0), (0, .imm (Tree.iv (.node 110 n emptyB emptyB [])))], [(500, .arr 25 1 0 []), (55, .cells [.imm (.lit (.int .i64 110)), .imm (.lit (.int .i64 (n - 1))), .imm (.lit (.string ⟨#[]⟩)), .imm (.lit (.string ⟨#[]⟩)), .ref 500 0])]⟩) (fun _ => 0) () (cF (by repeat' first | exact trivial | refine ⟨rfl, ?_⟩) (by repeat' first | exact trivial | refine ⟨rfl, ?_⟩)) ?_
               rintro ⟨⟩
               dsimp only
               repeat' (first | refine bM ?_ | (refine bP ?_; first | refine aX tabOk rfl rfl rfl (nb rfl) rfl ?_ | refine bF rfl rfl (nb rfl) ?_ | (refine bO rfl rfl rfl (nb rfl) rfl rfl rfl (fun hq => ?_) (fun hq => ?_) <;> (first | (simp only [sD, sE, sB, sC, sN, sM, sT, sF] at hq; try (exfalso; omega)) | skip)) | refine aE rfl rfl rfl (nb rfl) rfl rfl (by omega) ?_ | refine bI rfl rfl rfl (nb rfl) rfl rfl rfl (by omega) (by omega) ?_ | refine bJ rfl rfl rfl (nb rfl) rfl rfl rfl (by omega) (by omega) ?_ | refine bH tabOk rfl rfl rfl (nb rfl) rfl rfl rfl rfl rfl rfl rfl rfl rfl ?_ | refine aZ tabOk rfl rfl (nb rfl) rfl ?_ | refine aU tabOk rfl rfl rfl (nb rfl) rfl rfl rfl rfl rfl rfl ?_ | refine aV tabOk rfl rfl rfl (nb rfl) rfl rfl rfl rfl ?_ | refine aN tabOk rfl rfl rfl rfl rfl rfl rfl rfl rfl rfl rfl ?_ | refine aR tabOk rfl rfl rfl (nb rfl) rfl rfl rfl rfl (by first | assumption | omega) ?_ | refine aJ tabOk rfl rfl rfl (nb rfl) rfl rfl rfl rfl (by first | rfl | omega) (by first | omega | simp) ?_ | refine aC tabOk rfl rfl rfl (nb rfl) rfl rfl rfl (by assumption) ?_ | refine aC tabOk rfl rfl rfl (nb rfl) rfl rfl rfl (bS _ _ (by first | assumption | omega)) ?_ | refine aE rfl rfl rfl (nb rfl) rfl rfl (by omega) ?_ | ((fail_if_success (refine aG (b := true) rfl rfl rfl ?_)); (fail_if_success (refine aG (b := false) rfl rfl rfl ?_)); refine aW rfl rfl rfl (fun hq => ?_) (fun hq => ?_) <;> first | subst hq | (first | (simp only [sD, sE, sB, sC, sN, sM, sT, sF] at hq; try (exfalso; omega)) | skip)) | fail) | (refine bW ?_; first | refine bN ?_ | refine bT ?_ | refine aQ ?_ | refine bD ?_ | refine bU ?_ | refine bL ?_ | refine bK ?_ | refine aA (b := true) rfl (fun _ => ?_) nTf | refine aA (b := false) rfl nFt (fun _ => ?_) | refine bE ?_ | refine bC ?_ | refine bA mixed (by kernel_rfl) ?_ | refine aD mixed (by kernel_rfl) ?_ | (refine aA rfl (fun hq => ?_) (fun hq => ?_) <;> first | subst hq | (first | (simp only [sD, sE, sB, sC, sN, sM, sT, sF] at hq; try (exfalso; omega)) | skip)) | fail) | (refine bQ ?_; first | refine bZ ?_ | refine aK ?_ | refine aT ?_ | fail) | (refine bG ?_; first | refine bV ?_ | refine aH ?_ | refine aI (by decide) ?_ | refine aM ?_ | fail) | refine bR (bB (by kernel_rfl)) ?_ | fail)
               all_goals first
                 | (exfalso; have hh : (0 : Int) < (([] : List Tree).length : Int) := by assumption
                    simp at hh)
                 | (exfalso; omega)
                 | (refine dR ((Imp.of_le (σ' := S.f ⟨[(8, .obj 55 0), (9, .imm (.lit (.bool true)))], [(500, .arr 25 1 0 []), (55, .cells [.imm (.lit (.int .i64 110)), .imm (.lit (.int .i64 (n - 1))), .imm (.lit (.string ⟨#[]⟩)), .imm (.lit (.string ⟨#[]⟩)), .ref 500 0])]⟩) (cF (by repeat' first | exact trivial | refine ⟨rfl, ?_⟩) (by repeat' first | exact trivial | refine ⟨rfl, ?_⟩))).trans ((cW (g := 500) rfl (by repeat' first | exact trivial | exact fun _ => rfl | refine ⟨?_, ?_⟩) (by repeat' first | exact trivial | exact fun _ => rfl | refine ⟨?_, ?_⟩)).trans (dE (g := 55) rfl rfl))) ?_
                    refine cA (by first | exact .inl rfl | exact .inr rfl) (cC rfl (aY rfl) (aY rfl)) rfl ?_; rfl))
        · rw [if_neg h2]
          have hc := yN d 0 by_ 0 bv bk bw (Int.le_refl _) (by omega)
          obtain ⟨W, hW⟩ : ∃ W, walkS (shiftV d 0) by_ 0 true = W := ⟨_, rfl⟩
          rw [hW] at hc ⊢
          obtain ⟨W1, W2⟩ := W
          have hd : n - d = i := by omega
          have e2 : (if true = true ∧ (W1, W2).2 = true then ((W1, W2).1, true) else (varT n, false)) = (if W2 = true then (W1, true) else (varT n, false)) := by simp
          rw [e2]
          have e3 : told (if W2 = true then (W1, true) else (varT n, false)) = told (W1, W2) ∧ (if W2 = true then (W1, true) else (varT n, false)).2 = W2 := by cases W2 <;> exact ⟨rfl, rfl⟩
          rw [e3.1, e3.2]
          dsimp only at hc
          clear hW e2 e3
          generalize told (W1, W2) = Z at *
          refine cS Try.func132 rfl rfl (nb rfl) rfl ?_
          repeat' (first | refine bM ?_ | (refine bP ?_; first | refine aX tabOk rfl rfl rfl (nb rfl) rfl ?_ | refine bF rfl rfl (nb rfl) ?_ | (refine bO rfl rfl rfl (nb rfl) rfl rfl rfl (fun hq => ?_) (fun hq => ?_) <;> (first | (simp only [sD, sE, sB, sC, sN, sM, sT, sF] at hq; try (exfalso; omega)) | skip))| refine bX rfl rfl (nb rfl) rfl rfl rfl rfl (hc) ?_ | refine aE rfl rfl rfl (nb rfl) rfl rfl (by omega) ?_ | refine bI rfl rfl rfl (nb rfl) rfl rfl rfl (by omega) (by omega) ?_ | refine bJ rfl rfl rfl (nb rfl) rfl rfl rfl (by omega) (by omega) ?_ | refine bH tabOk rfl rfl rfl (nb rfl) rfl rfl rfl rfl rfl rfl rfl rfl rfl ?_ | refine aZ tabOk rfl rfl (nb rfl) rfl ?_ | refine aU tabOk rfl rfl rfl (nb rfl) rfl rfl rfl rfl rfl rfl ?_ | refine aV tabOk rfl rfl rfl (nb rfl) rfl rfl rfl rfl ?_ | refine aN tabOk rfl rfl rfl rfl rfl rfl rfl rfl rfl rfl rfl ?_ | refine aR tabOk rfl rfl rfl (nb rfl) rfl rfl rfl rfl (by first | assumption | omega) ?_ | refine aJ tabOk rfl rfl rfl (nb rfl) rfl rfl rfl rfl (by first | rfl | omega) (by first | omega | simp) ?_ | refine aC tabOk rfl rfl rfl (nb rfl) rfl rfl rfl (by assumption) ?_ | refine aC tabOk rfl rfl rfl (nb rfl) rfl rfl rfl (bS _ _ (by first | assumption | omega)) ?_ | refine aE rfl rfl rfl (nb rfl) rfl rfl (by omega) ?_ | ((fail_if_success (refine aG (b := true) rfl rfl rfl ?_)); (fail_if_success (refine aG (b := false) rfl rfl rfl ?_)); refine aW rfl rfl rfl (fun hq => ?_) (fun hq => ?_) <;> first | subst hq | (first | (simp only [sD, sE, sB, sC, sN, sM, sT, sF] at hq; try (exfalso; omega)) | skip)) | fail) | (refine bW ?_; first | refine bN ?_ | refine bT ?_ | refine aQ ?_ | refine bD ?_ | refine bU ?_ | refine bL ?_ | refine bK ?_ | refine aA (b := true) rfl (fun _ => ?_) nTf | refine aA (b := false) rfl nFt (fun _ => ?_) | refine bE ?_ | refine bC ?_ | refine bA mixed (by kernel_rfl) ?_ | refine aD mixed (by kernel_rfl) ?_ | (refine aA rfl (fun hq => ?_) (fun hq => ?_) <;> first | subst hq | (first | (simp only [sD, sE, sB, sC, sN, sM, sT, sF] at hq; try (exfalso; omega)) | skip)) | fail) | (refine bQ ?_; first | refine bZ ?_ | refine aK ?_ | refine aT ?_ | fail) | (refine bG ?_; first | refine bV ?_ | refine aH ?_ | refine aI (by decide) ?_ | refine aM ?_ | fail) | refine bR (bB (by kernel_rfl)) ?_ | fail)
          all_goals first
            | exact absurd rfl (by assumption)
            | (exfalso; omega)
            | (refine dI ?_; refine cA (by first | exact .inl rfl | exact .inr rfl) (cC rfl (aY rfl) (aY rfl)) rfl ?_; rfl)
    · have e := eJ (putV i by_) n d true (a := a) (b := emptyB) kids k110
      rw [e]
      clear e
      have hb := fB k
      have hvs := dN k110 hv
      obtain ⟨Y, hY⟩ : ∃ Y, walkSs (putV i by_) kids (d + bindsP k) true = Y := ⟨_, rfl⟩
      rw [hY]
      refine cS Try.func132 rfl rfl (nb rfl) rfl ?_
      refine cY (eW 55 (by simp) rfl rfl) ?_
      repeat' (first | refine bM ?_ | (refine bP ?_; first | refine aX tabOk rfl rfl rfl (nb rfl) rfl ?_ | refine bF rfl rfl (nb rfl) ?_ | (refine bO rfl rfl rfl (nb rfl) rfl rfl rfl (fun hq => ?_) (fun hq => ?_) <;> (first | (simp only [sD, sE, sB, sC, sN, sM, sT, sF] at hq; try (exfalso; omega)) | skip))| refine dG (d := 54) tabOk rfl rfl rfl (nb rfl) rfl rfl rfl rfl rfl ?_ | refine eC 55 (d := 55) rfl rfl rfl (nb rfl) rfl rfl rfl rfl rfl ?_ | refine aE rfl rfl rfl (nb rfl) rfl rfl (by omega) ?_ | refine bI rfl rfl rfl (nb rfl) rfl rfl rfl (by omega) (by omega) ?_ | refine bJ rfl rfl rfl (nb rfl) rfl rfl rfl (by omega) (by omega) ?_ | refine bH tabOk rfl rfl rfl (nb rfl) rfl rfl rfl rfl rfl rfl rfl rfl rfl ?_ | refine aZ tabOk rfl rfl (nb rfl) rfl ?_ | refine aU tabOk rfl rfl rfl (nb rfl) rfl rfl rfl rfl rfl rfl ?_ | refine aV tabOk rfl rfl rfl (nb rfl) rfl rfl rfl rfl ?_ | refine aN tabOk rfl rfl rfl rfl rfl rfl rfl rfl rfl rfl rfl ?_ | refine aR tabOk rfl rfl rfl (nb rfl) rfl rfl rfl rfl (by first | assumption | omega) ?_ | refine aJ tabOk rfl rfl rfl (nb rfl) rfl rfl rfl rfl (by first | rfl | omega) (by first | omega | simp) ?_ | refine aC tabOk rfl rfl rfl (nb rfl) rfl rfl rfl (by assumption) ?_ | refine aC tabOk rfl rfl rfl (nb rfl) rfl rfl rfl (bS _ _ (by first | assumption | omega)) ?_ | refine aE rfl rfl rfl (nb rfl) rfl rfl (by omega) ?_ | ((fail_if_success (refine aG (b := true) rfl rfl rfl ?_)); (fail_if_success (refine aG (b := false) rfl rfl rfl ?_)); refine aW rfl rfl rfl (fun hq => ?_) (fun hq => ?_) <;> first | subst hq | (first | (simp only [sD, sE, sB, sC, sN, sM, sT, sF] at hq; try (exfalso; omega)) | skip)) | fail) | (refine bW ?_; first | refine bN ?_ | refine bT ?_ | refine aQ ?_ | refine bD ?_ | refine bU ?_ | refine bL ?_ | refine bK ?_ | refine aA (b := true) rfl (fun _ => ?_) nTf | refine aA (b := false) rfl nFt (fun _ => ?_) | refine bE ?_ | refine bC ?_ | refine bA mixed (by kernel_rfl) ?_ | refine aD mixed (by kernel_rfl) ?_ | (refine aA rfl (fun hq => ?_) (fun hq => ?_) <;> first | subst hq | (first | (simp only [sD, sE, sB, sC, sN, sM, sT, sF] at hq; try (exfalso; omega)) | skip)) | fail) | (refine bQ ?_; first | refine bZ ?_ | refine aK ?_ | refine aT ?_ | fail) | (refine bG ?_; first | refine bV ?_ | refine aH ?_ | refine aI (by decide) ?_ | refine aM ?_ | fail) | refine bR (bB (by kernel_rfl)) ?_ | fail)
      all_goals first
        | exact absurd (by assumption) k110
        | (exfalso; omega)
        | skip
      refine cY (dU (h0 := 55) (k0 := 4) 500 25 1 rfl rfl (by simp) rfl rfl) ?_
      refine cH (ι := {j : Nat // j ≤ kids.length ∧ (walkSs (putV i by_) (kids.take j) (d + bindsP k) true).2 = true}) (fun j => S.f ⟨[(11, .imm (.lit (.int .i64 (j.1 : Int)))), (10, .obj 55 0), (0, .imm (Tree.iv (.node k n a emptyB kids))), (1, .imm (.lit (.int .i64 i))), (2, .imm by_.iv), (3, .imm (.lit (.int .i64 d)))], [(500, .arr 25 1 j.1 (Tree.ivs (walkSs (putV i by_) (kids.take j.1) (d + bindsP k) true).1)), (55, .cells [.imm (.lit (.int .i64 k)), .imm (.lit (.int .i64 n)), .imm (.lit (.string a)), .imm (.lit (.string ⟨#[]⟩)), .ref 500 j.1])]⟩) (fun j => kids.length - j.1) ⟨0, Nat.zero_le _, by rw [List.take_zero, cU]⟩ (by dsimp only; rw [List.take_zero, cU]; exact (cF (by repeat' first | exact trivial | refine ⟨rfl, ?_⟩) (by repeat' first | exact trivial | refine ⟨rfl, ?_⟩))) ?_
      rintro ⟨j, hj, hok⟩
      dsimp only
      by_cases hlt : j < kids.length
      · have hm := List.getElem_mem hlt
        have hz := cT hm
        have hwk := cD hw hm
        have hget := bS kids j hlt
        have hc := ih _ hm (d + bindsP k) (hvs _ hm) (hks _ hm) hwk (by omega) (by omega)
        have htk := eA (putV i by_) (d + bindsP k) true hlt
        rw [hok] at htk
        have hfn := lB (putV i by_) (uC i by_ bw) kids[j] (d + bindsP k) true hwk
        clear ih
        generalize hR : walkS (putV i by_) kids[j] (d + bindsP k) true = R at *
        obtain ⟨R1, R2⟩ := R
        dsimp only at hc hfn htk
        obtain ⟨pm, hpm⟩ := fR (fF hfn)
        cases R2 with
        | false =>
          have hbad : Y.2 = false := by
            rw [← hY]
            refine nF _ (fun s => s = false) (fun n d s h => rZ i by_ n d s h) _ _ _ (j + 1) ?_
            rw [htk]
          have hres : told ((Tree.node k n a emptyB Y.1), Y.2) = .nil ∧ Y.2 = false := ⟨by rw [hbad]; rfl, hbad⟩
          rw [nH] at hc
          rw [hres.1, hres.2]
          clear hY htk
          generalize Tree.ivs (walkSs (putV i by_) (kids.take j) (d + bindsP k) true).1 = ZI at *
          repeat' (first | refine bM ?_ | (refine bP ?_; first | refine aX tabOk rfl rfl rfl (nb rfl) rfl ?_ | refine bF rfl rfl (nb rfl) ?_ | (refine bO rfl rfl rfl (nb rfl) rfl rfl rfl (fun hq => ?_) (fun hq => ?_) <;> (first | (simp only [sD, sE, sB, sC, sN, sM, sT, sF] at hq; try (exfalso; omega)) | skip))| refine aC tabOk rfl rfl rfl (nb rfl) rfl rfl rfl hget ?_ | refine bX rfl rfl (nb rfl) rfl rfl rfl rfl (hc) ?_ | refine bX rfl rfl (nb rfl) rfl rfl rfl rfl (ci) ?_ | refine aE rfl rfl rfl (nb rfl) rfl rfl (by omega) ?_ | refine bI rfl rfl rfl (nb rfl) rfl rfl rfl (by omega) (by omega) ?_ | refine bJ rfl rfl rfl (nb rfl) rfl rfl rfl (by omega) (by omega) ?_ | refine bH tabOk rfl rfl rfl (nb rfl) rfl rfl rfl rfl rfl rfl rfl rfl rfl ?_ | refine aZ tabOk rfl rfl (nb rfl) rfl ?_ | refine aU tabOk rfl rfl rfl (nb rfl) rfl rfl rfl rfl rfl rfl ?_ | refine aV tabOk rfl rfl rfl (nb rfl) rfl rfl rfl rfl ?_ | refine aN tabOk rfl rfl rfl rfl rfl rfl rfl rfl rfl rfl rfl ?_ | refine aR tabOk rfl rfl rfl (nb rfl) rfl rfl rfl rfl (by first | assumption | omega) ?_ | refine aJ tabOk rfl rfl rfl (nb rfl) rfl rfl rfl rfl (by first | rfl | omega) (by first | omega | simp) ?_ | refine aC tabOk rfl rfl rfl (nb rfl) rfl rfl rfl (by assumption) ?_ | refine aC tabOk rfl rfl rfl (nb rfl) rfl rfl rfl (bS _ _ (by first | assumption | omega)) ?_ | refine aE rfl rfl rfl (nb rfl) rfl rfl (by omega) ?_ | ((fail_if_success (refine aG (b := true) rfl rfl rfl ?_)); (fail_if_success (refine aG (b := false) rfl rfl rfl ?_)); refine aW rfl rfl rfl (fun hq => ?_) (fun hq => ?_) <;> first | subst hq | (first | (simp only [sD, sE, sB, sC, sN, sM, sT, sF] at hq; try (exfalso; omega)) | skip)) | fail) | (refine bW ?_; first | refine bN ?_ | refine bT ?_ | refine aQ ?_ | refine bD ?_ | refine bU ?_ | refine bL ?_ | refine bK ?_ | refine aA (b := true) rfl (fun _ => ?_) nTf | refine aA (b := false) rfl nFt (fun _ => ?_) | refine bE ?_ | refine bC ?_ | refine bA mixed (by kernel_rfl) ?_ | refine aD mixed (by kernel_rfl) ?_ | (refine aA rfl (fun hq => ?_) (fun hq => ?_) <;> first | subst hq | (first | (simp only [sD, sE, sB, sC, sN, sM, sT, sF] at hq; try (exfalso; omega)) | skip)) | fail) | (refine bQ ?_; first | refine bZ ?_ | refine aK ?_ | refine aT ?_ | fail) | (refine bG ?_; first | refine bV ?_ | refine aH ?_ | refine aI (by decide) ?_ | refine aM ?_ | fail) | refine bR (bB (by kernel_rfl)) ?_ | fail)
          all_goals first
            | (exfalso; omega)
            | (refine dI ?_; refine cA (by first | exact .inl rfl | exact .inr rfl) (cC rfl (aY rfl) (aY rfl)) rfl ?_; rfl)
        | true =>
          have hnx : Tree.ivs (walkSs (putV i by_) (kids.take (j + 1)) (d + bindsP k) true).1 = Tree.ivs (walkSs (putV i by_) (kids.take j) (d + bindsP k) true).1 ++ [.ptr pm 0] := by
            rw [htk, dK, dK, List.map_append, ← hpm]; rfl
          have hok2 : (walkSs (putV i by_) (kids.take (j + 1)) (d + bindsP k) true).2 = true := by rw [htk]
          have hil := eH (walkSs (putV i by_) (kids.take j) (d + bindsP k) true).1
          rw [dO, List.length_take, Nat.min_eq_left hj] at hil
          rw [iQ, hpm] at hc
          clear htk hY
          generalize Tree.ivs (walkSs (putV i by_) (kids.take j) (d + bindsP k) true).1 = ZI at *
          repeat' (first | refine bM ?_ | (refine bP ?_; first | refine aX tabOk rfl rfl rfl (nb rfl) rfl ?_ | refine bF rfl rfl (nb rfl) ?_ | (refine bO rfl rfl rfl (nb rfl) rfl rfl rfl (fun hq => ?_) (fun hq => ?_) <;> (first | (simp only [sD, sE, sB, sC, sN, sM, sT, sF] at hq; try (exfalso; omega)) | skip))| refine aC tabOk rfl rfl rfl (nb rfl) rfl rfl rfl hget ?_ | refine bX rfl rfl (nb rfl) rfl rfl rfl rfl (hc) ?_ | refine bX rfl rfl (nb rfl) rfl rfl rfl rfl (ci) ?_ | refine dF tabOk rfl rfl rfl (nb rfl) rfl rfl rfl rfl rfl rfl rfl (by first | omega | decide) rfl (by first | omega | (dsimp only; omega)) (by first | omega | (dsimp only; omega)) ?_ | refine aE rfl rfl rfl (nb rfl) rfl rfl (by omega) ?_ | refine bI rfl rfl rfl (nb rfl) rfl rfl rfl (by omega) (by omega) ?_ | refine bJ rfl rfl rfl (nb rfl) rfl rfl rfl (by omega) (by omega) ?_ | refine bH tabOk rfl rfl rfl (nb rfl) rfl rfl rfl rfl rfl rfl rfl rfl rfl ?_ | refine aZ tabOk rfl rfl (nb rfl) rfl ?_ | refine aU tabOk rfl rfl rfl (nb rfl) rfl rfl rfl rfl rfl rfl ?_ | refine aV tabOk rfl rfl rfl (nb rfl) rfl rfl rfl rfl ?_ | refine aN tabOk rfl rfl rfl rfl rfl rfl rfl rfl rfl rfl rfl ?_ | refine aR tabOk rfl rfl rfl (nb rfl) rfl rfl rfl rfl (by first | assumption | omega) ?_ | refine aJ tabOk rfl rfl rfl (nb rfl) rfl rfl rfl rfl (by first | rfl | omega) (by first | omega | simp) ?_ | refine aC tabOk rfl rfl rfl (nb rfl) rfl rfl rfl (by assumption) ?_ | refine aC tabOk rfl rfl rfl (nb rfl) rfl rfl rfl (bS _ _ (by first | assumption | omega)) ?_ | refine aE rfl rfl rfl (nb rfl) rfl rfl (by omega) ?_ | ((fail_if_success (refine aG (b := true) rfl rfl rfl ?_)); (fail_if_success (refine aG (b := false) rfl rfl rfl ?_)); refine aW rfl rfl rfl (fun hq => ?_) (fun hq => ?_) <;> first | subst hq | (first | (simp only [sD, sE, sB, sC, sN, sM, sT, sF] at hq; try (exfalso; omega)) | skip)) | fail) | (refine bW ?_; first | refine bN ?_ | refine bT ?_ | refine aQ ?_ | refine bD ?_ | refine bU ?_ | refine bL ?_ | refine bK ?_ | refine aA (b := true) rfl (fun _ => ?_) nTf | refine aA (b := false) rfl nFt (fun _ => ?_) | refine bE ?_ | refine bC ?_ | refine bA mixed (by kernel_rfl) ?_ | refine aD mixed (by kernel_rfl) ?_ | (refine aA rfl (fun hq => ?_) (fun hq => ?_) <;> first | subst hq | (first | (simp only [sD, sE, sB, sC, sN, sM, sT, sF] at hq; try (exfalso; omega)) | skip)) | fail) | (refine bQ ?_; first | refine bZ ?_ | refine aK ?_ | refine aT ?_ | fail) | (refine bG ?_; first | refine bV ?_ | refine aH ?_ | refine aI (by decide) ?_ | refine aM ?_ | fail) | refine bR (bB (by kernel_rfl)) ?_ | fail)
          all_goals first
            | (exfalso; omega)
            | (refine ⟨⟨j + 1, hlt, hok2⟩, (by show kids.length - (j + 1) < kids.length - j; omega), ?_⟩; dsimp only; rw [hnx]; exact (cF (by repeat' first | exact trivial | refine ⟨rfl, ?_⟩) (by repeat' first | exact trivial | refine ⟨rfl, ?_⟩)))
      · have ej : j = kids.length := by omega
        subst ej
        rw [List.take_length] at hok ⊢
        rw [hY] at hok ⊢
        have hll : Y.1.length = kids.length := by rw [← hY, dO]
        have hiv : (told ((Tree.node k n a emptyB Y.1), Y.2)).iv = .ptr [.lit (.int .i64 k), .lit (.int .i64 n), .lit (.string a), .lit (.string ⟨#[]⟩), .sl false kids.length (Tree.ivs Y.1)] 0 := by rw [hok, iQ, Tree.iv, hll]; rfl
        rw [hiv, hok]
        clear ih hY
        generalize Tree.ivs Y.1 = ZI at *
        repeat' (first | refine bM ?_ | (refine bP ?_; first | refine aX tabOk rfl rfl rfl (nb rfl) rfl ?_ | refine bF rfl rfl (nb rfl) ?_ | (refine bO rfl rfl rfl (nb rfl) rfl rfl rfl (fun hq => ?_) (fun hq => ?_) <;> (first | (simp only [sD, sE, sB, sC, sN, sM, sT, sF] at hq; try (exfalso; omega)) | skip)) | refine aE rfl rfl rfl (nb rfl) rfl rfl (by omega) ?_ | refine bI rfl rfl rfl (nb rfl) rfl rfl rfl (by omega) (by omega) ?_ | refine bJ rfl rfl rfl (nb rfl) rfl rfl rfl (by omega) (by omega) ?_ | refine bH tabOk rfl rfl rfl (nb rfl) rfl rfl rfl rfl rfl rfl rfl rfl rfl ?_ | refine aZ tabOk rfl rfl (nb rfl) rfl ?_ | refine aU tabOk rfl rfl rfl (nb rfl) rfl rfl rfl rfl rfl rfl ?_ | refine aV tabOk rfl rfl rfl (nb rfl) rfl rfl rfl rfl ?_ | refine aN tabOk rfl rfl rfl rfl rfl rfl rfl rfl rfl rfl rfl ?_ | refine aR tabOk rfl rfl rfl (nb rfl) rfl rfl rfl rfl (by first | assumption | omega) ?_ | refine aJ tabOk rfl rfl rfl (nb rfl) rfl rfl rfl rfl (by first | rfl | omega) (by first | omega | simp) ?_ | refine aC tabOk rfl rfl rfl (nb rfl) rfl rfl rfl (by assumption) ?_ | refine aC tabOk rfl rfl rfl (nb rfl) rfl rfl rfl (bS _ _ (by first | assumption | omega)) ?_ | refine aE rfl rfl rfl (nb rfl) rfl rfl (by omega) ?_ | ((fail_if_success (refine aG (b := true) rfl rfl rfl ?_)); (fail_if_success (refine aG (b := false) rfl rfl rfl ?_)); refine aW rfl rfl rfl (fun hq => ?_) (fun hq => ?_) <;> first | subst hq | (first | (simp only [sD, sE, sB, sC, sN, sM, sT, sF] at hq; try (exfalso; omega)) | skip)) | fail) | (refine bW ?_; first | refine bN ?_ | refine bT ?_ | refine aQ ?_ | refine bD ?_ | refine bU ?_ | refine bL ?_ | refine bK ?_ | refine aA (b := true) rfl (fun _ => ?_) nTf | refine aA (b := false) rfl nFt (fun _ => ?_) | refine bE ?_ | refine bC ?_ | refine bA mixed (by kernel_rfl) ?_ | refine aD mixed (by kernel_rfl) ?_ | (refine aA rfl (fun hq => ?_) (fun hq => ?_) <;> first | subst hq | (first | (simp only [sD, sE, sB, sC, sN, sM, sT, sF] at hq; try (exfalso; omega)) | skip)) | fail) | (refine bQ ?_; first | refine bZ ?_ | refine aK ?_ | refine aT ?_ | fail) | (refine bG ?_; first | refine bV ?_ | refine aH ?_ | refine aI (by decide) ?_ | refine aM ?_ | fail) | refine bR (bB (by kernel_rfl)) ?_ | fail)
        all_goals first
          | (exfalso; omega)
          | (refine dR ((Imp.of_le (σ' := S.f ⟨[(8, .obj 55 0), (9, .imm (.lit (.bool true)))], [(500, .arr 25 1 kids.length ZI), (55, .cells [.imm (.lit (.int .i64 k)), .imm (.lit (.int .i64 n)), .imm (.lit (.string a)), .imm (.lit (.string ⟨#[]⟩)), .ref 500 kids.length])]⟩) (cF (by repeat' first | exact trivial | refine ⟨rfl, ?_⟩) (by repeat' first | exact trivial | refine ⟨rfl, ?_⟩))).trans ((cW (g := 500) rfl (by repeat' first | exact trivial | exact fun _ => rfl | refine ⟨?_, ?_⟩) (by repeat' first | exact trivial | exact fun _ => rfl | refine ⟨?_, ?_⟩)).trans (dE (g := 55) rfl rfl))) ?_
             refine cA (by first | exact .inl rfl | exact .inr rfl) (cC rfl (aY rfl) (aY rfl)) rfl ?_; rfl)
mutual
/-- How often a variable stands in a tree, within so many binders. -/
def cntP (i : Int) : Tree → Int → Nat
  | .nil, _ => 0
  | .node k n _ _ kids, d => (if k = 110 ∧ d ≤ n ∧ n - d = i then 1 else 0) + cntPs i kids (d + bindsP k)
def cntPs (i : Int) : List Tree → Int → Nat
  | [], _ => 0
  | t :: ts, d => cntP i t d + cntPs i ts d
end
theorem nI (i d : Int) : ∀ (l : List Tree) (t : Tree), cntPs i (l ++ [t]) d = cntPs i l d + cntP i t d
  | [], t => by simp [cntPs]
  | x :: l, t => by rw [List.cons_append, cntPs, nI i d l t, cntPs]; omega
theorem uD (i d : Int) {l : List Tree} {j : Nat} (h : j < l.length) : cntPs i (l.take (j + 1)) d = cntPs i (l.take j) d + cntP i l[j] d := by
  rw [List.take_succ_eq_append_getElem h, nI]
theorem lQ (i : Int) (t : Tree) : ∀ d, cntP i t d ≤ t.size := by
  induction t using Tree.ind with
  | h1 => intro d; rw [cntP]; exact Nat.zero_le _
  | h2 k n a b kids ih =>
    intro d
    have key : ∀ (l : List Tree), (∀ t ∈ l, t ∈ kids) → cntPs i l (d + bindsP k) ≤ Tree.sizes l := by
      intro l
      induction l with
      | nil => intro _; rw [cntPs]; exact Nat.zero_le _
      | cons t ts ih2 =>
        intro hm
        rw [cntPs, Tree.sizes]
        exact Nat.add_le_add (ih t (hm t (by simp)) _) (ih2 fun t' h' => hm t' (by simp [h']))
    have := key kids fun _ h => h
    rw [cntP, Tree.size]
    split <;> omega
theorem sA (i d : Int) : ∀ l : List Tree, cntPs i l d ≤ Tree.sizes l
  | [] => by rw [cntPs]; exact Nat.zero_le _
  | t :: ts => by rw [cntPs, Tree.sizes]; exact Nat.add_le_add (lQ i t d) (sA i d ts)
theorem uE (l : List Tree) (j : Nat) : Tree.sizes (l.take j) ≤ Tree.sizes l := by
  have := fC (l.take j) (l.drop j)
  rw [List.take_append_drop] at this
  omega
set_option maxHeartbeats 16000000 in
set_option maxRecDepth 10000 in
theorem yO (i : Int) (hi : 0 ≤ i) (t : Tree) : ∀ d : Int, okVars t = true → t.whole = true → 0 ≤ d → d + t.size ≤ 1000000 →
    ACalls Try.prog 131 [.imm t.iv, .imm (.lit (.int .i64 i)), .imm (.lit (.int .i64 d))] [] (.imm (.lit (.int .i64 (cntP i t d : Nat)))) [] := by
  induction t using Tree.ind with
  | h1 => intro d _ h; simp [Tree.whole] at h
  | h2 k n a b kids ih =>
    intro d hv hw hd hs
    have hl := cI kids hw
    have hsz : (Tree.node k n a b kids).size = 1 + Tree.sizes kids := by rw [Tree.size]
    rw [hsz] at hs
    have ci := nG k n a b kids
    have hb := fB k
    have hv0 : k = 110 → 0 ≤ n ∧ n ≤ 65536 ∧ kids = [] := fun e => ⟨(dL e hv).1, (dL e hv).2.1, (dL e hv).2.2.2.2⟩
    rw [cntP]
    obtain ⟨c0, hc0⟩ : ∃ c0 : Nat, (if k = 110 ∧ d ≤ n ∧ n - d = i then 1 else 0) = c0 := ⟨_, rfl⟩
    rw [hc0]
    have hc1 : (k = 110 ∧ d ≤ n ∧ n - d = i ∧ c0 = 1) ∨ (¬ (k = 110 ∧ d ≤ n ∧ n - d = i) ∧ c0 = 0) := by
      rw [← hc0]
      by_cases h : k = 110 ∧ d ≤ n ∧ n - d = i
      · rw [if_pos h]; exact .inl ⟨h.1, h.2.1, h.2.2, rfl⟩
      · rw [if_neg h]; exact .inr ⟨h, rfl⟩
    clear hc0
    have hn : k = 110 → 0 ≤ n ∧ n ≤ 65536 := fun e => ⟨(hv0 e).1, (hv0 e).2.1⟩
    refine bY Try.func131 rfl rfl (nb rfl) rfl ?_
    repeat' (first | refine bM ?_ | (refine bP ?_; first | refine aX tabOk rfl rfl rfl (nb rfl) rfl ?_ | refine bF rfl rfl (nb rfl) ?_ | (refine bO rfl rfl rfl (nb rfl) rfl rfl rfl (fun hq => ?_) (fun hq => ?_) <;> (first | (simp only [sD, sE, sB, sC, sN, sM, sT, sF] at hq; try (exfalso; omega)) | skip))| refine bJ (z := n - d) rfl rfl rfl (nb rfl) rfl rfl rfl (by have := hn (by assumption); omega) (by have := hn (by assumption); omega) ?_ | refine aE rfl rfl rfl (nb rfl) rfl rfl (by omega) ?_ | refine bI rfl rfl rfl (nb rfl) rfl rfl rfl (by omega) (by omega) ?_ | refine bJ rfl rfl rfl (nb rfl) rfl rfl rfl (by omega) (by omega) ?_ | refine bH tabOk rfl rfl rfl (nb rfl) rfl rfl rfl rfl rfl rfl rfl rfl rfl ?_ | refine aZ tabOk rfl rfl (nb rfl) rfl ?_ | refine aU tabOk rfl rfl rfl (nb rfl) rfl rfl rfl rfl rfl rfl ?_ | refine aV tabOk rfl rfl rfl (nb rfl) rfl rfl rfl rfl ?_ | refine aN tabOk rfl rfl rfl rfl rfl rfl rfl rfl rfl rfl rfl ?_ | refine aR tabOk rfl rfl rfl (nb rfl) rfl rfl rfl rfl (by first | assumption | omega) ?_ | refine aJ tabOk rfl rfl rfl (nb rfl) rfl rfl rfl rfl (by first | rfl | omega) (by first | omega | simp) ?_ | refine aC tabOk rfl rfl rfl (nb rfl) rfl rfl rfl (by assumption) ?_ | refine aC tabOk rfl rfl rfl (nb rfl) rfl rfl rfl (bS _ _ (by first | assumption | omega)) ?_ | refine aE rfl rfl rfl (nb rfl) rfl rfl (by omega) ?_ | ((fail_if_success (refine aG (b := true) rfl rfl rfl ?_)); (fail_if_success (refine aG (b := false) rfl rfl rfl ?_)); refine aW rfl rfl rfl (fun hq => ?_) (fun hq => ?_) <;> first | subst hq | (first | (simp only [sD, sE, sB, sC, sN, sM, sT, sF] at hq; try (exfalso; omega)) | skip)) | fail) | (refine bW ?_; first | refine bN ?_ | refine bT ?_ | refine aQ ?_ | refine bD ?_ | refine bU ?_ | refine bL ?_ | refine bK ?_ | refine aA (b := true) rfl (fun _ => ?_) nTf | refine aA (b := false) rfl nFt (fun _ => ?_) | refine bE ?_ | refine bC ?_ | refine bA mixed (by kernel_rfl) ?_ | refine aD mixed (by kernel_rfl) ?_ | (refine aA rfl (fun hq => ?_) (fun hq => ?_) <;> first | subst hq | (first | (simp only [sD, sE, sB, sC, sN, sM, sT, sF] at hq; try (exfalso; omega)) | skip)) | fail) | (refine bQ ?_; first | refine bZ ?_ | refine aK ?_ | refine aT ?_ | fail) | (refine bG ?_; first | refine bV ?_ | refine aH ?_ | refine aI (by decide) ?_ | refine aM ?_ | fail) | refine bR (bB (by kernel_rfl)) ?_ | fail)
    all_goals first
      | (exfalso; omega)
      | skip
    all_goals rcases hc1 with ⟨e1, e2, e3, e4⟩ | ⟨e1, e4⟩
    all_goals first
      | (exfalso; omega)
      | skip
    all_goals (
      refine cH (ι := {j : Nat // j ≤ kids.length}) (fun j => S.f ⟨[(8, .imm (.lit (.int .i64 (j.1 : Int)))), (7, .imm (.lit (.int .i64 ((c0 + cntPs i (kids.take j.1) (d + bindsP k) : Nat) : Int)))), (0, .imm (Tree.iv (.node k n a b kids))), (1, .imm (.lit (.int .i64 i))), (2, .imm (.lit (.int .i64 d)))], []⟩) (fun j => kids.length - j.1) ⟨0, Nat.zero_le _⟩ (by dsimp only; rw [List.take_zero, cntPs, e4]; exact (cF (by repeat' first | exact trivial | refine ⟨rfl, ?_⟩) (by repeat' first | exact trivial | refine ⟨rfl, ?_⟩))) ?_
      rintro ⟨j, hj⟩
      dsimp only
      have htl := sA i (d + bindsP k) (kids.take j)
      have hts := uE kids j
      by_cases hlt : j < kids.length
      · have hm := List.getElem_mem hlt
        have hz := cT hm
        have hwk := cD hw hm
        have hget := bS kids j hlt
        have hk0 : k ≠ 110 := fun e => by rw [(hv0 e).2.2] at hlt; cases hlt
        have hc := ih _ hm (d + bindsP k) (dN hk0 hv _ hm) hwk (by omega) (by omega)
        have htk := uD i (d + bindsP k) hlt
        have hle := lQ i kids[j] (d + bindsP k)
        repeat' (first | refine bM ?_ | (refine bP ?_; first | refine aX tabOk rfl rfl rfl (nb rfl) rfl ?_ | refine bF rfl rfl (nb rfl) ?_ | (refine bO rfl rfl rfl (nb rfl) rfl rfl rfl (fun hq => ?_) (fun hq => ?_) <;> (first | (simp only [sD, sE, sB, sC, sN, sM, sT, sF] at hq; try (exfalso; omega)) | skip))| refine aC tabOk rfl rfl rfl (nb rfl) rfl rfl rfl hget ?_ | refine bX rfl rfl (nb rfl) rfl rfl rfl rfl (hc) ?_ | refine bX rfl rfl (nb rfl) rfl rfl rfl rfl (ci) ?_ | refine bI (z := ((c0 + cntPs i (kids.take (j + 1)) (d + bindsP k) : Nat) : Int)) rfl rfl rfl (nb rfl) rfl rfl (by omega) (by omega) (by omega) ?_ | refine aE rfl rfl rfl (nb rfl) rfl rfl (by omega) ?_ | refine bI rfl rfl rfl (nb rfl) rfl rfl rfl (by omega) (by omega) ?_ | refine bJ rfl rfl rfl (nb rfl) rfl rfl rfl (by omega) (by omega) ?_ | refine bH tabOk rfl rfl rfl (nb rfl) rfl rfl rfl rfl rfl rfl rfl rfl rfl ?_ | refine aZ tabOk rfl rfl (nb rfl) rfl ?_ | refine aU tabOk rfl rfl rfl (nb rfl) rfl rfl rfl rfl rfl rfl ?_ | refine aV tabOk rfl rfl rfl (nb rfl) rfl rfl rfl rfl ?_ | refine aN tabOk rfl rfl rfl rfl rfl rfl rfl rfl rfl rfl rfl ?_ | refine aR tabOk rfl rfl rfl (nb rfl) rfl rfl rfl rfl (by first | assumption | omega) ?_ | refine aJ tabOk rfl rfl rfl (nb rfl) rfl rfl rfl rfl (by first | rfl | omega) (by first | omega | simp) ?_ | refine aC tabOk rfl rfl rfl (nb rfl) rfl rfl rfl (by assumption) ?_ | refine aC tabOk rfl rfl rfl (nb rfl) rfl rfl rfl (bS _ _ (by first | assumption | omega)) ?_ | refine aE rfl rfl rfl (nb rfl) rfl rfl (by omega) ?_ | ((fail_if_success (refine aG (b := true) rfl rfl rfl ?_)); (fail_if_success (refine aG (b := false) rfl rfl rfl ?_)); refine aW rfl rfl rfl (fun hq => ?_) (fun hq => ?_) <;> first | subst hq | (first | (simp only [sD, sE, sB, sC, sN, sM, sT, sF] at hq; try (exfalso; omega)) | skip)) | fail) | (refine bW ?_; first | refine bN ?_ | refine bT ?_ | refine aQ ?_ | refine bD ?_ | refine bU ?_ | refine bL ?_ | refine bK ?_ | refine aA (b := true) rfl (fun _ => ?_) nTf | refine aA (b := false) rfl nFt (fun _ => ?_) | refine bE ?_ | refine bC ?_ | refine bA mixed (by kernel_rfl) ?_ | refine aD mixed (by kernel_rfl) ?_ | (refine aA rfl (fun hq => ?_) (fun hq => ?_) <;> first | subst hq | (first | (simp only [sD, sE, sB, sC, sN, sM, sT, sF] at hq; try (exfalso; omega)) | skip)) | fail) | (refine bQ ?_; first | refine bZ ?_ | refine aK ?_ | refine aT ?_ | fail) | (refine bG ?_; first | refine bV ?_ | refine aH ?_ | refine aI (by decide) ?_ | refine aM ?_ | fail) | refine bR (bB (by kernel_rfl)) ?_ | fail)
        all_goals first
          | (exfalso; omega)
          | exact ⟨⟨j + 1, hlt⟩, (by show kids.length - (j + 1) < kids.length - j; omega), (cF (by repeat' first | exact trivial | refine ⟨rfl, ?_⟩) (by repeat' first | exact trivial | refine ⟨rfl, ?_⟩))⟩
      · have ej : j = kids.length := by omega
        subst ej
        rw [List.take_length]
        repeat' (first | refine bM ?_ | (refine bP ?_; first | refine aX tabOk rfl rfl rfl (nb rfl) rfl ?_ | refine bF rfl rfl (nb rfl) ?_ | (refine bO rfl rfl rfl (nb rfl) rfl rfl rfl (fun hq => ?_) (fun hq => ?_) <;> (first | (simp only [sD, sE, sB, sC, sN, sM, sT, sF] at hq; try (exfalso; omega)) | skip)) | refine aE rfl rfl rfl (nb rfl) rfl rfl (by omega) ?_ | refine bI rfl rfl rfl (nb rfl) rfl rfl rfl (by omega) (by omega) ?_ | refine bJ rfl rfl rfl (nb rfl) rfl rfl rfl (by omega) (by omega) ?_ | refine bH tabOk rfl rfl rfl (nb rfl) rfl rfl rfl rfl rfl rfl rfl rfl rfl ?_ | refine aZ tabOk rfl rfl (nb rfl) rfl ?_ | refine aU tabOk rfl rfl rfl (nb rfl) rfl rfl rfl rfl rfl rfl ?_ | refine aV tabOk rfl rfl rfl (nb rfl) rfl rfl rfl rfl ?_ | refine aN tabOk rfl rfl rfl rfl rfl rfl rfl rfl rfl rfl rfl ?_ | refine aR tabOk rfl rfl rfl (nb rfl) rfl rfl rfl rfl (by first | assumption | omega) ?_ | refine aJ tabOk rfl rfl rfl (nb rfl) rfl rfl rfl rfl (by first | rfl | omega) (by first | omega | simp) ?_ | refine aC tabOk rfl rfl rfl (nb rfl) rfl rfl rfl (by assumption) ?_ | refine aC tabOk rfl rfl rfl (nb rfl) rfl rfl rfl (bS _ _ (by first | assumption | omega)) ?_ | refine aE rfl rfl rfl (nb rfl) rfl rfl (by omega) ?_ | ((fail_if_success (refine aG (b := true) rfl rfl rfl ?_)); (fail_if_success (refine aG (b := false) rfl rfl rfl ?_)); refine aW rfl rfl rfl (fun hq => ?_) (fun hq => ?_) <;> first | subst hq | (first | (simp only [sD, sE, sB, sC, sN, sM, sT, sF] at hq; try (exfalso; omega)) | skip)) | fail) | (refine bW ?_; first | refine bN ?_ | refine bT ?_ | refine aQ ?_ | refine bD ?_ | refine bU ?_ | refine bL ?_ | refine bK ?_ | refine aA (b := true) rfl (fun _ => ?_) nTf | refine aA (b := false) rfl nFt (fun _ => ?_) | refine bE ?_ | refine bC ?_ | refine bA mixed (by kernel_rfl) ?_ | refine aD mixed (by kernel_rfl) ?_ | (refine aA rfl (fun hq => ?_) (fun hq => ?_) <;> first | subst hq | (first | (simp only [sD, sE, sB, sC, sN, sM, sT, sF] at hq; try (exfalso; omega)) | skip)) | fail) | (refine bQ ?_; first | refine bZ ?_ | refine aK ?_ | refine aT ?_ | fail) | (refine bG ?_; first | refine bV ?_ | refine aH ?_ | refine aI (by decide) ?_ | refine aM ?_ | fail) | refine bR (bB (by kernel_rfl)) ?_ | fail)
        all_goals first
          | (exfalso; omega)
          | (refine cA (by first | exact .inl rfl | exact .inr rfl) (cB rfl (aY rfl)) rfl ?_; rfl))
end Go.Proofs.Ytlbemgokilhdnaa.Ab
namespace Go.Proofs.Ytlbemgokilhdnaa.Ab
set_option linter.unusedVariables false
set_option linter.unusedSimpArgs false
open Go.RowKit
attribute [local irreducible] AWP AOps AExit AThen ABlock ANoGoto FeetOk
/-- What within tells first. -/
def withinL (t : Tree) (l : Int) : Int := if (wholeP t l).1 = 0 then (wholeP t l).2 else match t with | .nil => l | .node .. => 0
set_option maxHeartbeats 8000000 in
set_option maxRecDepth 10000 in
theorem uF (t : Tree) : ∀ l : Int, 0 ≤ l → l ≤ 1000000 → ACalls Try.prog 96 [.imm t.iv, .imm (.lit (.int .i64 l))] [] (.imm (.tup [.lit (.int .i64 (withinL t l)), .lit (.int .i64 (wholeP t l).1)])) [] := by
  induction t using Tree.ind with
  | h1 => intro l h0 h1; exact uA l
  | h2 k n a b kids ih =>
    intro l h0 h1
    by_cases hl0 : l = 0
    · subst hl0
      refine bY Try.func96 rfl rfl (nb rfl) rfl ?_
      repeat' (first | refine bM ?_ | (refine bP ?_; first | refine aX tabOk rfl rfl rfl (nb rfl) rfl ?_ | refine bF rfl rfl (nb rfl) ?_ | (refine bO rfl rfl rfl (nb rfl) rfl rfl rfl (fun hq => ?_) (fun hq => ?_) <;> (first | (simp only [sD, sE, sB, sC, sN, sM, sT, sF] at hq; try (exfalso; omega)) | skip)) | refine aE rfl rfl rfl (nb rfl) rfl rfl (by omega) ?_ | refine bI rfl rfl rfl (nb rfl) rfl rfl rfl (by omega) (by omega) ?_ | refine bJ rfl rfl rfl (nb rfl) rfl rfl rfl (by omega) (by omega) ?_ | refine bH tabOk rfl rfl rfl (nb rfl) rfl rfl rfl rfl rfl rfl rfl rfl rfl ?_ | refine aZ tabOk rfl rfl (nb rfl) rfl ?_ | refine aU tabOk rfl rfl rfl (nb rfl) rfl rfl rfl rfl rfl rfl ?_ | refine aV tabOk rfl rfl rfl (nb rfl) rfl rfl rfl rfl ?_ | refine aN tabOk rfl rfl rfl rfl rfl rfl rfl rfl rfl rfl rfl ?_ | refine aR tabOk rfl rfl rfl (nb rfl) rfl rfl rfl rfl (by first | assumption | omega) ?_ | refine aJ tabOk rfl rfl rfl (nb rfl) rfl rfl rfl rfl (by first | rfl | omega) (by first | omega | simp) ?_ | refine aC tabOk rfl rfl rfl (nb rfl) rfl rfl rfl (by assumption) ?_ | refine aC tabOk rfl rfl rfl (nb rfl) rfl rfl rfl (bS _ _ (by first | assumption | omega)) ?_ | refine aE rfl rfl rfl (nb rfl) rfl rfl (by omega) ?_ | ((fail_if_success (refine aG (b := true) rfl rfl rfl ?_)); (fail_if_success (refine aG (b := false) rfl rfl rfl ?_)); refine aW rfl rfl rfl (fun hq => ?_) (fun hq => ?_) <;> first | subst hq | (first | (simp only [sD, sE, sB, sC, sN, sM, sT, sF] at hq; try (exfalso; omega)) | skip)) | fail) | (refine bW ?_; first | refine bN ?_ | refine bT ?_ | refine aQ ?_ | refine bD ?_ | refine bU ?_ | refine bL ?_ | refine bK ?_ | refine aA (b := true) rfl (fun _ => ?_) nTf | refine aA (b := false) rfl nFt (fun _ => ?_) | refine bE ?_ | refine bC ?_ | refine bA mixed (by kernel_rfl) ?_ | refine aD mixed (by kernel_rfl) ?_ | (refine aA rfl (fun hq => ?_) (fun hq => ?_) <;> first | subst hq | (first | (simp only [sD, sE, sB, sC, sN, sM, sT, sF] at hq; try (exfalso; omega)) | skip)) | fail) | (refine bQ ?_; first | refine bZ ?_ | refine aK ?_ | refine aT ?_ | fail) | (refine bG ?_; first | refine bV ?_ | refine aH ?_ | refine aI (by decide) ?_ | refine aM ?_ | fail) | refine bR (bB (by kernel_rfl)) ?_ | fail)
      all_goals first
        | exact absurd rfl (by assumption)
        | (exfalso; omega)
        | (refine cA (by first | exact .inl rfl | exact .inr rfl) (cC rfl (aY rfl) (aY rfl)) rfl ?_; rfl)
    · obtain ⟨W, hW⟩ : ∃ W, wholeP (.node k n a b kids) l = W := ⟨_, rfl⟩
      have hwl : withinL (.node k n a b kids) l = if W.1 = 0 then W.2 else 0 := by unfold withinL; rw [hW]
      rw [hwl, hW]
      rw [wholeP, if_neg (by omega)] at hW
      have hbd : ∀ j, (wholePs (kids.take j) (l - 1)).1 = 0 → 0 ≤ (wholePs (kids.take j) (l - 1)).2 ∧ (wholePs (kids.take j) (l - 1)).2 + (kids.take j).length ≤ l - 1 := fun j h => eY _ _ (by omega) h
      refine bY Try.func96 rfl rfl (nb rfl) rfl ?_
      repeat' (first | refine bM ?_ | (refine bP ?_; first | refine aX tabOk rfl rfl rfl (nb rfl) rfl ?_ | refine bF rfl rfl (nb rfl) ?_ | (refine bO rfl rfl rfl (nb rfl) rfl rfl rfl (fun hq => ?_) (fun hq => ?_) <;> (first | (simp only [sD, sE, sB, sC, sN, sM, sT, sF] at hq; try (exfalso; omega)) | skip))| refine bJ (z := l - 1) rfl rfl rfl (nb rfl) rfl rfl (by omega) (by omega) (by omega) ?_ | refine aE rfl rfl rfl (nb rfl) rfl rfl (by omega) ?_ | refine bI rfl rfl rfl (nb rfl) rfl rfl rfl (by omega) (by omega) ?_ | refine bJ rfl rfl rfl (nb rfl) rfl rfl rfl (by omega) (by omega) ?_ | refine bH tabOk rfl rfl rfl (nb rfl) rfl rfl rfl rfl rfl rfl rfl rfl rfl ?_ | refine aZ tabOk rfl rfl (nb rfl) rfl ?_ | refine aU tabOk rfl rfl rfl (nb rfl) rfl rfl rfl rfl rfl rfl ?_ | refine aV tabOk rfl rfl rfl (nb rfl) rfl rfl rfl rfl ?_ | refine aN tabOk rfl rfl rfl rfl rfl rfl rfl rfl rfl rfl rfl ?_ | refine aR tabOk rfl rfl rfl (nb rfl) rfl rfl rfl rfl (by first | assumption | omega) ?_ | refine aJ tabOk rfl rfl rfl (nb rfl) rfl rfl rfl rfl (by first | rfl | omega) (by first | omega | simp) ?_ | refine aC tabOk rfl rfl rfl (nb rfl) rfl rfl rfl (by assumption) ?_ | refine aC tabOk rfl rfl rfl (nb rfl) rfl rfl rfl (bS _ _ (by first | assumption | omega)) ?_ | refine aE rfl rfl rfl (nb rfl) rfl rfl (by omega) ?_ | ((fail_if_success (refine aG (b := true) rfl rfl rfl ?_)); (fail_if_success (refine aG (b := false) rfl rfl rfl ?_)); refine aW rfl rfl rfl (fun hq => ?_) (fun hq => ?_) <;> first | subst hq | (first | (simp only [sD, sE, sB, sC, sN, sM, sT, sF] at hq; try (exfalso; omega)) | skip)) | fail) | (refine bW ?_; first | refine bN ?_ | refine bT ?_ | refine aQ ?_ | refine bD ?_ | refine bU ?_ | refine bL ?_ | refine bK ?_ | refine aA (b := true) rfl (fun _ => ?_) nTf | refine aA (b := false) rfl nFt (fun _ => ?_) | refine bE ?_ | refine bC ?_ | refine bA mixed (by kernel_rfl) ?_ | refine aD mixed (by kernel_rfl) ?_ | (refine aA rfl (fun hq => ?_) (fun hq => ?_) <;> first | subst hq | (first | (simp only [sD, sE, sB, sC, sN, sM, sT, sF] at hq; try (exfalso; omega)) | skip)) | fail) | (refine bQ ?_; first | refine bZ ?_ | refine aK ?_ | refine aT ?_ | fail) | (refine bG ?_; first | refine bV ?_ | refine aH ?_ | refine aI (by decide) ?_ | refine aM ?_ | fail) | refine bR (bB (by kernel_rfl)) ?_ | fail)
      all_goals first
        | exact absurd (by assumption) hl0
        | (exfalso; omega)
        | skip
      refine cH (ι := {j : Nat // j ≤ kids.length ∧ (wholePs (kids.take j) (l - 1)).1 = 0}) (fun j => S.f ⟨[(6, .imm (.lit (.int .i64 (j.1 : Int)))), (1, .imm (.lit (.int .i64 (wholePs (kids.take j.1) (l - 1)).2))), (0, .imm (Tree.iv (.node k n a b kids)))], []⟩) (fun j => kids.length - j.1) ⟨0, Nat.zero_le _, by rw [List.take_zero, wholePs]⟩ (by dsimp only; rw [List.take_zero, wholePs]; exact (cF (by repeat' first | exact trivial | refine ⟨rfl, ?_⟩) (by repeat' first | exact trivial | refine ⟨rfl, ?_⟩))) ?_
      rintro ⟨j, hj, hok⟩
      dsimp only
      have hb := hbd j hok
      rw [List.length_take, Nat.min_eq_left hj] at hb
      by_cases hlt : j < kids.length
      · have hm := List.getElem_mem hlt
        have hget := bS kids j hlt
        have hc := ih _ hm (wholePs (kids.take j) (l - 1)).2 hb.1 (by omega)
        have hstep := gJ hlt hok
        have hstop := fun h => gK hlt hok h
        clear ih
        by_cases he : (wholeP kids[j] (wholePs (kids.take j) (l - 1)).2).1 = 0
        · have hok2 : (wholePs (kids.take (j + 1)) (l - 1)).1 = 0 := by rw [hstep]; exact he
          unfold withinL at hc
          rw [if_pos he, he, ← hstep] at hc
          clear hstop hstep he
          generalize (wholePs (kids.take j) (l - 1)).2 = X at *
          generalize hZ : (wholePs (kids.take (j + 1)) (l - 1)).2 = Z at hc
          repeat' (first | refine bM ?_ | (refine bP ?_; first | refine aX tabOk rfl rfl rfl (nb rfl) rfl ?_ | refine bF rfl rfl (nb rfl) ?_ | (refine bO rfl rfl rfl (nb rfl) rfl rfl rfl (fun hq => ?_) (fun hq => ?_) <;> (first | (simp only [sD, sE, sB, sC, sN, sM, sT, sF] at hq; try (exfalso; omega)) | skip))| refine aC tabOk rfl rfl rfl (nb rfl) rfl rfl rfl hget ?_ | refine bX rfl rfl (nb rfl) rfl rfl rfl rfl (hc) ?_ | refine aE rfl rfl rfl (nb rfl) rfl rfl (by omega) ?_ | refine bI rfl rfl rfl (nb rfl) rfl rfl rfl (by omega) (by omega) ?_ | refine bJ rfl rfl rfl (nb rfl) rfl rfl rfl (by omega) (by omega) ?_ | refine bH tabOk rfl rfl rfl (nb rfl) rfl rfl rfl rfl rfl rfl rfl rfl rfl ?_ | refine aZ tabOk rfl rfl (nb rfl) rfl ?_ | refine aU tabOk rfl rfl rfl (nb rfl) rfl rfl rfl rfl rfl rfl ?_ | refine aV tabOk rfl rfl rfl (nb rfl) rfl rfl rfl rfl ?_ | refine aN tabOk rfl rfl rfl rfl rfl rfl rfl rfl rfl rfl rfl ?_ | refine aR tabOk rfl rfl rfl (nb rfl) rfl rfl rfl rfl (by first | assumption | omega) ?_ | refine aJ tabOk rfl rfl rfl (nb rfl) rfl rfl rfl rfl (by first | rfl | omega) (by first | omega | simp) ?_ | refine aC tabOk rfl rfl rfl (nb rfl) rfl rfl rfl (by assumption) ?_ | refine aC tabOk rfl rfl rfl (nb rfl) rfl rfl rfl (bS _ _ (by first | assumption | omega)) ?_ | refine aE rfl rfl rfl (nb rfl) rfl rfl (by omega) ?_ | ((fail_if_success (refine aG (b := true) rfl rfl rfl ?_)); (fail_if_success (refine aG (b := false) rfl rfl rfl ?_)); refine aW rfl rfl rfl (fun hq => ?_) (fun hq => ?_) <;> first | subst hq | (first | (simp only [sD, sE, sB, sC, sN, sM, sT, sF] at hq; try (exfalso; omega)) | skip)) | fail) | (refine bW ?_; first | refine bN ?_ | refine bT ?_ | refine aQ ?_ | refine bD ?_ | refine bU ?_ | refine bL ?_ | refine bK ?_ | refine aA (b := true) rfl (fun _ => ?_) nTf | refine aA (b := false) rfl nFt (fun _ => ?_) | refine bE ?_ | refine bC ?_ | refine bA mixed (by kernel_rfl) ?_ | refine aD mixed (by kernel_rfl) ?_ | (refine aA rfl (fun hq => ?_) (fun hq => ?_) <;> first | subst hq | (first | (simp only [sD, sE, sB, sC, sN, sM, sT, sF] at hq; try (exfalso; omega)) | skip)) | fail) | (refine bQ ?_; first | refine bZ ?_ | refine aK ?_ | refine aT ?_ | fail) | (refine bG ?_; first | refine bV ?_ | refine aH ?_ | refine aI (by decide) ?_ | refine aM ?_ | fail) | refine bR (bB (by kernel_rfl)) ?_ | fail)
          all_goals first
            | exact absurd rfl (by assumption)
            | (exfalso; omega)
            | (refine ⟨⟨j + 1, hlt, hok2⟩, (by show kids.length - (j + 1) < kids.length - j; omega), ?_⟩; dsimp only; rw [hZ]; exact (cF (by repeat' first | exact trivial | refine ⟨rfl, ?_⟩) (by repeat' first | exact trivial | refine ⟨rfl, ?_⟩)))
        · have e1 : W.1 = (wholeP kids[j] (wholePs (kids.take j) (l - 1)).2).1 := by rw [← hW, hstop he]
          rw [← e1] at hc he
          rw [if_neg he]
          clear hstop hstep
          generalize (wholePs (kids.take j) (l - 1)).2 = X at *
          generalize W.1 = E at *
          repeat' (first | refine bM ?_ | (refine bP ?_; first | refine aX tabOk rfl rfl rfl (nb rfl) rfl ?_ | refine bF rfl rfl (nb rfl) ?_ | (refine bO rfl rfl rfl (nb rfl) rfl rfl rfl (fun hq => ?_) (fun hq => ?_) <;> (first | (simp only [sD, sE, sB, sC, sN, sM, sT, sF] at hq; try (exfalso; omega)) | skip))| refine aC tabOk rfl rfl rfl (nb rfl) rfl rfl rfl hget ?_ | refine bX rfl rfl (nb rfl) rfl rfl rfl rfl (hc) ?_ | refine aE rfl rfl rfl (nb rfl) rfl rfl (by omega) ?_ | refine bI rfl rfl rfl (nb rfl) rfl rfl rfl (by omega) (by omega) ?_ | refine bJ rfl rfl rfl (nb rfl) rfl rfl rfl (by omega) (by omega) ?_ | refine bH tabOk rfl rfl rfl (nb rfl) rfl rfl rfl rfl rfl rfl rfl rfl rfl ?_ | refine aZ tabOk rfl rfl (nb rfl) rfl ?_ | refine aU tabOk rfl rfl rfl (nb rfl) rfl rfl rfl rfl rfl rfl ?_ | refine aV tabOk rfl rfl rfl (nb rfl) rfl rfl rfl rfl ?_ | refine aN tabOk rfl rfl rfl rfl rfl rfl rfl rfl rfl rfl rfl ?_ | refine aR tabOk rfl rfl rfl (nb rfl) rfl rfl rfl rfl (by first | assumption | omega) ?_ | refine aJ tabOk rfl rfl rfl (nb rfl) rfl rfl rfl rfl (by first | rfl | omega) (by first | omega | simp) ?_ | refine aC tabOk rfl rfl rfl (nb rfl) rfl rfl rfl (by assumption) ?_ | refine aC tabOk rfl rfl rfl (nb rfl) rfl rfl rfl (bS _ _ (by first | assumption | omega)) ?_ | refine aE rfl rfl rfl (nb rfl) rfl rfl (by omega) ?_ | ((fail_if_success (refine aG (b := true) rfl rfl rfl ?_)); (fail_if_success (refine aG (b := false) rfl rfl rfl ?_)); refine aW rfl rfl rfl (fun hq => ?_) (fun hq => ?_) <;> first | subst hq | (first | (simp only [sD, sE, sB, sC, sN, sM, sT, sF] at hq; try (exfalso; omega)) | skip)) | fail) | (refine bW ?_; first | refine bN ?_ | refine bT ?_ | refine aQ ?_ | refine bD ?_ | refine bU ?_ | refine bL ?_ | refine bK ?_ | refine aA (b := true) rfl (fun _ => ?_) nTf | refine aA (b := false) rfl nFt (fun _ => ?_) | refine bE ?_ | refine bC ?_ | refine bA mixed (by kernel_rfl) ?_ | refine aD mixed (by kernel_rfl) ?_ | (refine aA rfl (fun hq => ?_) (fun hq => ?_) <;> first | subst hq | (first | (simp only [sD, sE, sB, sC, sN, sM, sT, sF] at hq; try (exfalso; omega)) | skip)) | fail) | (refine bQ ?_; first | refine bZ ?_ | refine aK ?_ | refine aT ?_ | fail) | (refine bG ?_; first | refine bV ?_ | refine aH ?_ | refine aI (by decide) ?_ | refine aM ?_ | fail) | refine bR (bB (by kernel_rfl)) ?_ | fail)
          all_goals first
            | exact absurd (by assumption) he
            | (exfalso; omega)
            | (refine cA (by first | exact .inl rfl | exact .inr rfl) (cC rfl (aY rfl) (aY rfl)) rfl ?_; rfl)
      · have ej : j = kids.length := by omega
        subst ej
        rw [List.take_length] at hok ⊢
        rw [hW] at hok ⊢
        rw [hok, if_pos rfl]
        clear hbd ih
        repeat' (first | refine bM ?_ | (refine bP ?_; first | refine aX tabOk rfl rfl rfl (nb rfl) rfl ?_ | refine bF rfl rfl (nb rfl) ?_ | (refine bO rfl rfl rfl (nb rfl) rfl rfl rfl (fun hq => ?_) (fun hq => ?_) <;> (first | (simp only [sD, sE, sB, sC, sN, sM, sT, sF] at hq; try (exfalso; omega)) | skip)) | refine aE rfl rfl rfl (nb rfl) rfl rfl (by omega) ?_ | refine bI rfl rfl rfl (nb rfl) rfl rfl rfl (by omega) (by omega) ?_ | refine bJ rfl rfl rfl (nb rfl) rfl rfl rfl (by omega) (by omega) ?_ | refine bH tabOk rfl rfl rfl (nb rfl) rfl rfl rfl rfl rfl rfl rfl rfl rfl ?_ | refine aZ tabOk rfl rfl (nb rfl) rfl ?_ | refine aU tabOk rfl rfl rfl (nb rfl) rfl rfl rfl rfl rfl rfl ?_ | refine aV tabOk rfl rfl rfl (nb rfl) rfl rfl rfl rfl ?_ | refine aN tabOk rfl rfl rfl rfl rfl rfl rfl rfl rfl rfl rfl ?_ | refine aR tabOk rfl rfl rfl (nb rfl) rfl rfl rfl rfl (by first | assumption | omega) ?_ | refine aJ tabOk rfl rfl rfl (nb rfl) rfl rfl rfl rfl (by first | rfl | omega) (by first | omega | simp) ?_ | refine aC tabOk rfl rfl rfl (nb rfl) rfl rfl rfl (by assumption) ?_ | refine aC tabOk rfl rfl rfl (nb rfl) rfl rfl rfl (bS _ _ (by first | assumption | omega)) ?_ | refine aE rfl rfl rfl (nb rfl) rfl rfl (by omega) ?_ | ((fail_if_success (refine aG (b := true) rfl rfl rfl ?_)); (fail_if_success (refine aG (b := false) rfl rfl rfl ?_)); refine aW rfl rfl rfl (fun hq => ?_) (fun hq => ?_) <;> first | subst hq | (first | (simp only [sD, sE, sB, sC, sN, sM, sT, sF] at hq; try (exfalso; omega)) | skip)) | fail) | (refine bW ?_; first | refine bN ?_ | refine bT ?_ | refine aQ ?_ | refine bD ?_ | refine bU ?_ | refine bL ?_ | refine bK ?_ | refine aA (b := true) rfl (fun _ => ?_) nTf | refine aA (b := false) rfl nFt (fun _ => ?_) | refine bE ?_ | refine bC ?_ | refine bA mixed (by kernel_rfl) ?_ | refine aD mixed (by kernel_rfl) ?_ | (refine aA rfl (fun hq => ?_) (fun hq => ?_) <;> first | subst hq | (first | (simp only [sD, sE, sB, sC, sN, sM, sT, sF] at hq; try (exfalso; omega)) | skip)) | fail) | (refine bQ ?_; first | refine bZ ?_ | refine aK ?_ | refine aT ?_ | fail) | (refine bG ?_; first | refine bV ?_ | refine aH ?_ | refine aI (by decide) ?_ | refine aM ?_ | fail) | refine bR (bB (by kernel_rfl)) ?_ | fail)
        all_goals first
          | exact absurd rfl (by assumption)
          | (exfalso; omega)
          | (refine cA (by first | exact .inl rfl | exact .inr rfl) (cC rfl (aY rfl) (aY rfl)) rfl ?_; rfl)
set_option maxHeartbeats 4000000 in
set_option maxRecDepth 10000 in
theorem gS (t : Tree) (hs : t.size ≤ 1000000) : ACalls Try.prog 60 [.imm t.iv] [] (.imm (.lit (.int .i64 (checkP isConP t)))) [] := by
  have c1 := uF t 65536 (by omega) (by omega)
  unfold checkP
  by_cases hw : (wholeP t 65536).1 = 0
  · rw [if_pos hw]
    rw [hw] at c1
    have c2 := aAp t (eD t _ hw) hs
    cases hc : isConP t <;> (
      rw [hc] at c2
      refine bY Try.func60 rfl rfl (nb rfl) rfl ?_
      repeat' (first | refine bM ?_ | (refine bP ?_; first | refine aX tabOk rfl rfl rfl (nb rfl) rfl ?_ | refine bF rfl rfl (nb rfl) ?_ | (refine bO rfl rfl rfl (nb rfl) rfl rfl rfl (fun hq => ?_) (fun hq => ?_) <;> (first | (simp only [sD, sE, sB, sC, sN, sM, sT, sF] at hq; try (exfalso; omega)) | skip))| refine bX rfl rfl (nb rfl) rfl rfl rfl rfl (c1) ?_ | refine bX rfl rfl (nb rfl) rfl rfl rfl rfl (c2) ?_ | refine aE rfl rfl rfl (nb rfl) rfl rfl (by omega) ?_ | refine bI rfl rfl rfl (nb rfl) rfl rfl rfl (by omega) (by omega) ?_ | refine bJ rfl rfl rfl (nb rfl) rfl rfl rfl (by omega) (by omega) ?_ | refine bH tabOk rfl rfl rfl (nb rfl) rfl rfl rfl rfl rfl rfl rfl rfl rfl ?_ | refine aZ tabOk rfl rfl (nb rfl) rfl ?_ | refine aU tabOk rfl rfl rfl (nb rfl) rfl rfl rfl rfl rfl rfl ?_ | refine aV tabOk rfl rfl rfl (nb rfl) rfl rfl rfl rfl ?_ | refine aN tabOk rfl rfl rfl rfl rfl rfl rfl rfl rfl rfl rfl ?_ | refine aR tabOk rfl rfl rfl (nb rfl) rfl rfl rfl rfl (by first | assumption | omega) ?_ | refine aJ tabOk rfl rfl rfl (nb rfl) rfl rfl rfl rfl (by first | rfl | omega) (by first | omega | simp) ?_ | refine aC tabOk rfl rfl rfl (nb rfl) rfl rfl rfl (by assumption) ?_ | refine aC tabOk rfl rfl rfl (nb rfl) rfl rfl rfl (bS _ _ (by first | assumption | omega)) ?_ | refine aE rfl rfl rfl (nb rfl) rfl rfl (by omega) ?_ | ((fail_if_success (refine aG (b := true) rfl rfl rfl ?_)); (fail_if_success (refine aG (b := false) rfl rfl rfl ?_)); refine aW rfl rfl rfl (fun hq => ?_) (fun hq => ?_) <;> first | subst hq | (first | (simp only [sD, sE, sB, sC, sN, sM, sT, sF] at hq; try (exfalso; omega)) | skip)) | fail) | (refine bW ?_; first | refine bN ?_ | refine bT ?_ | refine aQ ?_ | refine bD ?_ | refine bU ?_ | refine bL ?_ | refine bK ?_ | refine aA (b := true) rfl (fun _ => ?_) nTf | refine aA (b := false) rfl nFt (fun _ => ?_) | refine bE ?_ | refine bC ?_ | refine bA mixed (by kernel_rfl) ?_ | refine aD mixed (by kernel_rfl) ?_ | (refine aA rfl (fun hq => ?_) (fun hq => ?_) <;> first | subst hq | (first | (simp only [sD, sE, sB, sC, sN, sM, sT, sF] at hq; try (exfalso; omega)) | skip)) | fail) | (refine bQ ?_; first | refine bZ ?_ | refine aK ?_ | refine aT ?_ | fail) | (refine bG ?_; first | refine bV ?_ | refine aH ?_ | refine aI (by decide) ?_ | refine aM ?_ | fail) | refine bR (bB (by kernel_rfl)) ?_ | fail)
      all_goals first
        | exact absurd rfl (by assumption)
        | (refine cA (by first | exact .inl rfl | exact .inr rfl) (cB rfl (aY rfl)) rfl ?_; rfl))
  · rw [if_neg hw]
    generalize (wholeP t 65536).1 = E at *
    refine bY Try.func60 rfl rfl (nb rfl) rfl ?_
    repeat' (first | refine bM ?_ | (refine bP ?_; first | refine aX tabOk rfl rfl rfl (nb rfl) rfl ?_ | refine bF rfl rfl (nb rfl) ?_ | (refine bO rfl rfl rfl (nb rfl) rfl rfl rfl (fun hq => ?_) (fun hq => ?_) <;> (first | (simp only [sD, sE, sB, sC, sN, sM, sT, sF] at hq; try (exfalso; omega)) | skip))| refine bX rfl rfl (nb rfl) rfl rfl rfl rfl (c1) ?_ | refine aE rfl rfl rfl (nb rfl) rfl rfl (by omega) ?_ | refine bI rfl rfl rfl (nb rfl) rfl rfl rfl (by omega) (by omega) ?_ | refine bJ rfl rfl rfl (nb rfl) rfl rfl rfl (by omega) (by omega) ?_ | refine bH tabOk rfl rfl rfl (nb rfl) rfl rfl rfl rfl rfl rfl rfl rfl rfl ?_ | refine aZ tabOk rfl rfl (nb rfl) rfl ?_ | refine aU tabOk rfl rfl rfl (nb rfl) rfl rfl rfl rfl rfl rfl ?_ | refine aV tabOk rfl rfl rfl (nb rfl) rfl rfl rfl rfl ?_ | refine aN tabOk rfl rfl rfl rfl rfl rfl rfl rfl rfl rfl rfl ?_ | refine aR tabOk rfl rfl rfl (nb rfl) rfl rfl rfl rfl (by first | assumption | omega) ?_ | refine aJ tabOk rfl rfl rfl (nb rfl) rfl rfl rfl rfl (by first | rfl | omega) (by first | omega | simp) ?_ | refine aC tabOk rfl rfl rfl (nb rfl) rfl rfl rfl (by assumption) ?_ | refine aC tabOk rfl rfl rfl (nb rfl) rfl rfl rfl (bS _ _ (by first | assumption | omega)) ?_ | refine aE rfl rfl rfl (nb rfl) rfl rfl (by omega) ?_ | ((fail_if_success (refine aG (b := true) rfl rfl rfl ?_)); (fail_if_success (refine aG (b := false) rfl rfl rfl ?_)); refine aW rfl rfl rfl (fun hq => ?_) (fun hq => ?_) <;> first | subst hq | (first | (simp only [sD, sE, sB, sC, sN, sM, sT, sF] at hq; try (exfalso; omega)) | skip)) | fail) | (refine bW ?_; first | refine bN ?_ | refine bT ?_ | refine aQ ?_ | refine bD ?_ | refine bU ?_ | refine bL ?_ | refine bK ?_ | refine aA (b := true) rfl (fun _ => ?_) nTf | refine aA (b := false) rfl nFt (fun _ => ?_) | refine bE ?_ | refine bC ?_ | refine bA mixed (by kernel_rfl) ?_ | refine aD mixed (by kernel_rfl) ?_ | (refine aA rfl (fun hq => ?_) (fun hq => ?_) <;> first | subst hq | (first | (simp only [sD, sE, sB, sC, sN, sM, sT, sF] at hq; try (exfalso; omega)) | skip)) | fail) | (refine bQ ?_; first | refine bZ ?_ | refine aK ?_ | refine aT ?_ | fail) | (refine bG ?_; first | refine bV ?_ | refine aH ?_ | refine aI (by decide) ?_ | refine aM ?_ | fail) | refine bR (bB (by kernel_rfl)) ?_ | fail)
    all_goals first
      | exact absurd (by assumption) hw
      | (refine cA (by first | exact .inl rfl | exact .inr rfl) (cB rfl (aY rfl)) rfl ?_; rfl)
end Go.Proofs.Ytlbemgokilhdnaa.Ab
namespace Go.Proofs.Ytlbemgokilhdnaa.Ab
set_option linter.unusedVariables false
set_option linter.unusedSimpArgs false
theorem uG {σ : Type} (V : Int → Int → σ → Tree × σ) (hV : ∀ n d s, (V n d s).1.size = 1) (t : Tree) : ∀ d s, okVars t = true → (walkS V t d s).1.size = t.size := by
  induction t using Tree.ind with
  | h1 => intro d s h; simp [okVars] at h
  | h2 k n a b kids ih =>
    intro d s hv
    by_cases k0 : k = 110
    · obtain ⟨_, _, rfl, rfl, rfl⟩ := dL k0 hv
      subst k0
      rw [dT, hV]
      rfl
    · rw [eJ V _ _ _ _ k0]
      have hvs := dN k0 hv
      have key : ∀ (l : List Tree) (s : σ), (∀ t ∈ l, t ∈ kids) → Tree.sizes (walkSs V l (d + bindsP k) s).1 = Tree.sizes l := by
        intro l
        induction l with
        | nil => intro s _; rw [cU]
        | cons t ts ih2 =>
          intro s hm
          rw [walkSs]
          simp only [Tree.sizes]
          rw [ih t (hm t (by simp)) _ _ (hvs _ (hm t (by simp))), ih2 _ fun t' h' => hm t' (by simp [h'])]
      simp only [Tree.size]
      rw [key kids s fun _ h => h]
theorem uH (i own : Int) (by_ : Tree) (n d : Int) (s : Int × Int) (h : s.2 ≠ 0) : (substV i own by_ n d s).2.2 ≠ 0 := by
  unfold substV
  rw [if_pos (.inl h)]
  exact h
theorem sG (by_ : Tree) (hb : checkP isConP by_ = 0) (d : Int) : shiftP by_ d 0 = if (walkS (shiftV d 0) by_ 0 true).2 = true then ((walkS (shiftV d 0) by_ 0 true).1, 0) else (.nil, 2) := by
  unfold shiftP
  rw [if_pos hb, decide_eq_true (Int.le_refl _)]
/-- What of a tree is made by the one is what is made by the other, as long as nothing is refused. -/
def Alike (own : Nat) (sz : Nat) (c : Nat) (R : Tree × (Int × Int)) (Q : Tree × Bool) (n : Nat) : Prop :=
  (Q.2 = true ∧ sz + c * own ≤ 65536 → R = (Q.1, ((sz + c * own : Nat) : Int), 0) ∧ Q.1.size + c = n + c * own) ∧ (¬ (Q.2 = true ∧ sz + c * own ≤ 65536) → R.2.2 ≠ 0)
theorem sH (i : Int) (hi : 0 ≤ i) (by_ : Tree) (hb : checkP isConP by_ = 0) (t : Tree) :
    ∀ (d : Int) (sz : Nat), sz ≤ 65536 → okVars t = true → Alike by_.size sz (cntP i t d) (walkS (substV i by_.size by_) t d ((sz : Nat), 0)) (walkS (putV i by_) t d true) t.size := by
  induction t using Tree.ind with
  | h1 => intro d sz _ h; simp [okVars] at h
  | h2 k n a b kids ih =>
    intro d sz hz hv
    by_cases k0 : k = 110
    · obtain ⟨q1, q2, rfl, rfl, rfl⟩ := dL k0 hv
      subst k0
      rw [dT, dT, cntP, cntPs]
      have hsz : (Tree.node 110 n emptyB emptyB []).size = 1 := rfl
      rw [hsz]
      unfold Alike
      by_cases h1 : n < d ∨ n - d < i
      · have eS : substV i by_.size by_ n d ((sz : Nat), 0) = (varT n, (((sz : Nat) : Int), 0)) := by unfold substV; rw [if_pos (.inr h1)]
        have eP : putV i by_ n d true = (varT n, true) := by unfold putV; rw [if_pos h1]
        rw [eS, eP, if_neg (by omega)]
        refine ⟨fun _ => ⟨by simp, by dsimp only; rw [gD]; omega⟩, fun h => absurd ⟨rfl, by omega⟩ h⟩
      · have h0 : ¬ ((((sz : Nat) : Int), (0 : Int)).2 ≠ 0 ∨ n < d ∨ n - d < i) := fun h => h.elim (fun h => h rfl) h1
        by_cases h2 : n - d > i
        · have eS : substV i by_.size by_ n d ((sz : Nat), 0) = (varT (n - 1), (((sz : Nat) : Int), 0)) := by unfold substV; rw [if_neg h0, if_pos h2]
          have eP : putV i by_ n d true = (varT (n - 1), true) := by unfold putV; rw [if_neg h1, if_pos h2]
          rw [eS, eP, if_neg (by omega)]
          refine ⟨fun _ => ⟨by simp, by dsimp only; rw [gD]; omega⟩, fun h => absurd ⟨rfl, by omega⟩ h⟩
        · obtain ⟨bw, bz, bf⟩ := cQ hb
          have hs := uG (shiftV d 0) (fun n d' s => (eB d 0 n d' s).2) by_ 0 true (dP _ bf)
          have hsh := sG by_ hb d
          obtain ⟨W, hW⟩ : ∃ W, walkS (shiftV d 0) by_ 0 true = W := ⟨_, rfl⟩
          rw [hW] at hs hsh
          obtain ⟨W1, W2⟩ := W
          rw [if_pos ⟨rfl, by omega, by omega⟩]
          have e1 : (1 + 0) * by_.size = by_.size := by omega
          rw [e1]
          cases W2 with
          | false =>
            have eP : putV i by_ n d true = (varT n, false) := by unfold putV; rw [if_neg h1, if_neg h2, hW, if_neg (by simp)]
            have eS : substV i by_.size by_ n d ((sz : Nat), 0) = (varT n, (((sz : Nat) : Int) + by_.size, 3)) := by
              unfold substV; rw [if_neg h0, if_neg h2, if_pos (.inr (by rw [hsh]; simp))]
            rw [eS, eP]
            exact ⟨fun h => Bool.noConfusion h.1, fun _ => show (3 : Int) ≠ 0 by decide⟩
          | true =>
            rw [if_pos rfl] at hsh
            have eP : putV i by_ n d true = (W1, true) := by unfold putV; rw [if_neg h1, if_neg h2, hW, if_pos ⟨rfl, rfl⟩]
            rw [eP]
            by_cases hbig : sz + by_.size ≤ 65536
            · have eS : substV i by_.size by_ n d ((sz : Nat), 0) = (W1, (((sz : Nat) : Int) + by_.size, 0)) := by
                unfold substV; rw [if_neg h0, if_neg h2, if_neg (by rw [hsh]; dsimp only; omega), hsh]
              rw [eS]
              refine ⟨fun _ => ⟨by rw [show ((sz : Int) + (by_.size : Int)) = ((sz + by_.size : Nat) : Int) by omega], by dsimp only at hs ⊢; rw [hs]; omega⟩, fun h => absurd ⟨rfl, hbig⟩ h⟩
            · have eS : substV i by_.size by_ n d ((sz : Nat), 0) = (varT n, (((sz : Nat) : Int) + by_.size, 3)) := by
                unfold substV; rw [if_neg h0, if_neg h2, if_pos (.inl (by dsimp only; omega))]
              rw [eS]
              exact ⟨fun h => absurd h.2 hbig, fun _ => show (3 : Int) ≠ 0 by decide⟩
    · rw [eJ _ _ _ _ _ k0, eJ _ _ _ _ _ k0, cntP, if_neg (fun h => k0 h.1)]
      have hvs := dN k0 hv
      have key : ∀ (l : List Tree) (sz : Nat), (∀ t ∈ l, t ∈ kids) → sz ≤ 65536 →
          (((walkSs (putV i by_) l (d + bindsP k) true).2 = true ∧ sz + cntPs i l (d + bindsP k) * by_.size ≤ 65536 → walkSs (substV i by_.size by_) l (d + bindsP k) ((sz : Nat), 0) = ((walkSs (putV i by_) l (d + bindsP k) true).1, ((sz + cntPs i l (d + bindsP k) * by_.size : Nat) : Int), 0) ∧ Tree.sizes (walkSs (putV i by_) l (d + bindsP k) true).1 + cntPs i l (d + bindsP k) = Tree.sizes l + cntPs i l (d + bindsP k) * by_.size) ∧
           (¬ ((walkSs (putV i by_) l (d + bindsP k) true).2 = true ∧ sz + cntPs i l (d + bindsP k) * by_.size ≤ 65536) → (walkSs (substV i by_.size by_) l (d + bindsP k) ((sz : Nat), 0)).2.2 ≠ 0)) := by
        intro l
        induction l with
        | nil =>
          intro sz _ hz
          rw [cU, cU, cntPs]
          refine ⟨fun _ => ⟨by simp, by simp⟩, fun h => absurd ⟨rfl, by omega⟩ h⟩
        | cons t ts ih2 =>
          intro sz hm hz
          have h1 := ih t (hm t (by simp)) (d + bindsP k) sz hz (hvs _ (hm t (by simp)))
          rw [walkSs, walkSs, cntPs]
          unfold Alike at h1
          obtain ⟨Q, hQ⟩ : ∃ Q, walkS (putV i by_) t (d + bindsP k) true = Q := ⟨_, rfl⟩
          obtain ⟨R, hR⟩ : ∃ R, walkS (substV i by_.size by_) t (d + bindsP k) ((sz : Nat), 0) = R := ⟨_, rfl⟩
          rw [hQ, hR] at h1
          rw [hQ, hR]
          obtain ⟨c, hc⟩ : ∃ c, cntP i t (d + bindsP k) = c := ⟨_, rfl⟩
          rw [hc] at h1 ⊢
          obtain ⟨c2, hc2⟩ : ∃ c2, cntPs i ts (d + bindsP k) = c2 := ⟨_, rfl⟩
          by_cases hok : Q.2 = true ∧ sz + c * by_.size ≤ 65536
          · obtain ⟨e1, e2⟩ := h1.1 hok
            have h2 := ih2 (sz + c * by_.size) (fun t' h' => hm t' (by simp [h'])) hok.2
            subst e1
            rw [hok.1]
            rw [hc2] at h2 ⊢
            have em : (c + c2) * by_.size = c * by_.size + c2 * by_.size := Nat.add_mul _ _ _
            rw [em]
            have e3 : sz + (c * by_.size + c2 * by_.size) = sz + c * by_.size + c2 * by_.size := by omega
            rw [e3]
            dsimp only
            refine ⟨fun h => ?_, fun h => h2.2 h⟩
            obtain ⟨g1, g2⟩ := h2.1 h
            rw [g1]
            refine ⟨rfl, ?_⟩
            simp only [Tree.sizes]
            omega
          · have h3 := h1.2 hok
            refine ⟨fun h => ?_, fun _ => ?_⟩
            · exfalso
              apply hok
              rw [hc2] at h
              have em : (c + c2) * by_.size = c * by_.size + c2 * by_.size := Nat.add_mul _ _ _
              refine ⟨?_, by have := h.2; rw [em] at this; omega⟩
              cases hq2 : Q.2 with
              | true => rfl
              | false =>
                have := gR (putV i by_) (fun s => s = false) (fun n d s h => rZ i by_ n d s h) (d + bindsP k) ts Q.2 hq2
                have h4 := h.1
                dsimp only at h4
                rw [this] at h4
                cases h4
            · exact gR (substV i by_.size by_) (fun s => s.2 ≠ 0) (fun n d s h => uH i _ by_ n d s h) (d + bindsP k) ts R.2 h3
      have := key kids sz (fun _ h => h) hz
      unfold Alike
      dsimp only
      have e0 : 0 + cntPs i kids (d + bindsP k) = cntPs i kids (d + bindsP k) := Nat.zero_add _
      rw [e0]
      refine ⟨fun h => ?_, fun h => this.2 h⟩
      obtain ⟨g1, g2⟩ := this.1 h
      rw [g1]
      refine ⟨rfl, ?_⟩
      simp only [Tree.size]
      omega
/-- What Subst tells, as the reference tells it. -/
theorem uI (t : Tree) (i : Int) (by_ : Tree) (ht : checkP isConP t = 0) (hb : checkP isConP by_ = 0) (hi : 0 ≤ i) :
    substP t i by_ = if 65536 < cntP i t 0 * by_.size ∨ 65536 < t.size - cntP i t 0 + cntP i t 0 * by_.size ∨ (walkS (putV i by_) t 0 true).2 = false then (.nil, 3) else ((walkS (putV i by_) t 0 true).1, 0) := by
  unfold substP
  rw [if_neg (by simpa using ht), if_neg (by simpa using hb), if_neg (by omega)]
  obtain ⟨tw, tz, tf⟩ := cQ ht
  have ha := sH i hi by_ hb t 0 0 (by omega) (dP t tf)
  have hcl := lQ i t 0
  unfold Alike at ha
  rw [Nat.zero_add] at ha
  have e0 : (((0 : Nat) : Int), (0 : Int)) = (0, 0) := rfl
  rw [e0] at ha
  obtain ⟨Q, hQ⟩ : ∃ Q, walkS (putV i by_) t 0 true = Q := ⟨_, rfl⟩
  obtain ⟨R, hR⟩ : ∃ R, walkS (substV i by_.size by_) t 0 (0, 0) = R := ⟨_, rfl⟩
  rw [hQ, hR] at ha
  rw [hQ, hR]
  generalize cntP i t 0 = c at *
  generalize c * by_.size = cs at *
  by_cases hok : Q.2 = true ∧ cs ≤ 65536
  · obtain ⟨e1, e2⟩ := ha.1 hok
    subst e1
    dsimp only
    by_cases hbig : Q.1.size > 65536
    · rw [if_pos (.inr hbig), if_pos (.inr (.inl (by omega)))]
    · rw [if_neg (by intro h; rcases h with h | h; exact h rfl; exact hbig h), if_neg (by
        intro h
        rcases h with h | h | h
        · omega
        · omega
        · rw [hok.1] at h; cases h)]
  · have := ha.2 hok
    rw [if_pos (.inl this), if_pos]
    by_cases hc : 65536 < cs
    · exact .inl hc
    · right; right
      cases h2 : Q.2 with
      | false => rfl
      | true => exact absurd ⟨h2, by omega⟩ hok
end Go.Proofs.Ytlbemgokilhdnaa.Ab
namespace Go.Proofs.Ytlbemgokilhdnaa.Ab
set_option linter.unusedVariables false
set_option linter.unusedSimpArgs false
open Go.RowKit
attribute [local irreducible] AWP AOps AExit AThen ABlock ANoGoto FeetOk
section
variable {P : Program} {T : Tab} {keep : List Nat} {N : Nat} {ops : Array Oper} {K : List Foot → SF → Prop} {rest : List Oper} {ks : List Foot} {s : List (Nat × AV)} {m : Mem} {o : Oper} {d : Nat}
theorem kH {t u : TypeId} {x y : Operand} {a b z : Int} (ho : o.op = .binOp .mul t x y u) (hw : wantedA ops o (S.f ⟨s, m⟩) = some true) (hd : o.dst = some d) (hN : d < N) (hx : (S.f ⟨s, m⟩).ev x = some (.imm (.lit (.int .i64 a)))) (hy : (S.f ⟨s, m⟩).ev y = some (.imm (.lit (.int .i64 b)))) (hz : a * b = z) (h1 : -9223372036854775808 ≤ z) (h2 : z ≤ 9223372036854775807)
    (k : AOps P keep N ops K rest (kNo :: ks) (S.f ⟨(d, .imm (.lit (.int .i64 z))) :: s, m⟩)) : AOps P keep N ops K (o :: rest) ks (S.f ⟨s, m⟩) :=
  dD hw hd hN (fE ho hx hy (by simp [binLit]; rw [hz]; exact lP h1 h2)) k
end
theorem wX (R : Tree × Bool) : (R.2 = false ∧ told R = .nil) ∨ (R.2 = true ∧ told R = R.1) := by
  cases h : R.2 with
  | false => exact .inl ⟨rfl, by unfold told; rw [h]; rfl⟩
  | true => exact .inr ⟨rfl, by unfold told; rw [h]; rfl⟩
set_option maxHeartbeats 16000000 in
set_option maxRecDepth 10000 in
theorem yP (t : Tree) (i : Int) (by_ : Tree) (hs : t.size ≤ 1000000) (hbs : by_.size ≤ 1000000) : ACalls Try.prog 110 [.imm t.iv, .imm (.lit (.int .i64 i)), .imm by_.iv] [] (.imm (.tup [(substP t i by_).1.iv, .lit (.int .i64 (substP t i by_).2)])) [] := by
  have c1 := gS t hs
  have c2 := gS by_ hbs
  by_cases h1 : checkP isConP t = 0
  · by_cases h2 : checkP isConP by_ = 0
    · by_cases h3 : i < 0
      · have e : substP t i by_ = (.nil, 2) := by unfold substP; rw [if_neg (by simpa using h1), if_neg (by simpa using h2), if_pos h3]
        rw [e]
        rw [h1] at c1
        rw [h2] at c2
        refine bY Try.func110 rfl rfl (nb rfl) rfl ?_
        repeat' (first | refine bM ?_ | (refine bP ?_; first | refine aX tabOk rfl rfl rfl (nb rfl) rfl ?_ | refine bF rfl rfl (nb rfl) ?_ | (refine bO rfl rfl rfl (nb rfl) rfl rfl rfl (fun hq => ?_) (fun hq => ?_) <;> (first | (simp only [sD, sE, sB, sC, sN, sM, sT, sF] at hq; try (exfalso; omega)) | skip))| refine bX rfl rfl (nb rfl) rfl rfl rfl rfl (c1) ?_ | refine bX rfl rfl (nb rfl) rfl rfl rfl rfl (c2) ?_ | refine aE rfl rfl rfl (nb rfl) rfl rfl (by omega) ?_ | refine bI rfl rfl rfl (nb rfl) rfl rfl rfl (by omega) (by omega) ?_ | refine bJ rfl rfl rfl (nb rfl) rfl rfl rfl (by omega) (by omega) ?_ | refine bH tabOk rfl rfl rfl (nb rfl) rfl rfl rfl rfl rfl rfl rfl rfl rfl ?_ | refine aZ tabOk rfl rfl (nb rfl) rfl ?_ | refine aU tabOk rfl rfl rfl (nb rfl) rfl rfl rfl rfl rfl rfl ?_ | refine aV tabOk rfl rfl rfl (nb rfl) rfl rfl rfl rfl ?_ | refine aN tabOk rfl rfl rfl rfl rfl rfl rfl rfl rfl rfl rfl ?_ | refine aR tabOk rfl rfl rfl (nb rfl) rfl rfl rfl rfl (by first | assumption | omega) ?_ | refine aJ tabOk rfl rfl rfl (nb rfl) rfl rfl rfl rfl (by first | rfl | omega) (by first | omega | simp) ?_ | refine aC tabOk rfl rfl rfl (nb rfl) rfl rfl rfl (by assumption) ?_ | refine aC tabOk rfl rfl rfl (nb rfl) rfl rfl rfl (bS _ _ (by first | assumption | omega)) ?_ | refine aE rfl rfl rfl (nb rfl) rfl rfl (by omega) ?_ | ((fail_if_success (refine aG (b := true) rfl rfl rfl ?_)); (fail_if_success (refine aG (b := false) rfl rfl rfl ?_)); refine aW rfl rfl rfl (fun hq => ?_) (fun hq => ?_) <;> first | subst hq | (first | (simp only [sD, sE, sB, sC, sN, sM, sT, sF] at hq; try (exfalso; omega)) | skip)) | fail) | (refine bW ?_; first | refine bN ?_ | refine bT ?_ | refine aQ ?_ | refine bD ?_ | refine bU ?_ | refine bL ?_ | refine bK ?_ | refine aA (b := true) rfl (fun _ => ?_) nTf | refine aA (b := false) rfl nFt (fun _ => ?_) | refine bE ?_ | refine bC ?_ | refine bA mixed (by kernel_rfl) ?_ | refine aD mixed (by kernel_rfl) ?_ | (refine aA rfl (fun hq => ?_) (fun hq => ?_) <;> first | subst hq | (first | (simp only [sD, sE, sB, sC, sN, sM, sT, sF] at hq; try (exfalso; omega)) | skip)) | fail) | (refine bQ ?_; first | refine bZ ?_ | refine aK ?_ | refine aT ?_ | fail) | (refine bG ?_; first | refine bV ?_ | refine aH ?_ | refine aI (by decide) ?_ | refine aM ?_ | fail) | refine bR (bB (by kernel_rfl)) ?_ | fail)
        all_goals first
          | exact absurd rfl (by assumption)
          | (exfalso; omega)
          | (refine cA (by first | exact .inl rfl | exact .inr rfl) (cC rfl (aY rfl) (aY rfl)) rfl ?_; rfl)
      · obtain ⟨tw, tz, tf⟩ := cQ h1
        obtain ⟨bw, bz, bf⟩ := cQ h2
        rw [uI t i by_ h1 h2 (by omega)]
        rw [h1] at c1
        rw [h2] at c2
        have c3 := yO i (by omega) t 0 (dP t tf) tw (by omega) (by omega)
        have c4 := vA t tw hs
        have c5 := vA by_ bw hbs
        have c6 := aAq i by_ (by omega) (dP _ bf) (nD _ bf) bw hbs t 0 (dP t tf) (nD t tf) tw (by omega) (by omega)
        have hcl := lQ i t 0
        have htl := wX (walkS (putV i by_) t 0 true)
        obtain ⟨R, hR⟩ : ∃ R, walkS (putV i by_) t 0 true = R := ⟨_, rfl⟩
        rw [hR] at c6 htl ⊢
        obtain ⟨R1, R2⟩ := R
        dsimp only at c6 htl ⊢
        generalize cntP i t 0 = c at *
        generalize hbn : by_.size = bn at *
        generalize htn : t.size = tn at *
        have hdiv : 0 < c → ((65536 : Int).tdiv (c : Int) = ((65536 / c : Nat) : Int) ∧ (65536 / c < bn ↔ 65536 < bn * c)) := fun h => ⟨rfl, Nat.div_lt_iff_lt_mul h⟩
        have hmul : ((c : Int) * (bn : Int)) = ((c * bn : Nat) : Int) := by rw [Int.natCast_mul]
        have hcm : bn * c = c * bn := Nat.mul_comm _ _
        have hmb : c * bn ≤ 65536 * 65536 := Nat.mul_le_mul (by omega) (by omega)
        have hq0 : 65536 / c ≤ 65536 := Nat.div_le_self _ _
        rw [hcm] at hdiv
        generalize hcb : c * bn = cb at *
        generalize hqq : 65536 / c = q at *
        generalize told (R1, R2) = Z at *
        have hc0 : c = 0 → cb = 0 := fun h => by rw [← hcb, h, Nat.zero_mul]
        by_cases hbig : 65536 < cb ∨ 65536 < tn - c + cb
        · rw [if_pos (by rcases hbig with h | h; exact .inl h; exact .inr (.inl h))]
          clear c6 hR htl
          refine bY Try.func110 rfl rfl (nb rfl) rfl ?_
          repeat' (first | refine bM ?_ | (refine bP ?_; first | refine aX tabOk rfl rfl rfl (nb rfl) rfl ?_ | refine bF rfl rfl (nb rfl) ?_ | (refine bO rfl rfl rfl (nb rfl) rfl rfl rfl (fun hq => ?_) (fun hq => ?_) <;> (first | (simp only [sD, sE, sB, sC, sN, sM, sT, sF] at hq; try (exfalso; omega)) | skip))| refine bX rfl rfl (nb rfl) rfl rfl rfl rfl (c1) ?_ | refine bX rfl rfl (nb rfl) rfl rfl rfl rfl (c2) ?_ | refine bX rfl rfl (nb rfl) rfl rfl rfl rfl (c3) ?_ | refine bX rfl rfl (nb rfl) rfl rfl rfl rfl (c4) ?_ | refine bX rfl rfl (nb rfl) rfl rfl rfl rfl (c5) ?_ | refine mH (z := q) rfl rfl rfl (nb rfl) rfl rfl (by omega) (hdiv (by omega)).1 (by omega) (by omega) ?_ | refine kH (z := cb) rfl rfl rfl (nb rfl) rfl rfl hmul (by omega) (by omega) ?_ | refine aE rfl rfl rfl (nb rfl) rfl rfl (by omega) ?_ | refine bI rfl rfl rfl (nb rfl) rfl rfl rfl (by omega) (by omega) ?_ | refine bJ rfl rfl rfl (nb rfl) rfl rfl rfl (by omega) (by omega) ?_ | refine bH tabOk rfl rfl rfl (nb rfl) rfl rfl rfl rfl rfl rfl rfl rfl rfl ?_ | refine aZ tabOk rfl rfl (nb rfl) rfl ?_ | refine aU tabOk rfl rfl rfl (nb rfl) rfl rfl rfl rfl rfl rfl ?_ | refine aV tabOk rfl rfl rfl (nb rfl) rfl rfl rfl rfl ?_ | refine aN tabOk rfl rfl rfl rfl rfl rfl rfl rfl rfl rfl rfl ?_ | refine aR tabOk rfl rfl rfl (nb rfl) rfl rfl rfl rfl (by first | assumption | omega) ?_ | refine aJ tabOk rfl rfl rfl (nb rfl) rfl rfl rfl rfl (by first | rfl | omega) (by first | omega | simp) ?_ | refine aC tabOk rfl rfl rfl (nb rfl) rfl rfl rfl (by assumption) ?_ | refine aC tabOk rfl rfl rfl (nb rfl) rfl rfl rfl (bS _ _ (by first | assumption | omega)) ?_ | refine aE rfl rfl rfl (nb rfl) rfl rfl (by omega) ?_ | ((fail_if_success (refine aG (b := true) rfl rfl rfl ?_)); (fail_if_success (refine aG (b := false) rfl rfl rfl ?_)); refine aW rfl rfl rfl (fun hq => ?_) (fun hq => ?_) <;> first | subst hq | (first | (simp only [sD, sE, sB, sC, sN, sM, sT, sF] at hq; try (exfalso; omega)) | skip)) | fail) | (refine bW ?_; first | refine bN ?_ | refine bT ?_ | refine aQ ?_ | refine bD ?_ | refine bU ?_ | refine bL ?_ | refine bK ?_ | refine aA (b := true) rfl (fun _ => ?_) nTf | refine aA (b := false) rfl nFt (fun _ => ?_) | refine bE ?_ | refine bC ?_ | refine bA mixed (by kernel_rfl) ?_ | refine aD mixed (by kernel_rfl) ?_ | (refine aA rfl (fun hq => ?_) (fun hq => ?_) <;> first | subst hq | (first | (simp only [sD, sE, sB, sC, sN, sM, sT, sF] at hq; try (exfalso; omega)) | skip)) | fail) | (refine bQ ?_; first | refine bZ ?_ | refine aK ?_ | refine aT ?_ | fail) | (refine bG ?_; first | refine bV ?_ | refine aH ?_ | refine aI (by decide) ?_ | refine aM ?_ | fail) | refine bR (bB (by kernel_rfl)) ?_ | fail)
          all_goals first
            | exact absurd rfl (by assumption)
            | (exfalso; omega)
            | (refine cA (by first | exact .inl rfl | exact .inr rfl) (cC rfl (aY rfl) (aY rfl)) rfl ?_; rfl)
        · rcases htl with ⟨rfl, rfl⟩ | ⟨rfl, rfl⟩
          · rw [if_pos (.inr (.inr rfl))]
            refine bY Try.func110 rfl rfl (nb rfl) rfl ?_
            repeat' (first | refine bM ?_ | (refine bP ?_; first | refine aX tabOk rfl rfl rfl (nb rfl) rfl ?_ | refine bF rfl rfl (nb rfl) ?_ | (refine bO rfl rfl rfl (nb rfl) rfl rfl rfl (fun hq => ?_) (fun hq => ?_) <;> (first | (simp only [sD, sE, sB, sC, sN, sM, sT, sF] at hq; try (exfalso; omega)) | skip))| refine bX rfl rfl (nb rfl) rfl rfl rfl rfl (c1) ?_ | refine bX rfl rfl (nb rfl) rfl rfl rfl rfl (c2) ?_ | refine bX rfl rfl (nb rfl) rfl rfl rfl rfl (c3) ?_ | refine bX rfl rfl (nb rfl) rfl rfl rfl rfl (c4) ?_ | refine bX rfl rfl (nb rfl) rfl rfl rfl rfl (c5) ?_ | refine bX rfl rfl (nb rfl) rfl rfl rfl rfl (c6) ?_ | refine mH (z := q) rfl rfl rfl (nb rfl) rfl rfl (by omega) (hdiv (by omega)).1 (by omega) (by omega) ?_ | refine kH (z := cb) rfl rfl rfl (nb rfl) rfl rfl hmul (by omega) (by omega) ?_ | refine aE rfl rfl rfl (nb rfl) rfl rfl (by omega) ?_ | refine bI rfl rfl rfl (nb rfl) rfl rfl rfl (by omega) (by omega) ?_ | refine bJ rfl rfl rfl (nb rfl) rfl rfl rfl (by omega) (by omega) ?_ | refine bH tabOk rfl rfl rfl (nb rfl) rfl rfl rfl rfl rfl rfl rfl rfl rfl ?_ | refine aZ tabOk rfl rfl (nb rfl) rfl ?_ | refine aU tabOk rfl rfl rfl (nb rfl) rfl rfl rfl rfl rfl rfl ?_ | refine aV tabOk rfl rfl rfl (nb rfl) rfl rfl rfl rfl ?_ | refine aN tabOk rfl rfl rfl rfl rfl rfl rfl rfl rfl rfl rfl ?_ | refine aR tabOk rfl rfl rfl (nb rfl) rfl rfl rfl rfl (by first | assumption | omega) ?_ | refine aJ tabOk rfl rfl rfl (nb rfl) rfl rfl rfl rfl (by first | rfl | omega) (by first | omega | simp) ?_ | refine aC tabOk rfl rfl rfl (nb rfl) rfl rfl rfl (by assumption) ?_ | refine aC tabOk rfl rfl rfl (nb rfl) rfl rfl rfl (bS _ _ (by first | assumption | omega)) ?_ | refine aE rfl rfl rfl (nb rfl) rfl rfl (by omega) ?_ | ((fail_if_success (refine aG (b := true) rfl rfl rfl ?_)); (fail_if_success (refine aG (b := false) rfl rfl rfl ?_)); refine aW rfl rfl rfl (fun hq => ?_) (fun hq => ?_) <;> first | subst hq | (first | (simp only [sD, sE, sB, sC, sN, sM, sT, sF] at hq; try (exfalso; omega)) | skip)) | fail) | (refine bW ?_; first | refine bN ?_ | refine bT ?_ | refine aQ ?_ | refine bD ?_ | refine bU ?_ | refine bL ?_ | refine bK ?_ | refine aA (b := true) rfl (fun _ => ?_) nTf | refine aA (b := false) rfl nFt (fun _ => ?_) | refine bE ?_ | refine bC ?_ | refine bA mixed (by kernel_rfl) ?_ | refine aD mixed (by kernel_rfl) ?_ | (refine aA rfl (fun hq => ?_) (fun hq => ?_) <;> first | subst hq | (first | (simp only [sD, sE, sB, sC, sN, sM, sT, sF] at hq; try (exfalso; omega)) | skip)) | fail) | (refine bQ ?_; first | refine bZ ?_ | refine aK ?_ | refine aT ?_ | fail) | (refine bG ?_; first | refine bV ?_ | refine aH ?_ | refine aI (by decide) ?_ | refine aM ?_ | fail) | refine bR (bB (by kernel_rfl)) ?_ | fail)
            all_goals first
              | exact absurd rfl (by assumption)
              | (exfalso; omega)
              | (refine cA (by first | exact .inl rfl | exact .inr rfl) (cC rfl (aY rfl) (aY rfl)) rfl ?_; rfl)
          · rw [if_neg (by intro h; rcases h with h | h | h; exact hbig (.inl h); exact hbig (.inr h); cases h)]
            refine bY Try.func110 rfl rfl (nb rfl) rfl ?_
            repeat' (first | refine bM ?_ | (refine bP ?_; first | refine aX tabOk rfl rfl rfl (nb rfl) rfl ?_ | refine bF rfl rfl (nb rfl) ?_ | (refine bO rfl rfl rfl (nb rfl) rfl rfl rfl (fun hq => ?_) (fun hq => ?_) <;> (first | (simp only [sD, sE, sB, sC, sN, sM, sT, sF] at hq; try (exfalso; omega)) | skip))| refine bX rfl rfl (nb rfl) rfl rfl rfl rfl (c1) ?_ | refine bX rfl rfl (nb rfl) rfl rfl rfl rfl (c2) ?_ | refine bX rfl rfl (nb rfl) rfl rfl rfl rfl (c3) ?_ | refine bX rfl rfl (nb rfl) rfl rfl rfl rfl (c4) ?_ | refine bX rfl rfl (nb rfl) rfl rfl rfl rfl (c5) ?_ | refine bX rfl rfl (nb rfl) rfl rfl rfl rfl (c6) ?_ | refine mH (z := q) rfl rfl rfl (nb rfl) rfl rfl (by omega) (hdiv (by omega)).1 (by omega) (by omega) ?_ | refine kH (z := cb) rfl rfl rfl (nb rfl) rfl rfl hmul (by omega) (by omega) ?_ | refine aE rfl rfl rfl (nb rfl) rfl rfl (by omega) ?_ | refine bI rfl rfl rfl (nb rfl) rfl rfl rfl (by omega) (by omega) ?_ | refine bJ rfl rfl rfl (nb rfl) rfl rfl rfl (by omega) (by omega) ?_ | refine bH tabOk rfl rfl rfl (nb rfl) rfl rfl rfl rfl rfl rfl rfl rfl rfl ?_ | refine aZ tabOk rfl rfl (nb rfl) rfl ?_ | refine aU tabOk rfl rfl rfl (nb rfl) rfl rfl rfl rfl rfl rfl ?_ | refine aV tabOk rfl rfl rfl (nb rfl) rfl rfl rfl rfl ?_ | refine aN tabOk rfl rfl rfl rfl rfl rfl rfl rfl rfl rfl rfl ?_ | refine aR tabOk rfl rfl rfl (nb rfl) rfl rfl rfl rfl (by first | assumption | omega) ?_ | refine aJ tabOk rfl rfl rfl (nb rfl) rfl rfl rfl rfl (by first | rfl | omega) (by first | omega | simp) ?_ | refine aC tabOk rfl rfl rfl (nb rfl) rfl rfl rfl (by assumption) ?_ | refine aC tabOk rfl rfl rfl (nb rfl) rfl rfl rfl (bS _ _ (by first | assumption | omega)) ?_ | refine aE rfl rfl rfl (nb rfl) rfl rfl (by omega) ?_ | ((fail_if_success (refine aG (b := true) rfl rfl rfl ?_)); (fail_if_success (refine aG (b := false) rfl rfl rfl ?_)); refine aW rfl rfl rfl (fun hq => ?_) (fun hq => ?_) <;> first | subst hq | (first | (simp only [sD, sE, sB, sC, sN, sM, sT, sF] at hq; try (exfalso; omega)) | skip)) | fail) | (refine bW ?_; first | refine bN ?_ | refine bT ?_ | refine aQ ?_ | refine bD ?_ | refine bU ?_ | refine bL ?_ | refine bK ?_ | refine aA (b := true) rfl (fun _ => ?_) nTf | refine aA (b := false) rfl nFt (fun _ => ?_) | refine bE ?_ | refine bC ?_ | refine bA mixed (by kernel_rfl) ?_ | refine aD mixed (by kernel_rfl) ?_ | (refine aA rfl (fun hq => ?_) (fun hq => ?_) <;> first | subst hq | (first | (simp only [sD, sE, sB, sC, sN, sM, sT, sF] at hq; try (exfalso; omega)) | skip)) | fail) | (refine bQ ?_; first | refine bZ ?_ | refine aK ?_ | refine aT ?_ | fail) | (refine bG ?_; first | refine bV ?_ | refine aH ?_ | refine aI (by decide) ?_ | refine aM ?_ | fail) | refine bR (bB (by kernel_rfl)) ?_ | fail)
            all_goals first
              | exact absurd rfl (by assumption)
              | (exfalso; omega)
              | (refine cA (by first | exact .inl rfl | exact .inr rfl) (cC rfl (aY rfl) (aY rfl)) rfl ?_; rfl)
    · have e : substP t i by_ = (.nil, checkP isConP by_) := by unfold substP; rw [if_neg (by simpa using h1), if_pos (by simpa using h2)]
      rw [e]
      rw [h1] at c1
      generalize checkP isConP by_ = E at *
      refine bY Try.func110 rfl rfl (nb rfl) rfl ?_
      repeat' (first | refine bM ?_ | (refine bP ?_; first | refine aX tabOk rfl rfl rfl (nb rfl) rfl ?_ | refine bF rfl rfl (nb rfl) ?_ | (refine bO rfl rfl rfl (nb rfl) rfl rfl rfl (fun hq => ?_) (fun hq => ?_) <;> (first | (simp only [sD, sE, sB, sC, sN, sM, sT, sF] at hq; try (exfalso; omega)) | skip))| refine bX rfl rfl (nb rfl) rfl rfl rfl rfl (c1) ?_ | refine bX rfl rfl (nb rfl) rfl rfl rfl rfl (c2) ?_ | refine aE rfl rfl rfl (nb rfl) rfl rfl (by omega) ?_ | refine bI rfl rfl rfl (nb rfl) rfl rfl rfl (by omega) (by omega) ?_ | refine bJ rfl rfl rfl (nb rfl) rfl rfl rfl (by omega) (by omega) ?_ | refine bH tabOk rfl rfl rfl (nb rfl) rfl rfl rfl rfl rfl rfl rfl rfl rfl ?_ | refine aZ tabOk rfl rfl (nb rfl) rfl ?_ | refine aU tabOk rfl rfl rfl (nb rfl) rfl rfl rfl rfl rfl rfl ?_ | refine aV tabOk rfl rfl rfl (nb rfl) rfl rfl rfl rfl ?_ | refine aN tabOk rfl rfl rfl rfl rfl rfl rfl rfl rfl rfl rfl ?_ | refine aR tabOk rfl rfl rfl (nb rfl) rfl rfl rfl rfl (by first | assumption | omega) ?_ | refine aJ tabOk rfl rfl rfl (nb rfl) rfl rfl rfl rfl (by first | rfl | omega) (by first | omega | simp) ?_ | refine aC tabOk rfl rfl rfl (nb rfl) rfl rfl rfl (by assumption) ?_ | refine aC tabOk rfl rfl rfl (nb rfl) rfl rfl rfl (bS _ _ (by first | assumption | omega)) ?_ | refine aE rfl rfl rfl (nb rfl) rfl rfl (by omega) ?_ | ((fail_if_success (refine aG (b := true) rfl rfl rfl ?_)); (fail_if_success (refine aG (b := false) rfl rfl rfl ?_)); refine aW rfl rfl rfl (fun hq => ?_) (fun hq => ?_) <;> first | subst hq | (first | (simp only [sD, sE, sB, sC, sN, sM, sT, sF] at hq; try (exfalso; omega)) | skip)) | fail) | (refine bW ?_; first | refine bN ?_ | refine bT ?_ | refine aQ ?_ | refine bD ?_ | refine bU ?_ | refine bL ?_ | refine bK ?_ | refine aA (b := true) rfl (fun _ => ?_) nTf | refine aA (b := false) rfl nFt (fun _ => ?_) | refine bE ?_ | refine bC ?_ | refine bA mixed (by kernel_rfl) ?_ | refine aD mixed (by kernel_rfl) ?_ | (refine aA rfl (fun hq => ?_) (fun hq => ?_) <;> first | subst hq | (first | (simp only [sD, sE, sB, sC, sN, sM, sT, sF] at hq; try (exfalso; omega)) | skip)) | fail) | (refine bQ ?_; first | refine bZ ?_ | refine aK ?_ | refine aT ?_ | fail) | (refine bG ?_; first | refine bV ?_ | refine aH ?_ | refine aI (by decide) ?_ | refine aM ?_ | fail) | refine bR (bB (by kernel_rfl)) ?_ | fail)
      all_goals first
        | exact absurd rfl (by assumption)
        | exact absurd (by assumption) h2
        | (refine cA (by first | exact .inl rfl | exact .inr rfl) (cC rfl (aY rfl) (aY rfl)) rfl ?_; rfl)
  · have e : substP t i by_ = (.nil, checkP isConP t) := by unfold substP; rw [if_pos (by simpa using h1)]
    rw [e]
    generalize checkP isConP t = E at *
    refine bY Try.func110 rfl rfl (nb rfl) rfl ?_
    repeat' (first | refine bM ?_ | (refine bP ?_; first | refine aX tabOk rfl rfl rfl (nb rfl) rfl ?_ | refine bF rfl rfl (nb rfl) ?_ | (refine bO rfl rfl rfl (nb rfl) rfl rfl rfl (fun hq => ?_) (fun hq => ?_) <;> (first | (simp only [sD, sE, sB, sC, sN, sM, sT, sF] at hq; try (exfalso; omega)) | skip))| refine bX rfl rfl (nb rfl) rfl rfl rfl rfl (c1) ?_ | refine aE rfl rfl rfl (nb rfl) rfl rfl (by omega) ?_ | refine bI rfl rfl rfl (nb rfl) rfl rfl rfl (by omega) (by omega) ?_ | refine bJ rfl rfl rfl (nb rfl) rfl rfl rfl (by omega) (by omega) ?_ | refine bH tabOk rfl rfl rfl (nb rfl) rfl rfl rfl rfl rfl rfl rfl rfl rfl ?_ | refine aZ tabOk rfl rfl (nb rfl) rfl ?_ | refine aU tabOk rfl rfl rfl (nb rfl) rfl rfl rfl rfl rfl rfl ?_ | refine aV tabOk rfl rfl rfl (nb rfl) rfl rfl rfl rfl ?_ | refine aN tabOk rfl rfl rfl rfl rfl rfl rfl rfl rfl rfl rfl ?_ | refine aR tabOk rfl rfl rfl (nb rfl) rfl rfl rfl rfl (by first | assumption | omega) ?_ | refine aJ tabOk rfl rfl rfl (nb rfl) rfl rfl rfl rfl (by first | rfl | omega) (by first | omega | simp) ?_ | refine aC tabOk rfl rfl rfl (nb rfl) rfl rfl rfl (by assumption) ?_ | refine aC tabOk rfl rfl rfl (nb rfl) rfl rfl rfl (bS _ _ (by first | assumption | omega)) ?_ | refine aE rfl rfl rfl (nb rfl) rfl rfl (by omega) ?_ | ((fail_if_success (refine aG (b := true) rfl rfl rfl ?_)); (fail_if_success (refine aG (b := false) rfl rfl rfl ?_)); refine aW rfl rfl rfl (fun hq => ?_) (fun hq => ?_) <;> first | subst hq | (first | (simp only [sD, sE, sB, sC, sN, sM, sT, sF] at hq; try (exfalso; omega)) | skip)) | fail) | (refine bW ?_; first | refine bN ?_ | refine bT ?_ | refine aQ ?_ | refine bD ?_ | refine bU ?_ | refine bL ?_ | refine bK ?_ | refine aA (b := true) rfl (fun _ => ?_) nTf | refine aA (b := false) rfl nFt (fun _ => ?_) | refine bE ?_ | refine bC ?_ | refine bA mixed (by kernel_rfl) ?_ | refine aD mixed (by kernel_rfl) ?_ | (refine aA rfl (fun hq => ?_) (fun hq => ?_) <;> first | subst hq | (first | (simp only [sD, sE, sB, sC, sN, sM, sT, sF] at hq; try (exfalso; omega)) | skip)) | fail) | (refine bQ ?_; first | refine bZ ?_ | refine aK ?_ | refine aT ?_ | fail) | (refine bG ?_; first | refine bV ?_ | refine aH ?_ | refine aI (by decide) ?_ | refine aM ?_ | fail) | refine bR (bB (by kernel_rfl)) ?_ | fail)
    all_goals first
      | exact absurd (by assumption) h1
      | (refine cA (by first | exact .inl rfl | exact .inr rfl) (cC rfl (aY rfl) (aY rfl)) rfl ?_; rfl)
end Go.Proofs.Ytlbemgokilhdnaa.Ab
namespace Go.Proofs.Ytlbemgokilhdnaa.Ab
set_option linter.unusedVariables false
set_option linter.unusedSimpArgs false
open Go.RowKit
attribute [local irreducible] AWP AOps AExit AThen ABlock ANoGoto FeetOk
def litI (i : Nat) : IV := .lit (.int .i64 (i : Int))
def pathIV (p : List Nat) : IV := .sl false p.length (p.map litI)
mutual
/-- The path of the first redex. -/
def rdxP : Tree → Option (List Nat)
  | .nil => none
  | .node k n a b kids => match redexP (.node k n a b kids) with
    | some _ => some []
    | none => rdxPs kids
def rdxPs : List Tree → Option (List Nat)
  | [] => none
  | t :: ts => match rdxP t with
    | some p => some (0 :: p)
    | none => match rdxPs ts with
      | some (j :: p) => some ((j + 1) :: p)
      | _ => none
end
theorem nJ : ∀ (l : List Tree), rdxPs l = none ↔ ∀ t ∈ l, rdxP t = none
  | [] => by simp [rdxPs]
  | t :: ts => by
    rw [rdxPs]
    cases h : rdxP t with
    | some p => simp [h]
    | none =>
      have ih := nJ ts
      cases h2 : rdxPs ts with
      | none => simp only [List.mem_cons, forall_eq_or_imp, h, true_and]; exact ⟨fun _ => ih.1 h2, fun _ => trivial⟩
      | some q =>
        have h3 : ¬ ∀ t ∈ ts, rdxP t = none := fun h4 => by rw [ih.2 h4] at h2; cases h2
        have key : ∀ (l : List Tree), rdxPs l ≠ some [] := by
          intro l
          cases l with
          | nil => simp [rdxPs]
          | cons x l =>
            rw [rdxPs]
            cases rdxP x with
            | some p => simp
            | none =>
              dsimp only
              split <;> simp
        cases q with
        | nil => exact absurd h2 (key ts)
        | cons j p =>
          simp only [reduceCtorEq, false_iff]
          intro h4
          exact h3 fun t ht => h4 t (by simp [ht])
theorem nK : ∀ (l : List Tree) (j : Nat) (h : j < l.length) (p : List Nat), (∀ i (hi : i < j), rdxP (l[i]'(by omega)) = none) → rdxP l[j] = some p → rdxPs l = some (j :: p)
  | [], _, h, _, _, _ => by simp at h
  | t :: ts, 0, _, p, _, hp => by
    rw [List.getElem_cons_zero] at hp
    rw [rdxPs, hp]
  | t :: ts, j + 1, h, p, hn, hp => by
    have h0 := hn 0 (by omega)
    rw [List.getElem_cons_zero] at h0
    rw [List.getElem_cons_succ] at hp
    have := nK ts j (by simpa using h) p (fun i hi => by have := hn (i + 1) (by omega); rwa [List.getElem_cons_succ] at this) hp
    rw [rdxPs, h0, this]
theorem lC {k n : Int} {a b : ByteArray} {kids : List Tree} (h : okStep (.node k n a b kids) = true) : ∀ t ∈ kids, okStep t = true := by
  rw [okStep, Bool.and_eq_true] at h
  exact fK h.2
theorem nL (t : Tree) : ∀ p, rdxP t = some p → p.length ≤ t.size := by
  induction t using Tree.ind with
  | h1 => intro p h; cases h
  | h2 k n a b kids ih =>
    intro p h
    rw [rdxP] at h
    split at h
    · cases h; exact Nat.zero_le _
    · have key : ∀ (l : List Tree) p, (∀ t ∈ l, t ∈ kids) → rdxPs l = some p → p.length ≤ Tree.sizes l + 1 := by
        intro l
        induction l with
        | nil => intro p _ h; simp [rdxPs] at h
        | cons t ts ih2 =>
          intro p hm h
          rw [rdxPs] at h
          split at h
          · rename_i q hq
            cases h
            have := ih t (hm t (by simp)) q hq
            rw [List.length_cons, Tree.sizes]
            omega
          · split at h
            · rename_i j q hq
              cases h
              have := ih2 _ (fun t' h' => hm t' (by simp [h'])) hq
              rw [List.length_cons] at this ⊢
              rw [Tree.sizes]
              omega
            · cases h
      have := key kids p (fun _ h => h) h
      rw [Tree.size]
      omega
set_option maxHeartbeats 16000000 in
set_option maxRecDepth 10000 in
theorem yQ (t : Tree) : t.whole = true → okStep t = true → t.size ≤ 1000000 → ACalls Try.prog 108 [.imm t.iv] [] (.imm (.tup [pathIV ((rdxP t).getD []), .lit (.bool (rdxP t).isSome)])) [] := by
  induction t using Tree.ind with
  | h1 => intro h; simp [Tree.whole] at h
  | h2 k n a b kids ih =>
    intro hw ho hs
    have hl := cI kids hw
    have hsz : (Tree.node k n a b kids).size = 1 + Tree.sizes kids := by rw [Tree.size]
    rw [hsz] at hs
    cases hr : redexP (.node k n a b kids) with
    | some q =>
      obtain ⟨bd, y⟩ := q
      have e : rdxP (.node k n a b kids) = some [] := by rw [rdxP, hr]
      rw [e]
      obtain ⟨n, a, b, n', a', b', u, he⟩ := fL hr
      rw [he]
      refine bY Try.func108 rfl rfl (nb rfl) rfl ?_
      repeat' (first | refine bM ?_ | (refine bP ?_; first | refine aX tabOk rfl rfl rfl (nb rfl) rfl ?_ | refine bF rfl rfl (nb rfl) ?_ | (refine bO rfl rfl rfl (nb rfl) rfl rfl rfl (fun hq => ?_) (fun hq => ?_) <;> (first | (simp only [sD, sE, sB, sC, sN, sM, sT, sF] at hq; try (exfalso; omega)) | skip)) | refine aE rfl rfl rfl (nb rfl) rfl rfl (by omega) ?_ | refine bI rfl rfl rfl (nb rfl) rfl rfl rfl (by omega) (by omega) ?_ | refine bJ rfl rfl rfl (nb rfl) rfl rfl rfl (by omega) (by omega) ?_ | refine bH tabOk rfl rfl rfl (nb rfl) rfl rfl rfl rfl rfl rfl rfl rfl rfl ?_ | refine aZ tabOk rfl rfl (nb rfl) rfl ?_ | refine aU tabOk rfl rfl rfl (nb rfl) rfl rfl rfl rfl rfl rfl ?_ | refine aV tabOk rfl rfl rfl (nb rfl) rfl rfl rfl rfl ?_ | refine aN tabOk rfl rfl rfl rfl rfl rfl rfl rfl rfl rfl rfl ?_ | refine aR tabOk rfl rfl rfl (nb rfl) rfl rfl rfl rfl (by first | assumption | omega) ?_ | refine aJ tabOk rfl rfl rfl (nb rfl) rfl rfl rfl rfl (by first | rfl | omega) (by first | omega | simp) ?_ | refine aC tabOk rfl rfl rfl (nb rfl) rfl rfl rfl (by assumption) ?_ | refine aC tabOk rfl rfl rfl (nb rfl) rfl rfl rfl (bS _ _ (by first | assumption | omega)) ?_ | refine aE rfl rfl rfl (nb rfl) rfl rfl (by omega) ?_ | ((fail_if_success (refine aG (b := true) rfl rfl rfl ?_)); (fail_if_success (refine aG (b := false) rfl rfl rfl ?_)); refine aW rfl rfl rfl (fun hq => ?_) (fun hq => ?_) <;> first | subst hq | (first | (simp only [sD, sE, sB, sC, sN, sM, sT, sF] at hq; try (exfalso; omega)) | skip)) | fail) | (refine bW ?_; first | refine bN ?_ | refine bT ?_ | refine aQ ?_ | refine bD ?_ | refine bU ?_ | refine bL ?_ | refine bK ?_ | refine aA (b := true) rfl (fun _ => ?_) nTf | refine aA (b := false) rfl nFt (fun _ => ?_) | refine bE ?_ | refine bC ?_ | refine bA mixed (by kernel_rfl) ?_ | refine aD mixed (by kernel_rfl) ?_ | (refine aA rfl (fun hq => ?_) (fun hq => ?_) <;> first | subst hq | (first | (simp only [sD, sE, sB, sC, sN, sM, sT, sF] at hq; try (exfalso; omega)) | skip)) | fail) | (refine bQ ?_; first | refine bZ ?_ | refine aK ?_ | refine aT ?_ | fail) | (refine bG ?_; first | refine bV ?_ | refine aH ?_ | refine aI (by decide) ?_ | refine aM ?_ | fail) | refine bR (bB (by kernel_rfl)) ?_ | fail)
      all_goals first
        | exact absurd rfl (by assumption)
        | (refine cA (by first | exact .inl rfl | exact .inr rfl) (cC rfl (eN (aY rfl)) (eN (aY rfl))) rfl ?_; rfl)
    | none =>
      have e : rdxP (.node k n a b kids) = rdxPs kids := by rw [rdxP, hr]
      rw [e]
      clear e
      have hks := lC ho
      obtain ⟨k', n', a', b', ks', h0⟩ : ∃ k' n' a' b' ks', k = 120 → 0 < kids.length ∧ k' ≠ 119 ∧ (Tree.ivs kids)[0 * 1]? = some (Tree.iv (.node k' n' a' b' ks')) := by
        by_cases hk : k = 120
        · obtain ⟨x, y, rfl, hx⟩ := kT ho hr hk
          have hwx := cD hw (List.mem_cons_self (a := x))
          obtain ⟨k', n', a', b', ks', rfl⟩ := cZ hwx
          exact ⟨k', n', a', b', ks', fun _ => ⟨by simp, hx, rfl⟩⟩
        · exact ⟨0, 0, emptyB, emptyB, [], fun h => absurd h hk⟩
      have hk1 : k = 120 → 0 < kids.length := fun h => (h0 h).1
      have hk2 : k = 120 → k' ≠ 119 := fun h => (h0 h).2.1
      have hk3 := fun h => (h0 h).2.2
      clear h0 hr
      refine bY Try.func108 rfl rfl (nb rfl) rfl ?_
      repeat' (first | refine bM ?_ | (refine bP ?_; first | refine aX tabOk rfl rfl rfl (nb rfl) rfl ?_ | refine bF rfl rfl (nb rfl) ?_ | (refine bO rfl rfl rfl (nb rfl) rfl rfl rfl (fun hq => ?_) (fun hq => ?_) <;> (first | (simp only [sD, sE, sB, sC, sN, sM, sT, sF] at hq; try (exfalso; omega)) | skip))| refine aC tabOk rfl rfl rfl (nb rfl) rfl rfl rfl (hk3 (by assumption)) ?_ | refine aE rfl rfl rfl (nb rfl) rfl rfl (by omega) ?_ | refine bI rfl rfl rfl (nb rfl) rfl rfl rfl (by omega) (by omega) ?_ | refine bJ rfl rfl rfl (nb rfl) rfl rfl rfl (by omega) (by omega) ?_ | refine bH tabOk rfl rfl rfl (nb rfl) rfl rfl rfl rfl rfl rfl rfl rfl rfl ?_ | refine aZ tabOk rfl rfl (nb rfl) rfl ?_ | refine aU tabOk rfl rfl rfl (nb rfl) rfl rfl rfl rfl rfl rfl ?_ | refine aV tabOk rfl rfl rfl (nb rfl) rfl rfl rfl rfl ?_ | refine aN tabOk rfl rfl rfl rfl rfl rfl rfl rfl rfl rfl rfl ?_ | refine aR tabOk rfl rfl rfl (nb rfl) rfl rfl rfl rfl (by first | assumption | omega) ?_ | refine aJ tabOk rfl rfl rfl (nb rfl) rfl rfl rfl rfl (by first | rfl | omega) (by first | omega | simp) ?_ | refine aC tabOk rfl rfl rfl (nb rfl) rfl rfl rfl (by assumption) ?_ | refine aC tabOk rfl rfl rfl (nb rfl) rfl rfl rfl (bS _ _ (by first | assumption | omega)) ?_ | refine aE rfl rfl rfl (nb rfl) rfl rfl (by omega) ?_ | ((fail_if_success (refine aG (b := true) rfl rfl rfl ?_)); (fail_if_success (refine aG (b := false) rfl rfl rfl ?_)); refine aW rfl rfl rfl (fun hq => ?_) (fun hq => ?_) <;> first | subst hq | (first | (simp only [sD, sE, sB, sC, sN, sM, sT, sF] at hq; try (exfalso; omega)) | skip)) | fail) | (refine bW ?_; first | refine bN ?_ | refine bT ?_ | refine aQ ?_ | refine bD ?_ | refine bU ?_ | refine bL ?_ | refine bK ?_ | refine aA (b := true) rfl (fun _ => ?_) nTf | refine aA (b := false) rfl nFt (fun _ => ?_) | refine bE ?_ | refine bC ?_ | refine bA mixed (by kernel_rfl) ?_ | refine aD mixed (by kernel_rfl) ?_ | (refine aA rfl (fun hq => ?_) (fun hq => ?_) <;> first | subst hq | (first | (simp only [sD, sE, sB, sC, sN, sM, sT, sF] at hq; try (exfalso; omega)) | skip)) | fail) | (refine bQ ?_; first | refine bZ ?_ | refine aK ?_ | refine aT ?_ | fail) | (refine bG ?_; first | refine bV ?_ | refine aH ?_ | refine aI (by decide) ?_ | refine aM ?_ | fail) | refine bR (bB (by kernel_rfl)) ?_ | fail)
      all_goals first
        | (exfalso; omega)
        | exact absurd (by assumption) (hk2 (by assumption))
        | skip
      all_goals (
        refine cH (ι := {j : Nat // j ≤ kids.length ∧ ∀ i (hi : i < j) (hi2 : i < kids.length), rdxP kids[i] = none}) (fun j => S.f ⟨[(4, .imm (.lit (.int .i64 (j.1 : Int)))), (0, .imm (Tree.iv (.node k n a b kids)))], []⟩) (fun j => kids.length - j.1) ⟨0, Nat.zero_le _, fun i hi => absurd hi (by omega)⟩ (cF (by repeat' first | exact trivial | refine ⟨rfl, ?_⟩) (by repeat' first | exact trivial | refine ⟨rfl, ?_⟩)) ?_
        rintro ⟨j, hj, hok⟩
        dsimp only
        by_cases hlt : j < kids.length
        · have hm := List.getElem_mem hlt
          have hz := cT hm
          have hwk := cD hw hm
          have hget := bS kids j hlt
          have hc := ih _ hm hwk (hks _ hm) (by omega)
          cases hf : rdxP kids[j] with
          | none =>
            rw [hf] at hc
            have hok2 : ∀ i (hi : i < j + 1) (hi2 : i < kids.length), rdxP kids[i] = none := fun i hi hi2 => by
              by_cases hij : i = j
              · subst hij; exact hf
              · exact hok i (by omega) hi2
            clear ih
            repeat' (first | refine bM ?_ | (refine bP ?_; first | refine aX tabOk rfl rfl rfl (nb rfl) rfl ?_ | refine bF rfl rfl (nb rfl) ?_ | (refine bO rfl rfl rfl (nb rfl) rfl rfl rfl (fun hq => ?_) (fun hq => ?_) <;> (first | (simp only [sD, sE, sB, sC, sN, sM, sT, sF] at hq; try (exfalso; omega)) | skip))| refine aC tabOk rfl rfl rfl (nb rfl) rfl rfl rfl hget ?_ | refine bX rfl rfl (nb rfl) rfl rfl rfl rfl (hc) ?_ | refine aE rfl rfl rfl (nb rfl) rfl rfl (by omega) ?_ | refine bI rfl rfl rfl (nb rfl) rfl rfl rfl (by omega) (by omega) ?_ | refine bJ rfl rfl rfl (nb rfl) rfl rfl rfl (by omega) (by omega) ?_ | refine bH tabOk rfl rfl rfl (nb rfl) rfl rfl rfl rfl rfl rfl rfl rfl rfl ?_ | refine aZ tabOk rfl rfl (nb rfl) rfl ?_ | refine aU tabOk rfl rfl rfl (nb rfl) rfl rfl rfl rfl rfl rfl ?_ | refine aV tabOk rfl rfl rfl (nb rfl) rfl rfl rfl rfl ?_ | refine aN tabOk rfl rfl rfl rfl rfl rfl rfl rfl rfl rfl rfl ?_ | refine aR tabOk rfl rfl rfl (nb rfl) rfl rfl rfl rfl (by first | assumption | omega) ?_ | refine aJ tabOk rfl rfl rfl (nb rfl) rfl rfl rfl rfl (by first | rfl | omega) (by first | omega | simp) ?_ | refine aC tabOk rfl rfl rfl (nb rfl) rfl rfl rfl (by assumption) ?_ | refine aC tabOk rfl rfl rfl (nb rfl) rfl rfl rfl (bS _ _ (by first | assumption | omega)) ?_ | refine aE rfl rfl rfl (nb rfl) rfl rfl (by omega) ?_ | ((fail_if_success (refine aG (b := true) rfl rfl rfl ?_)); (fail_if_success (refine aG (b := false) rfl rfl rfl ?_)); refine aW rfl rfl rfl (fun hq => ?_) (fun hq => ?_) <;> first | subst hq | (first | (simp only [sD, sE, sB, sC, sN, sM, sT, sF] at hq; try (exfalso; omega)) | skip)) | fail) | (refine bW ?_; first | refine bN ?_ | refine bT ?_ | refine aQ ?_ | refine bD ?_ | refine bU ?_ | refine bL ?_ | refine bK ?_ | refine aA (b := true) rfl (fun _ => ?_) nTf | refine aA (b := false) rfl nFt (fun _ => ?_) | refine bE ?_ | refine bC ?_ | refine bA mixed (by kernel_rfl) ?_ | refine aD mixed (by kernel_rfl) ?_ | (refine aA rfl (fun hq => ?_) (fun hq => ?_) <;> first | subst hq | (first | (simp only [sD, sE, sB, sC, sN, sM, sT, sF] at hq; try (exfalso; omega)) | skip)) | fail) | (refine bQ ?_; first | refine bZ ?_ | refine aK ?_ | refine aT ?_ | fail) | (refine bG ?_; first | refine bV ?_ | refine aH ?_ | refine aI (by decide) ?_ | refine aM ?_ | fail) | refine bR (bB (by kernel_rfl)) ?_ | fail)
            all_goals first
              | exact absurd rfl (by assumption)
              | (exfalso; omega)
              | exact ⟨⟨j + 1, hlt, hok2⟩, (by show kids.length - (j + 1) < kids.length - j; omega), (cF (by repeat' first | exact trivial | refine ⟨rfl, ?_⟩) (by repeat' first | exact trivial | refine ⟨rfl, ?_⟩))⟩
          | some p =>
            have hps := nL _ p hf
            rw [hf] at hc
            have hall := nK kids j hlt p (fun i hi => hok i hi (by omega)) hf
            rw [hall]
            clear ih hall hok
            have hc' : ACalls Try.prog 108 [.imm kids[j].iv] [] (.imm (.tup [.sl false p.length (p.map litI), .lit (.bool true)])) [] := hc
            cases p with
            | nil =>
              repeat' (first | refine bM ?_ | (refine bP ?_; first | refine aX tabOk rfl rfl rfl (nb rfl) rfl ?_ | refine bF rfl rfl (nb rfl) ?_ | (refine bO rfl rfl rfl (nb rfl) rfl rfl rfl (fun hq => ?_) (fun hq => ?_) <;> (first | (simp only [sD, sE, sB, sC, sN, sM, sT, sF] at hq; try (exfalso; omega)) | skip))| refine aC tabOk rfl rfl rfl (nb rfl) rfl rfl rfl hget ?_ | refine bX rfl rfl (nb rfl) rfl rfl rfl rfl (hc') ?_ | refine jZ tabOk rfl rfl rfl (nb rfl) rfl rfl rfl rfl ?_ | refine aE rfl rfl rfl (nb rfl) rfl rfl (by omega) ?_ | refine bI rfl rfl rfl (nb rfl) rfl rfl rfl (by omega) (by omega) ?_ | refine bJ rfl rfl rfl (nb rfl) rfl rfl rfl (by omega) (by omega) ?_ | refine bH tabOk rfl rfl rfl (nb rfl) rfl rfl rfl rfl rfl rfl rfl rfl rfl ?_ | refine aZ tabOk rfl rfl (nb rfl) rfl ?_ | refine aU tabOk rfl rfl rfl (nb rfl) rfl rfl rfl rfl rfl rfl ?_ | refine aV tabOk rfl rfl rfl (nb rfl) rfl rfl rfl rfl ?_ | refine aN tabOk rfl rfl rfl rfl rfl rfl rfl rfl rfl rfl rfl ?_ | refine aR tabOk rfl rfl rfl (nb rfl) rfl rfl rfl rfl (by first | assumption | omega) ?_ | refine aJ tabOk rfl rfl rfl (nb rfl) rfl rfl rfl rfl (by first | rfl | omega) (by first | omega | simp) ?_ | refine aC tabOk rfl rfl rfl (nb rfl) rfl rfl rfl (by assumption) ?_ | refine aC tabOk rfl rfl rfl (nb rfl) rfl rfl rfl (bS _ _ (by first | assumption | omega)) ?_ | refine aE rfl rfl rfl (nb rfl) rfl rfl (by omega) ?_ | ((fail_if_success (refine aG (b := true) rfl rfl rfl ?_)); (fail_if_success (refine aG (b := false) rfl rfl rfl ?_)); refine aW rfl rfl rfl (fun hq => ?_) (fun hq => ?_) <;> first | subst hq | (first | (simp only [sD, sE, sB, sC, sN, sM, sT, sF] at hq; try (exfalso; omega)) | skip)) | fail) | (refine bW ?_; first | refine bN ?_ | refine bT ?_ | refine aQ ?_ | refine bD ?_ | refine bU ?_ | refine bL ?_ | refine bK ?_ | refine aA (b := true) rfl (fun _ => ?_) nTf | refine aA (b := false) rfl nFt (fun _ => ?_) | refine bE ?_ | refine bC ?_ | refine bA mixed (by kernel_rfl) ?_ | refine aD mixed (by kernel_rfl) ?_ | (refine aA rfl (fun hq => ?_) (fun hq => ?_) <;> first | subst hq | (first | (simp only [sD, sE, sB, sC, sN, sM, sT, sF] at hq; try (exfalso; omega)) | skip)) | fail) | (refine bQ ?_; first | refine bZ ?_ | refine aK ?_ | refine aT ?_ | fail) | (refine bG ?_; first | refine bV ?_ | refine aH ?_ | refine aI (by decide) ?_ | refine aM ?_ | fail) | refine bR (bB (by kernel_rfl)) ?_ | fail)
              all_goals first
                | exact absurd rfl (by assumption)
                | (exfalso; omega)
                | (refine cA (by first | exact .inl rfl | exact .inr rfl) (cC rfl (eN (aY rfl)) (eN (aY rfl))) rfl ?_; rfl)
            | cons x p =>
              repeat' (first | refine bM ?_ | (refine bP ?_; first | refine aX tabOk rfl rfl rfl (nb rfl) rfl ?_ | refine bF rfl rfl (nb rfl) ?_ | (refine bO rfl rfl rfl (nb rfl) rfl rfl rfl (fun hq => ?_) (fun hq => ?_) <;> (first | (simp only [sD, sE, sB, sC, sN, sM, sT, sF] at hq; try (exfalso; omega)) | skip))| refine aC tabOk rfl rfl rfl (nb rfl) rfl rfl rfl hget ?_ | refine bX rfl rfl (nb rfl) rfl rfl rfl rfl (hc') ?_ | refine gU (zs := (j :: x :: p).map litI) tabOk rfl rfl rfl (nb rfl) rfl rfl rfl rfl (.inl rfl) rfl rfl (Nat.succ_pos _) (by rw [List.length_map]; exact (Nat.mul_one _).symm) (by omega) (by dsimp only; omega) rfl ?_ | refine aE rfl rfl rfl (nb rfl) rfl rfl (by omega) ?_ | refine bI rfl rfl rfl (nb rfl) rfl rfl rfl (by omega) (by omega) ?_ | refine bJ rfl rfl rfl (nb rfl) rfl rfl rfl (by omega) (by omega) ?_ | refine bH tabOk rfl rfl rfl (nb rfl) rfl rfl rfl rfl rfl rfl rfl rfl rfl ?_ | refine aZ tabOk rfl rfl (nb rfl) rfl ?_ | refine aU tabOk rfl rfl rfl (nb rfl) rfl rfl rfl rfl rfl rfl ?_ | refine aV tabOk rfl rfl rfl (nb rfl) rfl rfl rfl rfl ?_ | refine aN tabOk rfl rfl rfl rfl rfl rfl rfl rfl rfl rfl rfl ?_ | refine aR tabOk rfl rfl rfl (nb rfl) rfl rfl rfl rfl (by first | assumption | omega) ?_ | refine aJ tabOk rfl rfl rfl (nb rfl) rfl rfl rfl rfl (by first | rfl | omega) (by first | omega | simp) ?_ | refine aC tabOk rfl rfl rfl (nb rfl) rfl rfl rfl (by assumption) ?_ | refine aC tabOk rfl rfl rfl (nb rfl) rfl rfl rfl (bS _ _ (by first | assumption | omega)) ?_ | refine aE rfl rfl rfl (nb rfl) rfl rfl (by omega) ?_ | ((fail_if_success (refine aG (b := true) rfl rfl rfl ?_)); (fail_if_success (refine aG (b := false) rfl rfl rfl ?_)); refine aW rfl rfl rfl (fun hq => ?_) (fun hq => ?_) <;> first | subst hq | (first | (simp only [sD, sE, sB, sC, sN, sM, sT, sF] at hq; try (exfalso; omega)) | skip)) | fail) | (refine bW ?_; first | refine bN ?_ | refine bT ?_ | refine aQ ?_ | refine bD ?_ | refine bU ?_ | refine bL ?_ | refine bK ?_ | refine aA (b := true) rfl (fun _ => ?_) nTf | refine aA (b := false) rfl nFt (fun _ => ?_) | refine bE ?_ | refine bC ?_ | refine bA mixed (by kernel_rfl) ?_ | refine aD mixed (by kernel_rfl) ?_ | (refine aA rfl (fun hq => ?_) (fun hq => ?_) <;> first | subst hq | (first | (simp only [sD, sE, sB, sC, sN, sM, sT, sF] at hq; try (exfalso; omega)) | skip)) | fail) | (refine bQ ?_; first | refine bZ ?_ | refine aK ?_ | refine aT ?_ | fail) | (refine bG ?_; first | refine bV ?_ | refine aH ?_ | refine aI (by decide) ?_ | refine aM ?_ | fail) | refine bR (bB (by kernel_rfl)) ?_ | fail)
              all_goals first
                | exact absurd rfl (by assumption)
                | (exfalso; omega)
                | (refine cA (by first | exact .inl rfl | exact .inr rfl) (cC rfl (eN (aY rfl)) (eN (aY rfl))) rfl ?_; exact congrArg (fun n => AV.imm (.tup [.sl false n ((j :: x :: p).map litI), .lit (.bool true)])) (Nat.add_comm 1 (x :: p).length))
        · have ej : j = kids.length := by omega
          subst ej
          have hall : rdxPs kids = none := (nJ kids).2 fun t ht => by
            obtain ⟨i, hi, rfl⟩ := List.getElem_of_mem ht
            exact hok i hi hi
          rw [hall]
          clear ih
          repeat' (first | refine bM ?_ | (refine bP ?_; first | refine aX tabOk rfl rfl rfl (nb rfl) rfl ?_ | refine bF rfl rfl (nb rfl) ?_ | (refine bO rfl rfl rfl (nb rfl) rfl rfl rfl (fun hq => ?_) (fun hq => ?_) <;> (first | (simp only [sD, sE, sB, sC, sN, sM, sT, sF] at hq; try (exfalso; omega)) | skip)) | refine aE rfl rfl rfl (nb rfl) rfl rfl (by omega) ?_ | refine bI rfl rfl rfl (nb rfl) rfl rfl rfl (by omega) (by omega) ?_ | refine bJ rfl rfl rfl (nb rfl) rfl rfl rfl (by omega) (by omega) ?_ | refine bH tabOk rfl rfl rfl (nb rfl) rfl rfl rfl rfl rfl rfl rfl rfl rfl ?_ | refine aZ tabOk rfl rfl (nb rfl) rfl ?_ | refine aU tabOk rfl rfl rfl (nb rfl) rfl rfl rfl rfl rfl rfl ?_ | refine aV tabOk rfl rfl rfl (nb rfl) rfl rfl rfl rfl ?_ | refine aN tabOk rfl rfl rfl rfl rfl rfl rfl rfl rfl rfl rfl ?_ | refine aR tabOk rfl rfl rfl (nb rfl) rfl rfl rfl rfl (by first | assumption | omega) ?_ | refine aJ tabOk rfl rfl rfl (nb rfl) rfl rfl rfl rfl (by first | rfl | omega) (by first | omega | simp) ?_ | refine aC tabOk rfl rfl rfl (nb rfl) rfl rfl rfl (by assumption) ?_ | refine aC tabOk rfl rfl rfl (nb rfl) rfl rfl rfl (bS _ _ (by first | assumption | omega)) ?_ | refine aE rfl rfl rfl (nb rfl) rfl rfl (by omega) ?_ | ((fail_if_success (refine aG (b := true) rfl rfl rfl ?_)); (fail_if_success (refine aG (b := false) rfl rfl rfl ?_)); refine aW rfl rfl rfl (fun hq => ?_) (fun hq => ?_) <;> first | subst hq | (first | (simp only [sD, sE, sB, sC, sN, sM, sT, sF] at hq; try (exfalso; omega)) | skip)) | fail) | (refine bW ?_; first | refine bN ?_ | refine bT ?_ | refine aQ ?_ | refine bD ?_ | refine bU ?_ | refine bL ?_ | refine bK ?_ | refine aA (b := true) rfl (fun _ => ?_) nTf | refine aA (b := false) rfl nFt (fun _ => ?_) | refine bE ?_ | refine bC ?_ | refine bA mixed (by kernel_rfl) ?_ | refine aD mixed (by kernel_rfl) ?_ | (refine aA rfl (fun hq => ?_) (fun hq => ?_) <;> first | subst hq | (first | (simp only [sD, sE, sB, sC, sN, sM, sT, sF] at hq; try (exfalso; omega)) | skip)) | fail) | (refine bQ ?_; first | refine bZ ?_ | refine aK ?_ | refine aT ?_ | fail) | (refine bG ?_; first | refine bV ?_ | refine aH ?_ | refine aI (by decide) ?_ | refine aM ?_ | fail) | refine bR (bB (by kernel_rfl)) ?_ | fail)
          all_goals first
            | exact absurd rfl (by assumption)
            | (exfalso; omega)
            | (refine cA (by first | exact .inl rfl | exact .inr rfl) (cC rfl (eN (aY rfl)) (eN (aY rfl))) rfl ?_; rfl))
end Go.Proofs.Ytlbemgokilhdnaa.Ab
namespace Go.Proofs.Ytlbemgokilhdnaa.Ab
set_option linter.unusedVariables false
set_option linter.unusedSimpArgs false
open Go.RowKit
attribute [local irreducible] AWP AOps AExit AThen ABlock ANoGoto FeetOk
/-- What stands at a path. -/
def atP : List Nat → Tree → Tree
  | [], t => t
  | j :: p, .node _ _ _ _ kids => atP p (kids[j]?.getD .nil)
  | _ :: _, .nil => .nil
/-- Is there something at a path? -/
def okPath : List Nat → Tree → Prop
  | [], _ => True
  | j :: p, .node _ _ _ _ kids => j < kids.length ∧ okPath p (kids[j]?.getD .nil)
  | _ :: _, .nil => False
/-- The tree with another one at a path. -/
def withP : List Nat → Tree → Tree → Tree
  | [], _, r => r
  | j :: p, .node k n a b kids, r => .node k n a b (kids.set j (withP p (kids[j]?.getD .nil) r))
  | _ :: _, .nil, _ => .nil
theorem fN {kids : List Tree} {j : Nat} (h : j < kids.length) : kids[j]?.getD .nil = kids[j] := by rw [List.getElem?_eq_getElem h]; rfl
theorem sI : ∀ (p : List Nat) (t : Tree), t.whole = true → okPath p t → (atP p t).whole = true ∧ (atP p t).size ≤ t.size
  | [], t, hw, _ => ⟨hw, Nat.le_refl _⟩
  | j :: p, .node k n a b kids, hw, hp => by
    obtain ⟨h, hp⟩ := hp
    rw [fN h] at hp
    have hm := List.getElem_mem h
    have := sI p kids[j] (cD hw hm) hp
    have hz := cG (k := k) (n := n) (a := a) (b := b) hm
    rw [atP, fN h]
    exact ⟨this.1, by omega⟩
  | _ :: _, .nil, hw, _ => by simp [Tree.whole] at hw
theorem nM (r : Tree) (hr : r.whole = true) : ∀ (p : List Nat) (t : Tree), t.whole = true → okPath p t → (withP p t r).whole = true ∧ (withP p t r).size ≤ t.size + r.size
  | [], t, hw, _ => ⟨hr, by rw [withP]; omega⟩
  | j :: p, .node k n a b kids, hw, hp => by
    obtain ⟨h, hp⟩ := hp
    rw [fN h] at hp
    have hm := List.getElem_mem h
    have := nM r hr p kids[j] (cD hw hm) hp
    rw [withP, fN h]
    refine ⟨jN this.1 kids j hw, ?_⟩
    have hs := kG (withP p kids[j] r) kids j h
    simp only [Tree.size]
    omega
  | _ :: _, .nil, hw, _ => by simp [Tree.whole] at hw
set_option maxHeartbeats 16000000 in
set_option maxRecDepth 10000 in
theorem aAD (t : Tree) (p : List Nat) (hw : t.whole = true) (hp : okPath p t) (hl : p.length ≤ 1000000) : ACalls Try.prog 109 [.imm t.iv, .imm (pathIV p)] [] (.imm (.tup [(atP p t).iv, .lit (.int .i64 0)])) [] := by
  generalize hR : atP p t = R
  obtain ⟨k, n, a, b, kids, e⟩ := cZ hw
  unfold pathIV
  rw [e]
  refine bY Try.func109 rfl rfl (nb rfl) rfl ?_
  repeat' (first | refine bM ?_ | (refine bP ?_; first | refine aX tabOk rfl rfl rfl (nb rfl) rfl ?_ | refine bF rfl rfl (nb rfl) ?_ | (refine bO rfl rfl rfl (nb rfl) rfl rfl rfl (fun hq => ?_) (fun hq => ?_) <;> (first | (simp only [sD, sE, sB, sC, sN, sM, sT, sF] at hq; try (exfalso; omega)) | skip)) | refine aE rfl rfl rfl (nb rfl) rfl rfl (by omega) ?_ | refine bI rfl rfl rfl (nb rfl) rfl rfl rfl (by omega) (by omega) ?_ | refine bJ rfl rfl rfl (nb rfl) rfl rfl rfl (by omega) (by omega) ?_ | refine bH tabOk rfl rfl rfl (nb rfl) rfl rfl rfl rfl rfl rfl rfl rfl rfl ?_ | refine aZ tabOk rfl rfl (nb rfl) rfl ?_ | refine aU tabOk rfl rfl rfl (nb rfl) rfl rfl rfl rfl rfl rfl ?_ | refine aV tabOk rfl rfl rfl (nb rfl) rfl rfl rfl rfl ?_ | refine aN tabOk rfl rfl rfl rfl rfl rfl rfl rfl rfl rfl rfl ?_ | refine aR tabOk rfl rfl rfl (nb rfl) rfl rfl rfl rfl (by first | assumption | omega) ?_ | refine aJ tabOk rfl rfl rfl (nb rfl) rfl rfl rfl rfl (by first | rfl | omega) (by first | omega | simp) ?_ | refine aC tabOk rfl rfl rfl (nb rfl) rfl rfl rfl (by assumption) ?_ | refine aC tabOk rfl rfl rfl (nb rfl) rfl rfl rfl (bS _ _ (by first | assumption | omega)) ?_ | refine aE rfl rfl rfl (nb rfl) rfl rfl (by omega) ?_ | ((fail_if_success (refine aG (b := true) rfl rfl rfl ?_)); (fail_if_success (refine aG (b := false) rfl rfl rfl ?_)); refine aW rfl rfl rfl (fun hq => ?_) (fun hq => ?_) <;> first | subst hq | (first | (simp only [sD, sE, sB, sC, sN, sM, sT, sF] at hq; try (exfalso; omega)) | skip)) | fail) | (refine bW ?_; first | refine bN ?_ | refine bT ?_ | refine aQ ?_ | refine bD ?_ | refine bU ?_ | refine bL ?_ | refine bK ?_ | refine aA (b := true) rfl (fun _ => ?_) nTf | refine aA (b := false) rfl nFt (fun _ => ?_) | refine bE ?_ | refine bC ?_ | refine bA mixed (by kernel_rfl) ?_ | refine aD mixed (by kernel_rfl) ?_ | (refine aA rfl (fun hq => ?_) (fun hq => ?_) <;> first | subst hq | (first | (simp only [sD, sE, sB, sC, sN, sM, sT, sF] at hq; try (exfalso; omega)) | skip)) | fail) | (refine bQ ?_; first | refine bZ ?_ | refine aK ?_ | refine aT ?_ | fail) | (refine bG ?_; first | refine bV ?_ | refine aH ?_ | refine aI (by decide) ?_ | refine aM ?_ | fail) | refine bR (bB (by kernel_rfl)) ?_ | fail)
  rw [← e]
  all_goals first
    | exact absurd rfl (by assumption)
    | skip
  refine cH (ι := {x : Nat × Tree // x.1 ≤ p.length ∧ x.2.whole = true ∧ okPath (p.drop x.1) x.2 ∧ atP (p.drop x.1) x.2 = R}) (fun x => S.f ⟨[(6, .imm (.lit (.int .i64 (x.1.1 : Int)))), (0, .imm x.1.2.iv), (1, .imm (.sl false p.length (p.map litI)))], []⟩) (fun x => p.length - x.1.1) ⟨(0, t), Nat.zero_le _, hw, hp, hR⟩ (cF (by repeat' first | exact trivial | refine ⟨rfl, ?_⟩) (by repeat' first | exact trivial | refine ⟨rfl, ?_⟩)) ?_
  clear hR hp hw e
  rintro ⟨⟨j, t⟩, hj, hw, hp, hR⟩
  dsimp only at hj hw hp hR ⊢
  obtain ⟨k, n, a, b, kids, rfl⟩ := cZ hw
  by_cases hlt : j < p.length
  · rw [List.drop_eq_getElem_cons hlt] at hp hR
    obtain ⟨hx, hp⟩ := hp
    rw [atP] at hR
    rw [fN hx] at hp hR
    have hm := List.getElem_mem hx
    have hwk := cD hw hm
    have hget := bS kids _ hx
    have hpget : (p.map litI)[j * 1]? = some (.lit (.int .i64 (p[j] : Int))) := by rw [Nat.mul_one, List.getElem?_map, List.getElem?_eq_getElem hlt]; rfl
    generalize hv : p[j] = v at *
    obtain ⟨k1, n1, a1, b1, ks1, e1⟩ := cZ hwk
    have hget1 := hget
    rw [e1] at hget1
    repeat' (first | refine bM ?_ | (refine bP ?_; first | refine aX tabOk rfl rfl rfl (nb rfl) rfl ?_ | refine bF rfl rfl (nb rfl) ?_ | (refine bO rfl rfl rfl (nb rfl) rfl rfl rfl (fun hq => ?_) (fun hq => ?_) <;> (first | (simp only [sD, sE, sB, sC, sN, sM, sT, sF] at hq; try (exfalso; omega)) | skip))| refine aC tabOk rfl rfl rfl (nb rfl) rfl rfl rfl hpget ?_ | refine aR (j := v) tabOk rfl rfl rfl (nb rfl) rfl rfl rfl rfl hx ?_ | refine aC tabOk rfl rfl rfl (nb rfl) rfl rfl rfl hget1 ?_ | refine aE rfl rfl rfl (nb rfl) rfl rfl (by omega) ?_ | refine bI rfl rfl rfl (nb rfl) rfl rfl rfl (by omega) (by omega) ?_ | refine bJ rfl rfl rfl (nb rfl) rfl rfl rfl (by omega) (by omega) ?_ | refine bH tabOk rfl rfl rfl (nb rfl) rfl rfl rfl rfl rfl rfl rfl rfl rfl ?_ | refine aZ tabOk rfl rfl (nb rfl) rfl ?_ | refine aU tabOk rfl rfl rfl (nb rfl) rfl rfl rfl rfl rfl rfl ?_ | refine aV tabOk rfl rfl rfl (nb rfl) rfl rfl rfl rfl ?_ | refine aN tabOk rfl rfl rfl rfl rfl rfl rfl rfl rfl rfl rfl ?_ | refine aR tabOk rfl rfl rfl (nb rfl) rfl rfl rfl rfl (by first | assumption | omega) ?_ | refine aJ tabOk rfl rfl rfl (nb rfl) rfl rfl rfl rfl (by first | rfl | omega) (by first | omega | simp) ?_ | refine aC tabOk rfl rfl rfl (nb rfl) rfl rfl rfl (by assumption) ?_ | refine aC tabOk rfl rfl rfl (nb rfl) rfl rfl rfl (bS _ _ (by first | assumption | omega)) ?_ | refine aE rfl rfl rfl (nb rfl) rfl rfl (by omega) ?_ | ((fail_if_success (refine aG (b := true) rfl rfl rfl ?_)); (fail_if_success (refine aG (b := false) rfl rfl rfl ?_)); refine aW rfl rfl rfl (fun hq => ?_) (fun hq => ?_) <;> first | subst hq | (first | (simp only [sD, sE, sB, sC, sN, sM, sT, sF] at hq; try (exfalso; omega)) | skip)) | fail) | (refine bW ?_; first | refine bN ?_ | refine bT ?_ | refine aQ ?_ | refine bD ?_ | refine bU ?_ | refine bL ?_ | refine bK ?_ | refine aA (b := true) rfl (fun _ => ?_) nTf | refine aA (b := false) rfl nFt (fun _ => ?_) | refine bE ?_ | refine bC ?_ | refine bA mixed (by kernel_rfl) ?_ | refine aD mixed (by kernel_rfl) ?_ | (refine aA rfl (fun hq => ?_) (fun hq => ?_) <;> first | subst hq | (first | (simp only [sD, sE, sB, sC, sN, sM, sT, sF] at hq; try (exfalso; omega)) | skip)) | fail) | (refine bQ ?_; first | refine bZ ?_ | refine aK ?_ | refine aT ?_ | fail) | (refine bG ?_; first | refine bV ?_ | refine aH ?_ | refine aI (by decide) ?_ | refine aM ?_ | fail) | refine bR (bB (by kernel_rfl)) ?_ | fail)
    all_goals first
      | exact absurd rfl (by assumption)
      | (exfalso; omega)
      | (refine ⟨⟨(j + 1, .node k1 n1 a1 b1 ks1), hlt, (by rw [← e1]; exact hwk), (by rw [← e1]; exact hp), (by rw [← e1]; exact hR)⟩, (by show p.length - (j + 1) < p.length - j; omega), (cF (by repeat' first | exact trivial | refine ⟨rfl, ?_⟩) (by repeat' first | exact trivial | refine ⟨rfl, ?_⟩))⟩)
  · have ej : j = p.length := by omega
    subst ej
    rw [List.drop_length] at hR
    subst hR
    rw [atP]
    repeat' (first | refine bM ?_ | (refine bP ?_; first | refine aX tabOk rfl rfl rfl (nb rfl) rfl ?_ | refine bF rfl rfl (nb rfl) ?_ | (refine bO rfl rfl rfl (nb rfl) rfl rfl rfl (fun hq => ?_) (fun hq => ?_) <;> (first | (simp only [sD, sE, sB, sC, sN, sM, sT, sF] at hq; try (exfalso; omega)) | skip)) | refine aE rfl rfl rfl (nb rfl) rfl rfl (by omega) ?_ | refine bI rfl rfl rfl (nb rfl) rfl rfl rfl (by omega) (by omega) ?_ | refine bJ rfl rfl rfl (nb rfl) rfl rfl rfl (by omega) (by omega) ?_ | refine bH tabOk rfl rfl rfl (nb rfl) rfl rfl rfl rfl rfl rfl rfl rfl rfl ?_ | refine aZ tabOk rfl rfl (nb rfl) rfl ?_ | refine aU tabOk rfl rfl rfl (nb rfl) rfl rfl rfl rfl rfl rfl ?_ | refine aV tabOk rfl rfl rfl (nb rfl) rfl rfl rfl rfl ?_ | refine aN tabOk rfl rfl rfl rfl rfl rfl rfl rfl rfl rfl rfl ?_ | refine aR tabOk rfl rfl rfl (nb rfl) rfl rfl rfl rfl (by first | assumption | omega) ?_ | refine aJ tabOk rfl rfl rfl (nb rfl) rfl rfl rfl rfl (by first | rfl | omega) (by first | omega | simp) ?_ | refine aC tabOk rfl rfl rfl (nb rfl) rfl rfl rfl (by assumption) ?_ | refine aC tabOk rfl rfl rfl (nb rfl) rfl rfl rfl (bS _ _ (by first | assumption | omega)) ?_ | refine aE rfl rfl rfl (nb rfl) rfl rfl (by omega) ?_ | ((fail_if_success (refine aG (b := true) rfl rfl rfl ?_)); (fail_if_success (refine aG (b := false) rfl rfl rfl ?_)); refine aW rfl rfl rfl (fun hq => ?_) (fun hq => ?_) <;> first | subst hq | (first | (simp only [sD, sE, sB, sC, sN, sM, sT, sF] at hq; try (exfalso; omega)) | skip)) | fail) | (refine bW ?_; first | refine bN ?_ | refine bT ?_ | refine aQ ?_ | refine bD ?_ | refine bU ?_ | refine bL ?_ | refine bK ?_ | refine aA (b := true) rfl (fun _ => ?_) nTf | refine aA (b := false) rfl nFt (fun _ => ?_) | refine bE ?_ | refine bC ?_ | refine bA mixed (by kernel_rfl) ?_ | refine aD mixed (by kernel_rfl) ?_ | (refine aA rfl (fun hq => ?_) (fun hq => ?_) <;> first | subst hq | (first | (simp only [sD, sE, sB, sC, sN, sM, sT, sF] at hq; try (exfalso; omega)) | skip)) | fail) | (refine bQ ?_; first | refine bZ ?_ | refine aK ?_ | refine aT ?_ | fail) | (refine bG ?_; first | refine bV ?_ | refine aH ?_ | refine aI (by decide) ?_ | refine aM ?_ | fail) | refine bR (bB (by kernel_rfl)) ?_ | fail)
    all_goals first
      | exact absurd rfl (by assumption)
      | (exfalso; omega)
      | (refine cA (by first | exact .inl rfl | exact .inr rfl) (cC rfl (aY rfl) (aY rfl)) rfl ?_; rfl)
end Go.Proofs.Ytlbemgokilhdnaa.Ab
namespace Go.Proofs.Ytlbemgokilhdnaa.Ab
set_option linter.unusedVariables false
set_option linter.unusedSimpArgs false
open Go.RowKit
attribute [local irreducible] AWP AOps AExit AThen ABlock ANoGoto FeetOk
set_option maxHeartbeats 16000000 in
set_option maxRecDepth 10000 in
theorem vB (r : Tree) (hr : r.whole = true) : ∀ (p : List Nat) (t : Tree), t.whole = true → t.size ≤ 1000000 → okPath p t → p.length ≤ 1000000 → ACalls Try.prog 111 [.imm t.iv, .imm (pathIV p), .imm r.iv] [] (.imm (withP p t r).iv) []
  | [], t, hw, hs, hp, hl => by
    rw [withP]
    unfold pathIV
    refine bY Try.func111 rfl rfl (nb rfl) rfl ?_
    repeat' (first | refine bM ?_ | (refine bP ?_; first | refine aX tabOk rfl rfl rfl (nb rfl) rfl ?_ | refine bF rfl rfl (nb rfl) ?_ | (refine bO rfl rfl rfl (nb rfl) rfl rfl rfl (fun hq => ?_) (fun hq => ?_) <;> (first | (simp only [sD, sE, sB, sC, sN, sM, sT, sF] at hq; try (exfalso; omega)) | skip)) | refine aE rfl rfl rfl (nb rfl) rfl rfl (by omega) ?_ | refine bI rfl rfl rfl (nb rfl) rfl rfl rfl (by omega) (by omega) ?_ | refine bJ rfl rfl rfl (nb rfl) rfl rfl rfl (by omega) (by omega) ?_ | refine bH tabOk rfl rfl rfl (nb rfl) rfl rfl rfl rfl rfl rfl rfl rfl rfl ?_ | refine aZ tabOk rfl rfl (nb rfl) rfl ?_ | refine aU tabOk rfl rfl rfl (nb rfl) rfl rfl rfl rfl rfl rfl ?_ | refine aV tabOk rfl rfl rfl (nb rfl) rfl rfl rfl rfl ?_ | refine aN tabOk rfl rfl rfl rfl rfl rfl rfl rfl rfl rfl rfl ?_ | refine aR tabOk rfl rfl rfl (nb rfl) rfl rfl rfl rfl (by first | assumption | omega) ?_ | refine aJ tabOk rfl rfl rfl (nb rfl) rfl rfl rfl rfl (by first | rfl | omega) (by first | omega | simp) ?_ | refine aC tabOk rfl rfl rfl (nb rfl) rfl rfl rfl (by assumption) ?_ | refine aC tabOk rfl rfl rfl (nb rfl) rfl rfl rfl (bS _ _ (by first | assumption | omega)) ?_ | refine aE rfl rfl rfl (nb rfl) rfl rfl (by omega) ?_ | ((fail_if_success (refine aG (b := true) rfl rfl rfl ?_)); (fail_if_success (refine aG (b := false) rfl rfl rfl ?_)); refine aW rfl rfl rfl (fun hq => ?_) (fun hq => ?_) <;> first | subst hq | (first | (simp only [sD, sE, sB, sC, sN, sM, sT, sF] at hq; try (exfalso; omega)) | skip)) | fail) | (refine bW ?_; first | refine bN ?_ | refine bT ?_ | refine aQ ?_ | refine bD ?_ | refine bU ?_ | refine bL ?_ | refine bK ?_ | refine aA (b := true) rfl (fun _ => ?_) nTf | refine aA (b := false) rfl nFt (fun _ => ?_) | refine bE ?_ | refine bC ?_ | refine bA mixed (by kernel_rfl) ?_ | refine aD mixed (by kernel_rfl) ?_ | (refine aA rfl (fun hq => ?_) (fun hq => ?_) <;> first | subst hq | (first | (simp only [sD, sE, sB, sC, sN, sM, sT, sF] at hq; try (exfalso; omega)) | skip)) | fail) | (refine bQ ?_; first | refine bZ ?_ | refine aK ?_ | refine aT ?_ | fail) | (refine bG ?_; first | refine bV ?_ | refine aH ?_ | refine aI (by decide) ?_ | refine aM ?_ | fail) | refine bR (bB (by kernel_rfl)) ?_ | fail)
    all_goals first
      | exact absurd rfl (by assumption)
      | (exfalso; omega)
      | (refine cA (by first | exact .inl rfl | exact .inr rfl) (cB rfl (aY rfl)) rfl ?_; rfl)
  | _ :: _, .nil, hw, _, _, _ => by simp [Tree.whole] at hw
  | v :: p, .node k n a b kids, hw, hs, hp, hpl => by
    have hl := cI kids hw
    have hsz : (Tree.node k n a b kids).size = 1 + Tree.sizes kids := by rw [Tree.size]
    rw [hsz] at hs
    obtain ⟨hx, hp⟩ := hp
    rw [fN hx] at hp
    have hxm := List.getElem_mem hx
    have hxz := cT hxm
    rw [List.length_cons] at hpl
    have hc := vB r hr p kids[v] (cD hw hxm) (by omega) hp (by omega)
    have hfx := (nM r hr p kids[v] (cD hw hxm) hp).1
    rw [withP, fN hx]
    obtain ⟨X, hX⟩ : ∃ X, withP p kids[v] r = X := ⟨_, rfl⟩
    rw [hX] at hc hfx ⊢
    obtain ⟨pX, hpX⟩ := fR (fF hfx)
    obtain ⟨L, hL⟩ : ∃ L, kids.set v X = L := ⟨_, rfl⟩
    have hLl : L.length = kids.length := by rw [← hL, List.length_set]
    rw [hL]
    unfold pathIV at hc ⊢
    have hsl : IV.sl false ((v :: p).length - 1) ((((v :: p).map litI).drop (1 * 1)).take (((v :: p).length - 1) * 1)) = .sl false p.length (p.map litI) := by
      have e1 : (v :: p).length - 1 = p.length := rfl
      rw [e1]
      congr 1
      simp
      exact List.take_of_length_le (by simp)
    have h0 : ((v :: p).map litI)[0 * 1]? = some (.lit (.int .i64 (v : Int))) := rfl
    refine cS Try.func111 rfl rfl (nb rfl) rfl ?_
    refine cY (eW 31 (by simp) rfl rfl) ?_
    repeat' (first | refine bM ?_ | (refine bP ?_; first | refine aX tabOk rfl rfl rfl (nb rfl) rfl ?_ | refine bF rfl rfl (nb rfl) ?_ | (refine bO rfl rfl rfl (nb rfl) rfl rfl rfl (fun hq => ?_) (fun hq => ?_) <;> (first | (simp only [sD, sE, sB, sC, sN, sM, sT, sF] at hq; try (exfalso; omega)) | skip))| refine dG (d := 30) tabOk rfl rfl rfl (nb rfl) rfl rfl rfl rfl rfl ?_ | refine eC 31 (d := 31) rfl rfl rfl (nb rfl) rfl rfl rfl rfl rfl ?_ | refine aE rfl rfl rfl (nb rfl) rfl rfl (by omega) ?_ | refine bI rfl rfl rfl (nb rfl) rfl rfl rfl (by omega) (by omega) ?_ | refine bJ rfl rfl rfl (nb rfl) rfl rfl rfl (by omega) (by omega) ?_ | refine bH tabOk rfl rfl rfl (nb rfl) rfl rfl rfl rfl rfl rfl rfl rfl rfl ?_ | refine aZ tabOk rfl rfl (nb rfl) rfl ?_ | refine aU tabOk rfl rfl rfl (nb rfl) rfl rfl rfl rfl rfl rfl ?_ | refine aV tabOk rfl rfl rfl (nb rfl) rfl rfl rfl rfl ?_ | refine aN tabOk rfl rfl rfl rfl rfl rfl rfl rfl rfl rfl rfl ?_ | refine aR tabOk rfl rfl rfl (nb rfl) rfl rfl rfl rfl (by first | assumption | omega) ?_ | refine aJ tabOk rfl rfl rfl (nb rfl) rfl rfl rfl rfl (by first | rfl | omega) (by first | omega | simp) ?_ | refine aC tabOk rfl rfl rfl (nb rfl) rfl rfl rfl (by assumption) ?_ | refine aC tabOk rfl rfl rfl (nb rfl) rfl rfl rfl (bS _ _ (by first | assumption | omega)) ?_ | refine aE rfl rfl rfl (nb rfl) rfl rfl (by omega) ?_ | ((fail_if_success (refine aG (b := true) rfl rfl rfl ?_)); (fail_if_success (refine aG (b := false) rfl rfl rfl ?_)); refine aW rfl rfl rfl (fun hq => ?_) (fun hq => ?_) <;> first | subst hq | (first | (simp only [sD, sE, sB, sC, sN, sM, sT, sF] at hq; try (exfalso; omega)) | skip)) | fail) | (refine bW ?_; first | refine bN ?_ | refine bT ?_ | refine aQ ?_ | refine bD ?_ | refine bU ?_ | refine bL ?_ | refine bK ?_ | refine aA (b := true) rfl (fun _ => ?_) nTf | refine aA (b := false) rfl nFt (fun _ => ?_) | refine bE ?_ | refine bC ?_ | refine bA mixed (by kernel_rfl) ?_ | refine aD mixed (by kernel_rfl) ?_ | (refine aA rfl (fun hq => ?_) (fun hq => ?_) <;> first | subst hq | (first | (simp only [sD, sE, sB, sC, sN, sM, sT, sF] at hq; try (exfalso; omega)) | skip)) | fail) | (refine bQ ?_; first | refine bZ ?_ | refine aK ?_ | refine aT ?_ | fail) | (refine bG ?_; first | refine bV ?_ | refine aH ?_ | refine aI (by decide) ?_ | refine aM ?_ | fail) | refine bR (bB (by kernel_rfl)) ?_ | fail)
    all_goals first
      | exact absurd rfl (by assumption)
      | (exfalso; omega)
      | (exfalso; have hh : (((v :: p).length : Nat) : Int) = 0 := by assumption
         rw [List.length_cons] at hh; omega)
      | skip
    refine cY (dU (h0 := 31) (k0 := 4) 500 25 1 rfl rfl (by simp) rfl rfl) ?_
    refine cH (ι := {j : Nat // j ≤ kids.length}) (fun j => S.f ⟨[(8, .imm (.lit (.int .i64 (j.1 : Int)))), (7, .obj 31 0), (0, .imm (Tree.iv (.node k n a b kids))), (1, .imm (.sl false (v :: p).length ((v :: p).map litI))), (2, .imm r.iv)], [(500, .arr 25 1 j.1 (Tree.ivs (L.take j.1))), (31, .cells [.imm (.lit (.int .i64 k)), .imm (.lit (.int .i64 n)), .imm (.lit (.string a)), .imm (.lit (.string b)), .ref 500 j.1])]⟩) (fun j => kids.length - j.1) ⟨0, Nat.zero_le _⟩ (cF (by repeat' first | exact trivial | refine ⟨rfl, ?_⟩) (by repeat' first | exact trivial | refine ⟨rfl, ?_⟩)) ?_
    rintro ⟨j, hj⟩
    dsimp only
    by_cases hlt : j < kids.length
    · have hm := List.getElem_mem hlt
      have hz := cT hm
      have hwk := cD hw hm
      have hget := bS kids j hlt
      have hil := eH (L.take j)
      rw [List.length_take, hLl, Nat.min_eq_left hj] at hil
      have hlt2 : j < L.length := by omega
      have hnx : Tree.ivs (L.take (j + 1)) = Tree.ivs (L.take j) ++ [L[j].iv] := by
        rw [List.take_succ_eq_append_getElem hlt2, rM]
      by_cases hv : j = v
      · subst hv
        have e1 : L[j] = X := by simp only [← hL, List.getElem_set_self]
        rw [e1, hpX] at hnx
        rw [hpX] at hc
        clear hX e1 hL
        generalize Tree.ivs (L.take j) = ZI at *
        repeat' (first | refine bM ?_ | (refine bP ?_; first | refine aX tabOk rfl rfl rfl (nb rfl) rfl ?_ | refine bF rfl rfl (nb rfl) ?_ | (refine bO rfl rfl rfl (nb rfl) rfl rfl rfl (fun hq => ?_) (fun hq => ?_) <;> (first | (simp only [sD, sE, sB, sC, sN, sM, sT, sF] at hq; try (exfalso; omega)) | skip))| refine aC tabOk rfl rfl rfl (nb rfl) rfl rfl rfl hget ?_ | refine aJ (j := 0) tabOk rfl rfl rfl (nb rfl) rfl rfl rfl rfl rfl (Nat.succ_pos _) ?_ | refine aC tabOk rfl rfl rfl (nb rfl) rfl rfl rfl h0 ?_ | refine gG (l := 1) (h := (j :: p).length) tabOk rfl rfl rfl (nb rfl) rfl rfl rfl rfl rfl (Nat.succ_le_succ (Nat.zero_le _)) (Nat.le_refl _) hsl ?_ | refine bX rfl rfl (nb rfl) rfl rfl rfl rfl (hc) ?_ | refine dF tabOk rfl rfl rfl (nb rfl) rfl rfl rfl rfl rfl rfl rfl (by first | omega | decide) rfl (by first | omega | (dsimp only; omega)) (by first | omega | (dsimp only; omega)) ?_ | refine aE rfl rfl rfl (nb rfl) rfl rfl (by omega) ?_ | refine bI rfl rfl rfl (nb rfl) rfl rfl rfl (by omega) (by omega) ?_ | refine bJ rfl rfl rfl (nb rfl) rfl rfl rfl (by omega) (by omega) ?_ | refine bH tabOk rfl rfl rfl (nb rfl) rfl rfl rfl rfl rfl rfl rfl rfl rfl ?_ | refine aZ tabOk rfl rfl (nb rfl) rfl ?_ | refine aU tabOk rfl rfl rfl (nb rfl) rfl rfl rfl rfl rfl rfl ?_ | refine aV tabOk rfl rfl rfl (nb rfl) rfl rfl rfl rfl ?_ | refine aN tabOk rfl rfl rfl rfl rfl rfl rfl rfl rfl rfl rfl ?_ | refine aR tabOk rfl rfl rfl (nb rfl) rfl rfl rfl rfl (by first | assumption | omega) ?_ | refine aJ tabOk rfl rfl rfl (nb rfl) rfl rfl rfl rfl (by first | rfl | omega) (by first | omega | simp) ?_ | refine aC tabOk rfl rfl rfl (nb rfl) rfl rfl rfl (by assumption) ?_ | refine aC tabOk rfl rfl rfl (nb rfl) rfl rfl rfl (bS _ _ (by first | assumption | omega)) ?_ | refine aE rfl rfl rfl (nb rfl) rfl rfl (by omega) ?_ | ((fail_if_success (refine aG (b := true) rfl rfl rfl ?_)); (fail_if_success (refine aG (b := false) rfl rfl rfl ?_)); refine aW rfl rfl rfl (fun hq => ?_) (fun hq => ?_) <;> first | subst hq | (first | (simp only [sD, sE, sB, sC, sN, sM, sT, sF] at hq; try (exfalso; omega)) | skip)) | fail) | (refine bW ?_; first | refine bN ?_ | refine bT ?_ | refine aQ ?_ | refine bD ?_ | refine bU ?_ | refine bL ?_ | refine bK ?_ | refine aA (b := true) rfl (fun _ => ?_) nTf | refine aA (b := false) rfl nFt (fun _ => ?_) | refine bE ?_ | refine bC ?_ | refine bA mixed (by kernel_rfl) ?_ | refine aD mixed (by kernel_rfl) ?_ | (refine aA rfl (fun hq => ?_) (fun hq => ?_) <;> first | subst hq | (first | (simp only [sD, sE, sB, sC, sN, sM, sT, sF] at hq; try (exfalso; omega)) | skip)) | fail) | (refine bQ ?_; first | refine bZ ?_ | refine aK ?_ | refine aT ?_ | fail) | (refine bG ?_; first | refine bV ?_ | refine aH ?_ | refine aI (by decide) ?_ | refine aM ?_ | fail) | refine bR (bB (by kernel_rfl)) ?_ | fail)
        all_goals first
          | exact absurd rfl (by assumption)
          | (exfalso; omega)
          | (refine ⟨⟨j + 1, hlt⟩, (by show kids.length - (j + 1) < kids.length - j; omega), ?_⟩; dsimp only; rw [hnx]; exact (cF (by repeat' first | exact trivial | refine ⟨rfl, ?_⟩) (by repeat' first | exact trivial | refine ⟨rfl, ?_⟩)))
      · have e1 : L[j] = kids[j] := by simp only [← hL]; rw [List.getElem_set_ne (by omega)]
        obtain ⟨pc, hpc⟩ := fR (fF hwk)
        rw [e1, hpc] at hnx
        rw [hpc] at hget
        have hne : ¬ ((j : Int) = (v : Int)) := by omega
        clear hX e1 hL
        generalize Tree.ivs (L.take j) = ZI at *
        repeat' (first | refine bM ?_ | (refine bP ?_; first | refine aX tabOk rfl rfl rfl (nb rfl) rfl ?_ | refine bF rfl rfl (nb rfl) ?_ | (refine bO rfl rfl rfl (nb rfl) rfl rfl rfl (fun hq => ?_) (fun hq => ?_) <;> (first | (simp only [sD, sE, sB, sC, sN, sM, sT, sF] at hq; try (exfalso; omega)) | skip))| refine aC tabOk rfl rfl rfl (nb rfl) rfl rfl rfl hget ?_ | refine aJ (j := 0) tabOk rfl rfl rfl (nb rfl) rfl rfl rfl rfl rfl (Nat.succ_pos _) ?_ | refine aC tabOk rfl rfl rfl (nb rfl) rfl rfl rfl h0 ?_ | refine dF tabOk rfl rfl rfl (nb rfl) rfl rfl rfl rfl rfl rfl rfl (by first | omega | decide) rfl (by first | omega | (dsimp only; omega)) (by first | omega | (dsimp only; omega)) ?_ | refine aE rfl rfl rfl (nb rfl) rfl rfl (by omega) ?_ | refine bI rfl rfl rfl (nb rfl) rfl rfl rfl (by omega) (by omega) ?_ | refine bJ rfl rfl rfl (nb rfl) rfl rfl rfl (by omega) (by omega) ?_ | refine bH tabOk rfl rfl rfl (nb rfl) rfl rfl rfl rfl rfl rfl rfl rfl rfl ?_ | refine aZ tabOk rfl rfl (nb rfl) rfl ?_ | refine aU tabOk rfl rfl rfl (nb rfl) rfl rfl rfl rfl rfl rfl ?_ | refine aV tabOk rfl rfl rfl (nb rfl) rfl rfl rfl rfl ?_ | refine aN tabOk rfl rfl rfl rfl rfl rfl rfl rfl rfl rfl rfl ?_ | refine aR tabOk rfl rfl rfl (nb rfl) rfl rfl rfl rfl (by first | assumption | omega) ?_ | refine aJ tabOk rfl rfl rfl (nb rfl) rfl rfl rfl rfl (by first | rfl | omega) (by first | omega | simp) ?_ | refine aC tabOk rfl rfl rfl (nb rfl) rfl rfl rfl (by assumption) ?_ | refine aC tabOk rfl rfl rfl (nb rfl) rfl rfl rfl (bS _ _ (by first | assumption | omega)) ?_ | refine aE rfl rfl rfl (nb rfl) rfl rfl (by omega) ?_ | ((fail_if_success (refine aG (b := true) rfl rfl rfl ?_)); (fail_if_success (refine aG (b := false) rfl rfl rfl ?_)); refine aW rfl rfl rfl (fun hq => ?_) (fun hq => ?_) <;> first | subst hq | (first | (simp only [sD, sE, sB, sC, sN, sM, sT, sF] at hq; try (exfalso; omega)) | skip)) | fail) | (refine bW ?_; first | refine bN ?_ | refine bT ?_ | refine aQ ?_ | refine bD ?_ | refine bU ?_ | refine bL ?_ | refine bK ?_ | refine aA (b := true) rfl (fun _ => ?_) nTf | refine aA (b := false) rfl nFt (fun _ => ?_) | refine bE ?_ | refine bC ?_ | refine bA mixed (by kernel_rfl) ?_ | refine aD mixed (by kernel_rfl) ?_ | (refine aA rfl (fun hq => ?_) (fun hq => ?_) <;> first | subst hq | (first | (simp only [sD, sE, sB, sC, sN, sM, sT, sF] at hq; try (exfalso; omega)) | skip)) | fail) | (refine bQ ?_; first | refine bZ ?_ | refine aK ?_ | refine aT ?_ | fail) | (refine bG ?_; first | refine bV ?_ | refine aH ?_ | refine aI (by decide) ?_ | refine aM ?_ | fail) | refine bR (bB (by kernel_rfl)) ?_ | fail)
        all_goals first
          | exact absurd (by assumption) hne
          | (exfalso; omega)
          | (refine ⟨⟨j + 1, hlt⟩, (by show kids.length - (j + 1) < kids.length - j; omega), ?_⟩; dsimp only; rw [hnx]; exact (cF (by repeat' first | exact trivial | refine ⟨rfl, ?_⟩) (by repeat' first | exact trivial | refine ⟨rfl, ?_⟩)))
    · have ej : j = kids.length := by omega
      subst ej
      have et : L.take kids.length = L := by rw [← hLl, List.take_length]
      rw [et]
      have hiv : (Tree.node k n a b L).iv = .ptr [.lit (.int .i64 k), .lit (.int .i64 n), .lit (.string a), .lit (.string b), .sl false kids.length (Tree.ivs L)] 0 := by rw [Tree.iv, hLl]
      rw [hiv]
      clear hL hX
      generalize Tree.ivs L = ZI at *
      repeat' (first | refine bM ?_ | (refine bP ?_; first | refine aX tabOk rfl rfl rfl (nb rfl) rfl ?_ | refine bF rfl rfl (nb rfl) ?_ | (refine bO rfl rfl rfl (nb rfl) rfl rfl rfl (fun hq => ?_) (fun hq => ?_) <;> (first | (simp only [sD, sE, sB, sC, sN, sM, sT, sF] at hq; try (exfalso; omega)) | skip)) | refine aE rfl rfl rfl (nb rfl) rfl rfl (by omega) ?_ | refine bI rfl rfl rfl (nb rfl) rfl rfl rfl (by omega) (by omega) ?_ | refine bJ rfl rfl rfl (nb rfl) rfl rfl rfl (by omega) (by omega) ?_ | refine bH tabOk rfl rfl rfl (nb rfl) rfl rfl rfl rfl rfl rfl rfl rfl rfl ?_ | refine aZ tabOk rfl rfl (nb rfl) rfl ?_ | refine aU tabOk rfl rfl rfl (nb rfl) rfl rfl rfl rfl rfl rfl ?_ | refine aV tabOk rfl rfl rfl (nb rfl) rfl rfl rfl rfl ?_ | refine aN tabOk rfl rfl rfl rfl rfl rfl rfl rfl rfl rfl rfl ?_ | refine aR tabOk rfl rfl rfl (nb rfl) rfl rfl rfl rfl (by first | assumption | omega) ?_ | refine aJ tabOk rfl rfl rfl (nb rfl) rfl rfl rfl rfl (by first | rfl | omega) (by first | omega | simp) ?_ | refine aC tabOk rfl rfl rfl (nb rfl) rfl rfl rfl (by assumption) ?_ | refine aC tabOk rfl rfl rfl (nb rfl) rfl rfl rfl (bS _ _ (by first | assumption | omega)) ?_ | refine aE rfl rfl rfl (nb rfl) rfl rfl (by omega) ?_ | ((fail_if_success (refine aG (b := true) rfl rfl rfl ?_)); (fail_if_success (refine aG (b := false) rfl rfl rfl ?_)); refine aW rfl rfl rfl (fun hq => ?_) (fun hq => ?_) <;> first | subst hq | (first | (simp only [sD, sE, sB, sC, sN, sM, sT, sF] at hq; try (exfalso; omega)) | skip)) | fail) | (refine bW ?_; first | refine bN ?_ | refine bT ?_ | refine aQ ?_ | refine bD ?_ | refine bU ?_ | refine bL ?_ | refine bK ?_ | refine aA (b := true) rfl (fun _ => ?_) nTf | refine aA (b := false) rfl nFt (fun _ => ?_) | refine bE ?_ | refine bC ?_ | refine bA mixed (by kernel_rfl) ?_ | refine aD mixed (by kernel_rfl) ?_ | (refine aA rfl (fun hq => ?_) (fun hq => ?_) <;> first | subst hq | (first | (simp only [sD, sE, sB, sC, sN, sM, sT, sF] at hq; try (exfalso; omega)) | skip)) | fail) | (refine bQ ?_; first | refine bZ ?_ | refine aK ?_ | refine aT ?_ | fail) | (refine bG ?_; first | refine bV ?_ | refine aH ?_ | refine aI (by decide) ?_ | refine aM ?_ | fail) | refine bR (bB (by kernel_rfl)) ?_ | fail)
      all_goals first
        | (exfalso; omega)
        | (refine dR ((Imp.of_le (σ' := S.f ⟨[(6, .obj 31 0)], [(500, .arr 25 1 kids.length ZI), (31, .cells [.imm (.lit (.int .i64 k)), .imm (.lit (.int .i64 n)), .imm (.lit (.string a)), .imm (.lit (.string b)), .ref 500 kids.length])]⟩) (cF (by repeat' first | exact trivial | refine ⟨rfl, ?_⟩) (by repeat' first | exact trivial | refine ⟨rfl, ?_⟩))).trans ((cW (g := 500) rfl (by repeat' first | exact trivial | exact fun _ => rfl | refine ⟨?_, ?_⟩) (by repeat' first | exact trivial | exact fun _ => rfl | refine ⟨?_, ?_⟩)).trans (dE (g := 31) rfl rfl))) ?_
           refine cA (by first | exact .inl rfl | exact .inr rfl) (cB rfl (aY rfl)) rfl ?_; rfl)
end Go.Proofs.Ytlbemgokilhdnaa.Ab
