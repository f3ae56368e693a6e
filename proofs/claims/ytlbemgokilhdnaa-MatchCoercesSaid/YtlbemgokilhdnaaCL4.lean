/- Words, walks and laws under the claim's statement: what it uses of them. No condition of its own. -/
import Derived.Test.YtlbemgokilhdnaaCL3
namespace Go.Proofs.Ytlbemgokilhdnaa.Ab
set_option linter.unusedVariables false
set_option linter.unusedSimpArgs false
open Go.RowKit
attribute [local irreducible] AWP AOps AExit AThen ABlock ANoGoto FeetOk
set_option maxHeartbeats 16000000 in
set_option maxRecDepth 10000 in
theorem uM (t : Tree) : t.whole = true → t.size ≤ 1000000 → ACalls Try.prog 97 [.imm t.iv] [] (.imm (.lit (.bool (isConP t)))) [] := by
  induction t using Tree.sind with
  | h t ih =>
    intro h hs
    obtain ⟨k, n, a, b, kids, rfl⟩ := cL h
    have hl : kids.length < 1000000000 := by have := cA kids h; simp only [Tree.size] at hs; omega
    have hc : ∀ t', t'.size < (Tree.node k n a b kids).size → t'.whole = true → ACalls Try.prog 97 [.imm t'.iv] [] (.imm (.lit (.bool (isConP t')))) [] := fun t' h1 h2 => ih t' h1 h2 (by omega)
    have hc2 : ∀ t', t'.size < Tree.sizes kids → t'.whole = true → ACalls Try.prog 97 [.imm t'.iv] [] (.imm (.lit (.bool (isConP t')))) [] := fun t' h1 h2 => hc t' (by simp only [Tree.size]; omega) h2
    have e1 : labelsB kids 116 true = (namedPs kids 116 && risingP kids) := by unfold labelsB pairsP; rw [if_pos rfl]
    have e2 : labelsB kids 122 false = (namedPs kids 122 && distinctP kids) := by unfold labelsB pairsP; rw [if_neg (by simp)]
    have cl1 := pJ kids 116 true h hl hc2
    have cl2 := pJ kids 122 false h hl hc2
    rw [e1] at cl1
    rw [e2] at cl2
    refine bR Try.func97 rfl rfl (nb rfl) rfl ?_
    repeat' (first | refine bG ?_ | (refine bJ ?_; first | refine aR tabOk rfl rfl rfl (nb rfl) rfl ?_ | refine aZ rfl rfl (nb rfl) ?_ | (refine bI rfl rfl rfl (nb rfl) rfl rfl rfl (fun hq => ?_) (fun hq => ?_) <;> (first | (simp only [sD, sE, sB, sC, sN, sM, sT, sF] at hq; try (exfalso; omega)) | skip))| (refine bW rfl rfl rfl (nb rfl) rfl rfl rfl (lR _ _ _ _ _ _) (fun hq => ?_) (fun hq => ?_)) | (refine bW rfl rfl rfl (nb rfl) rfl rfl rfl (cl1) (fun hq => ?_) (fun hq => ?_)) | (refine bW rfl rfl rfl (nb rfl) rfl rfl rfl (cl2) (fun hq => ?_) (fun hq => ?_)) | (refine bW rfl rfl rfl (nb rfl) rfl rfl rfl (rE _ (bY h (List.getElem_mem _))) (fun hq => ?_) (fun hq => ?_)) | (refine bW rfl rfl rfl (nb rfl) rfl rfl rfl (hc _ (cH (List.getElem_mem _)) (bY h (List.getElem_mem _))) (fun hq => ?_) (fun hq => ?_)) | refine aD rfl rfl rfl (nb rfl) rfl rfl (by omega) ?_ | refine bC rfl rfl rfl (nb rfl) rfl rfl rfl (by omega) (by omega) ?_ | refine bD rfl rfl rfl (nb rfl) rfl rfl rfl (by omega) (by omega) ?_ | refine bB tabOk rfl rfl rfl (nb rfl) rfl rfl rfl rfl rfl rfl rfl rfl rfl ?_ | refine aT tabOk rfl rfl (nb rfl) rfl ?_ | refine aN tabOk rfl rfl rfl (nb rfl) rfl rfl rfl rfl rfl rfl ?_ | refine aO tabOk rfl rfl rfl (nb rfl) rfl rfl rfl rfl ?_ | refine aK tabOk rfl rfl rfl rfl rfl rfl rfl rfl rfl rfl rfl ?_ | refine aP tabOk rfl rfl rfl (nb rfl) rfl rfl rfl rfl (by first | assumption | omega) ?_ | refine aH tabOk rfl rfl rfl (nb rfl) rfl rfl rfl rfl (by first | rfl | omega) (by first | omega | simp) ?_ | refine aB tabOk rfl rfl rfl (nb rfl) rfl rfl rfl (by assumption) ?_ | refine aB tabOk rfl rfl rfl (nb rfl) rfl rfl rfl (bM _ _ (by first | assumption | omega)) ?_ | refine aD rfl rfl rfl (nb rfl) rfl rfl (by omega) ?_ | ((fail_if_success (refine aE (b := true) rfl rfl rfl ?_)); (fail_if_success (refine aE (b := false) rfl rfl rfl ?_)); refine aQ rfl rfl rfl (fun hq => ?_) (fun hq => ?_) <;> first | subst hq | (first | (simp only [sD, sE, sB, sC, sN, sM, sT, sF] at hq; try (exfalso; omega)) | skip)) | fail) | (refine bQ ?_; first | refine bH ?_ | refine bN ?_ | refine aL ?_ | refine aX ?_ | refine bO ?_ | refine bF ?_ | refine bE ?_ | refine aA (b := true) rfl (fun _ => ?_) nTf | refine aA (b := false) rfl nFt (fun _ => ?_) | refine aY ?_ | refine aW ?_ | refine aU mixed (by kernel_rfl) ?_ | refine aC mixed (by kernel_rfl) ?_ | (refine aA rfl (fun hq => ?_) (fun hq => ?_) <;> first | subst hq | (first | (simp only [sD, sE, sB, sC, sN, sM, sT, sF] at hq; try (exfalso; omega)) | skip)) | fail) | (refine bK ?_; first | refine bT ?_ | refine aI ?_ | refine aM ?_ | fail) | (refine bA ?_; first | refine bP ?_ | refine aF ?_ | refine aG (by decide) ?_ | refine aJ ?_ | fail) | refine bL (aV (by kernel_rfl)) ?_ | fail)
    all_goals (refine bV (by first | exact .inl rfl | exact .inr rfl) (bU rfl (aS rfl)) rfl ?_; refine cE ?_; clear cl1 cl2 hc hc2 ih e1 e2; by_cases h2 : kids.length = 2 <;> first | (obtain ⟨x, y, rfl⟩ := two h2; simp_all [isConP, isCons, isCon2, bareP, eqB, emptyB]; done) | (exfalso; omega) | (simp_all [isConP, fP, bareP, eqB, emptyB]; done) | (simp_all [isConP, fP, bareP, eqB, emptyB]; omega) | (rw [isConP]; cases hk : (k == 110) <;> simp_all [bareP, eqB, emptyB]; done))
end Go.Proofs.Ytlbemgokilhdnaa.Ab
namespace Go.Proofs.Ytlbemgokilhdnaa.Ab
set_option linter.unusedVariables false
set_option linter.unusedSimpArgs false
open Go.RowKit
attribute [local irreducible] AWP AOps AExit AThen ABlock ANoGoto FeetOk
theorem kM (l : List Tree) (j : Nat) (h : j < l.length) : Tree.sizes (l.take (j + 1)) = Tree.sizes (l.take j) + l[j].size := by
  have app : ∀ a b : List Tree, Tree.sizes (a ++ b) = Tree.sizes a + Tree.sizes b := by
    intro a b
    induction a with
    | nil => simp [Tree.sizes]
    | cons x a ih => rw [List.cons_append, Tree.sizes, Tree.sizes, ih]; omega
  rw [List.take_succ_eq_append_getElem h, app]
  simp [Tree.sizes]
theorem mH (l : List Tree) (j : Nat) : Tree.sizes (l.take j) ≤ Tree.sizes l := by
  induction l generalizing j with
  | nil => simp
  | cons x l ih =>
    cases j with
    | zero => simp [Tree.sizes]
    | succ j => rw [List.take_succ_cons, Tree.sizes, Tree.sizes]; have := ih j; omega
set_option maxHeartbeats 8000000 in
set_option maxRecDepth 10000 in
theorem uN (t : Tree) : t.whole = true → ∀ left : Nat, t.size ≤ left → left ≤ 1000000 → ACalls Try.prog 96 [.imm t.iv, .imm (.lit (.int .i64 (left : Int)))] [] (.imm (.tup [.lit (.int .i64 ((left - t.size : Nat) : Int)), .lit (.int .i64 0)])) [] := by
  induction t using Tree.sind with
  | h t ih =>
    intro h left hs hle
    obtain ⟨k, n, a, b, kids, rfl⟩ := cL h
    have hsz : (Tree.node k n a b kids).size = 1 + Tree.sizes kids := rfl
    have hl : kids.length ≤ Tree.sizes kids := cA kids h
    refine bR Try.func96 rfl rfl (nb rfl) rfl ?_
    repeat' (first | refine bG ?_ | (refine bJ ?_; first | refine aR tabOk rfl rfl rfl (nb rfl) rfl ?_ | refine aZ rfl rfl (nb rfl) ?_ | (refine bI rfl rfl rfl (nb rfl) rfl rfl rfl (fun hq => ?_) (fun hq => ?_) <;> (first | (simp only [sD, sE, sB, sC, sN, sM, sT, sF] at hq; try (exfalso; omega)) | skip))| refine bD (z := ((left - 1 : Nat) : Int)) rfl rfl rfl (nb rfl) rfl rfl (by omega) (by omega) (by omega) ?_ | refine aD rfl rfl rfl (nb rfl) rfl rfl (by omega) ?_ | refine bC rfl rfl rfl (nb rfl) rfl rfl rfl (by omega) (by omega) ?_ | refine bD rfl rfl rfl (nb rfl) rfl rfl rfl (by omega) (by omega) ?_ | refine bB tabOk rfl rfl rfl (nb rfl) rfl rfl rfl rfl rfl rfl rfl rfl rfl ?_ | refine aT tabOk rfl rfl (nb rfl) rfl ?_ | refine aN tabOk rfl rfl rfl (nb rfl) rfl rfl rfl rfl rfl rfl ?_ | refine aO tabOk rfl rfl rfl (nb rfl) rfl rfl rfl rfl ?_ | refine aK tabOk rfl rfl rfl rfl rfl rfl rfl rfl rfl rfl rfl ?_ | refine aP tabOk rfl rfl rfl (nb rfl) rfl rfl rfl rfl (by first | assumption | omega) ?_ | refine aH tabOk rfl rfl rfl (nb rfl) rfl rfl rfl rfl (by first | rfl | omega) (by first | omega | simp) ?_ | refine aB tabOk rfl rfl rfl (nb rfl) rfl rfl rfl (by assumption) ?_ | refine aB tabOk rfl rfl rfl (nb rfl) rfl rfl rfl (bM _ _ (by first | assumption | omega)) ?_ | refine aD rfl rfl rfl (nb rfl) rfl rfl (by omega) ?_ | ((fail_if_success (refine aE (b := true) rfl rfl rfl ?_)); (fail_if_success (refine aE (b := false) rfl rfl rfl ?_)); refine aQ rfl rfl rfl (fun hq => ?_) (fun hq => ?_) <;> first | subst hq | (first | (simp only [sD, sE, sB, sC, sN, sM, sT, sF] at hq; try (exfalso; omega)) | skip)) | fail) | (refine bQ ?_; first | refine bH ?_ | refine bN ?_ | refine aL ?_ | refine aX ?_ | refine bO ?_ | refine bF ?_ | refine bE ?_ | refine aA (b := true) rfl (fun _ => ?_) nTf | refine aA (b := false) rfl nFt (fun _ => ?_) | refine aY ?_ | refine aW ?_ | refine aU mixed (by kernel_rfl) ?_ | refine aC mixed (by kernel_rfl) ?_ | (refine aA rfl (fun hq => ?_) (fun hq => ?_) <;> first | subst hq | (first | (simp only [sD, sE, sB, sC, sN, sM, sT, sF] at hq; try (exfalso; omega)) | skip)) | fail) | (refine bK ?_; first | refine bT ?_ | refine aI ?_ | refine aM ?_ | fail) | (refine bA ?_; first | refine bP ?_ | refine aF ?_ | refine aG (by decide) ?_ | refine aJ ?_ | fail) | refine bL (aV (by kernel_rfl)) ?_ | fail)
    all_goals first | (exfalso; omega) | skip
    refine cJ (ι := {j : Nat // j ≤ kids.length}) (fun j => S.f ⟨[(6, .imm (.lit (.int .i64 (j.1 : Int)))), (1, .imm (.lit (.int .i64 ((left - 1 - Tree.sizes (kids.take j.1) : Nat) : Int)))), (0, .imm (Tree.iv (.node k n a b kids)))], []⟩) (fun j => kids.length - j.1) ⟨0, Nat.zero_le _⟩ (cB (by repeat' first | exact trivial | refine ⟨rfl, ?_⟩) (by repeat' first | exact trivial | refine ⟨rfl, ?_⟩)) ?_
    rintro ⟨j, hj⟩
    dsimp only
    by_cases hlt : j < kids.length
    · have hst := kM kids j hlt
      have htl := mH kids (j + 1)
      have hmem := List.getElem_mem hlt
      have hiv := bM kids j hlt
      have c1 := ih kids[j] (cH hmem) (bY h hmem) (left - 1 - Tree.sizes (kids.take j)) (by omega) (by omega)
      have e : left - 1 - Tree.sizes (kids.take j) - kids[j].size = left - 1 - Tree.sizes (kids.take (j + 1)) := by omega
      rw [e] at c1
      obtain ⟨k1, n1, a1, b1, ks1, e1⟩ := cL (bY h hmem)
      rw [e1] at hiv c1
      repeat' (first | refine bG ?_ | (refine bJ ?_; first | refine aR tabOk rfl rfl rfl (nb rfl) rfl ?_ | refine aZ rfl rfl (nb rfl) ?_ | (refine bI rfl rfl rfl (nb rfl) rfl rfl rfl (fun hq => ?_) (fun hq => ?_) <;> (first | (simp only [sD, sE, sB, sC, sN, sM, sT, sF] at hq; try (exfalso; omega)) | skip))| refine aB tabOk rfl rfl rfl (nb rfl) rfl rfl rfl hiv ?_ | refine bS rfl rfl (nb rfl) rfl rfl rfl rfl (c1) ?_ | refine aD rfl rfl rfl (nb rfl) rfl rfl (by omega) ?_ | refine bC rfl rfl rfl (nb rfl) rfl rfl rfl (by omega) (by omega) ?_ | refine bD rfl rfl rfl (nb rfl) rfl rfl rfl (by omega) (by omega) ?_ | refine bB tabOk rfl rfl rfl (nb rfl) rfl rfl rfl rfl rfl rfl rfl rfl rfl ?_ | refine aT tabOk rfl rfl (nb rfl) rfl ?_ | refine aN tabOk rfl rfl rfl (nb rfl) rfl rfl rfl rfl rfl rfl ?_ | refine aO tabOk rfl rfl rfl (nb rfl) rfl rfl rfl rfl ?_ | refine aK tabOk rfl rfl rfl rfl rfl rfl rfl rfl rfl rfl rfl ?_ | refine aP tabOk rfl rfl rfl (nb rfl) rfl rfl rfl rfl (by first | assumption | omega) ?_ | refine aH tabOk rfl rfl rfl (nb rfl) rfl rfl rfl rfl (by first | rfl | omega) (by first | omega | simp) ?_ | refine aB tabOk rfl rfl rfl (nb rfl) rfl rfl rfl (by assumption) ?_ | refine aB tabOk rfl rfl rfl (nb rfl) rfl rfl rfl (bM _ _ (by first | assumption | omega)) ?_ | refine aD rfl rfl rfl (nb rfl) rfl rfl (by omega) ?_ | ((fail_if_success (refine aE (b := true) rfl rfl rfl ?_)); (fail_if_success (refine aE (b := false) rfl rfl rfl ?_)); refine aQ rfl rfl rfl (fun hq => ?_) (fun hq => ?_) <;> first | subst hq | (first | (simp only [sD, sE, sB, sC, sN, sM, sT, sF] at hq; try (exfalso; omega)) | skip)) | fail) | (refine bQ ?_; first | refine bH ?_ | refine bN ?_ | refine aL ?_ | refine aX ?_ | refine bO ?_ | refine bF ?_ | refine bE ?_ | refine aA (b := true) rfl (fun _ => ?_) nTf | refine aA (b := false) rfl nFt (fun _ => ?_) | refine aY ?_ | refine aW ?_ | refine aU mixed (by kernel_rfl) ?_ | refine aC mixed (by kernel_rfl) ?_ | (refine aA rfl (fun hq => ?_) (fun hq => ?_) <;> first | subst hq | (first | (simp only [sD, sE, sB, sC, sN, sM, sT, sF] at hq; try (exfalso; omega)) | skip)) | fail) | (refine bK ?_; first | refine bT ?_ | refine aI ?_ | refine aM ?_ | fail) | (refine bA ?_; first | refine bP ?_ | refine aF ?_ | refine aG (by decide) ?_ | refine aJ ?_ | fail) | refine bL (aV (by kernel_rfl)) ?_ | fail)
      all_goals first
        | (exfalso; omega)
        | exact absurd rfl (by assumption)
        | exact ⟨⟨j + 1, hlt⟩, (by show kids.length - (j + 1) < kids.length - j; omega), (cB (by repeat' first | exact trivial | refine ⟨rfl, ?_⟩) (by repeat' first | exact trivial | refine ⟨rfl, ?_⟩))⟩
    · have ej : j = kids.length := by omega
      subst ej
      rw [List.take_length]
      have e : left - (Tree.node k n a b kids).size = left - 1 - Tree.sizes kids := by omega
      rw [e]
      repeat' (first | refine bG ?_ | (refine bJ ?_; first | refine aR tabOk rfl rfl rfl (nb rfl) rfl ?_ | refine aZ rfl rfl (nb rfl) ?_ | (refine bI rfl rfl rfl (nb rfl) rfl rfl rfl (fun hq => ?_) (fun hq => ?_) <;> (first | (simp only [sD, sE, sB, sC, sN, sM, sT, sF] at hq; try (exfalso; omega)) | skip)) | refine aD rfl rfl rfl (nb rfl) rfl rfl (by omega) ?_ | refine bC rfl rfl rfl (nb rfl) rfl rfl rfl (by omega) (by omega) ?_ | refine bD rfl rfl rfl (nb rfl) rfl rfl rfl (by omega) (by omega) ?_ | refine bB tabOk rfl rfl rfl (nb rfl) rfl rfl rfl rfl rfl rfl rfl rfl rfl ?_ | refine aT tabOk rfl rfl (nb rfl) rfl ?_ | refine aN tabOk rfl rfl rfl (nb rfl) rfl rfl rfl rfl rfl rfl ?_ | refine aO tabOk rfl rfl rfl (nb rfl) rfl rfl rfl rfl ?_ | refine aK tabOk rfl rfl rfl rfl rfl rfl rfl rfl rfl rfl rfl ?_ | refine aP tabOk rfl rfl rfl (nb rfl) rfl rfl rfl rfl (by first | assumption | omega) ?_ | refine aH tabOk rfl rfl rfl (nb rfl) rfl rfl rfl rfl (by first | rfl | omega) (by first | omega | simp) ?_ | refine aB tabOk rfl rfl rfl (nb rfl) rfl rfl rfl (by assumption) ?_ | refine aB tabOk rfl rfl rfl (nb rfl) rfl rfl rfl (bM _ _ (by first | assumption | omega)) ?_ | refine aD rfl rfl rfl (nb rfl) rfl rfl (by omega) ?_ | ((fail_if_success (refine aE (b := true) rfl rfl rfl ?_)); (fail_if_success (refine aE (b := false) rfl rfl rfl ?_)); refine aQ rfl rfl rfl (fun hq => ?_) (fun hq => ?_) <;> first | subst hq | (first | (simp only [sD, sE, sB, sC, sN, sM, sT, sF] at hq; try (exfalso; omega)) | skip)) | fail) | (refine bQ ?_; first | refine bH ?_ | refine bN ?_ | refine aL ?_ | refine aX ?_ | refine bO ?_ | refine bF ?_ | refine bE ?_ | refine aA (b := true) rfl (fun _ => ?_) nTf | refine aA (b := false) rfl nFt (fun _ => ?_) | refine aY ?_ | refine aW ?_ | refine aU mixed (by kernel_rfl) ?_ | refine aC mixed (by kernel_rfl) ?_ | (refine aA rfl (fun hq => ?_) (fun hq => ?_) <;> first | subst hq | (first | (simp only [sD, sE, sB, sC, sN, sM, sT, sF] at hq; try (exfalso; omega)) | skip)) | fail) | (refine bK ?_; first | refine bT ?_ | refine aI ?_ | refine aM ?_ | fail) | (refine bA ?_; first | refine bP ?_ | refine aF ?_ | refine aG (by decide) ?_ | refine aJ ?_ | fail) | refine bL (aV (by kernel_rfl)) ?_ | fail)
      all_goals first
        | (exfalso; omega)
        | (refine bV (by first | exact .inl rfl | exact .inr rfl) (bX rfl (aS rfl) (aS rfl)) rfl ?_; rfl)
set_option maxHeartbeats 4000000 in
set_option maxRecDepth 10000 in
theorem qT (left : Int) : ACalls Try.prog 96 [.imm (Tree.iv .nil), .imm (.lit (.int .i64 left))] [] (.imm (.tup [.lit (.int .i64 left), .lit (.int .i64 1)])) [] := by
  refine bR Try.func96 rfl rfl (nb rfl) rfl ?_
  repeat' (first | refine bG ?_ | (refine bJ ?_; first | refine aR tabOk rfl rfl rfl (nb rfl) rfl ?_ | refine aZ rfl rfl (nb rfl) ?_ | (refine bI rfl rfl rfl (nb rfl) rfl rfl rfl (fun hq => ?_) (fun hq => ?_) <;> (first | (simp only [sD, sE, sB, sC, sN, sM, sT, sF] at hq; try (exfalso; omega)) | skip)) | refine aD rfl rfl rfl (nb rfl) rfl rfl (by omega) ?_ | refine bC rfl rfl rfl (nb rfl) rfl rfl rfl (by omega) (by omega) ?_ | refine bD rfl rfl rfl (nb rfl) rfl rfl rfl (by omega) (by omega) ?_ | refine bB tabOk rfl rfl rfl (nb rfl) rfl rfl rfl rfl rfl rfl rfl rfl rfl ?_ | refine aT tabOk rfl rfl (nb rfl) rfl ?_ | refine aN tabOk rfl rfl rfl (nb rfl) rfl rfl rfl rfl rfl rfl ?_ | refine aO tabOk rfl rfl rfl (nb rfl) rfl rfl rfl rfl ?_ | refine aK tabOk rfl rfl rfl rfl rfl rfl rfl rfl rfl rfl rfl ?_ | refine aP tabOk rfl rfl rfl (nb rfl) rfl rfl rfl rfl (by first | assumption | omega) ?_ | refine aH tabOk rfl rfl rfl (nb rfl) rfl rfl rfl rfl (by first | rfl | omega) (by first | omega | simp) ?_ | refine aB tabOk rfl rfl rfl (nb rfl) rfl rfl rfl (by assumption) ?_ | refine aB tabOk rfl rfl rfl (nb rfl) rfl rfl rfl (bM _ _ (by first | assumption | omega)) ?_ | refine aD rfl rfl rfl (nb rfl) rfl rfl (by omega) ?_ | ((fail_if_success (refine aE (b := true) rfl rfl rfl ?_)); (fail_if_success (refine aE (b := false) rfl rfl rfl ?_)); refine aQ rfl rfl rfl (fun hq => ?_) (fun hq => ?_) <;> first | subst hq | (first | (simp only [sD, sE, sB, sC, sN, sM, sT, sF] at hq; try (exfalso; omega)) | skip)) | fail) | (refine bQ ?_; first | refine bH ?_ | refine bN ?_ | refine aL ?_ | refine aX ?_ | refine bO ?_ | refine bF ?_ | refine bE ?_ | refine aA (b := true) rfl (fun _ => ?_) nTf | refine aA (b := false) rfl nFt (fun _ => ?_) | refine aY ?_ | refine aW ?_ | refine aU mixed (by kernel_rfl) ?_ | refine aC mixed (by kernel_rfl) ?_ | (refine aA rfl (fun hq => ?_) (fun hq => ?_) <;> first | subst hq | (first | (simp only [sD, sE, sB, sC, sN, sM, sT, sF] at hq; try (exfalso; omega)) | skip)) | fail) | (refine bK ?_; first | refine bT ?_ | refine aI ?_ | refine aM ?_ | fail) | (refine bA ?_; first | refine bP ?_ | refine aF ?_ | refine aG (by decide) ?_ | refine aJ ?_ | fail) | refine bL (aV (by kernel_rfl)) ?_ | fail)
  all_goals (refine bV (by first | exact .inl rfl | exact .inr rfl) (bX rfl (aS rfl) (aS rfl)) rfl ?_; rfl)
set_option maxHeartbeats 4000000 in
set_option maxRecDepth 10000 in
theorem nY : ACalls Try.prog 60 [.imm (Tree.iv .nil)] [] (.imm (.lit (.int .i64 1))) [] := by
  refine bR Try.func60 rfl rfl (nb rfl) rfl ?_
  repeat' (first | refine bG ?_ | (refine bJ ?_; first | refine aR tabOk rfl rfl rfl (nb rfl) rfl ?_ | refine aZ rfl rfl (nb rfl) ?_ | (refine bI rfl rfl rfl (nb rfl) rfl rfl rfl (fun hq => ?_) (fun hq => ?_) <;> (first | (simp only [sD, sE, sB, sC, sN, sM, sT, sF] at hq; try (exfalso; omega)) | skip))| refine bS rfl rfl (nb rfl) rfl rfl rfl rfl (qT 65536) ?_ | refine aD rfl rfl rfl (nb rfl) rfl rfl (by omega) ?_ | refine bC rfl rfl rfl (nb rfl) rfl rfl rfl (by omega) (by omega) ?_ | refine bD rfl rfl rfl (nb rfl) rfl rfl rfl (by omega) (by omega) ?_ | refine bB tabOk rfl rfl rfl (nb rfl) rfl rfl rfl rfl rfl rfl rfl rfl rfl ?_ | refine aT tabOk rfl rfl (nb rfl) rfl ?_ | refine aN tabOk rfl rfl rfl (nb rfl) rfl rfl rfl rfl rfl rfl ?_ | refine aO tabOk rfl rfl rfl (nb rfl) rfl rfl rfl rfl ?_ | refine aK tabOk rfl rfl rfl rfl rfl rfl rfl rfl rfl rfl rfl ?_ | refine aP tabOk rfl rfl rfl (nb rfl) rfl rfl rfl rfl (by first | assumption | omega) ?_ | refine aH tabOk rfl rfl rfl (nb rfl) rfl rfl rfl rfl (by first | rfl | omega) (by first | omega | simp) ?_ | refine aB tabOk rfl rfl rfl (nb rfl) rfl rfl rfl (by assumption) ?_ | refine aB tabOk rfl rfl rfl (nb rfl) rfl rfl rfl (bM _ _ (by first | assumption | omega)) ?_ | refine aD rfl rfl rfl (nb rfl) rfl rfl (by omega) ?_ | ((fail_if_success (refine aE (b := true) rfl rfl rfl ?_)); (fail_if_success (refine aE (b := false) rfl rfl rfl ?_)); refine aQ rfl rfl rfl (fun hq => ?_) (fun hq => ?_) <;> first | subst hq | (first | (simp only [sD, sE, sB, sC, sN, sM, sT, sF] at hq; try (exfalso; omega)) | skip)) | fail) | (refine bQ ?_; first | refine bH ?_ | refine bN ?_ | refine aL ?_ | refine aX ?_ | refine bO ?_ | refine bF ?_ | refine bE ?_ | refine aA (b := true) rfl (fun _ => ?_) nTf | refine aA (b := false) rfl nFt (fun _ => ?_) | refine aY ?_ | refine aW ?_ | refine aU mixed (by kernel_rfl) ?_ | refine aC mixed (by kernel_rfl) ?_ | (refine aA rfl (fun hq => ?_) (fun hq => ?_) <;> first | subst hq | (first | (simp only [sD, sE, sB, sC, sN, sM, sT, sF] at hq; try (exfalso; omega)) | skip)) | fail) | (refine bK ?_; first | refine bT ?_ | refine aI ?_ | refine aM ?_ | fail) | (refine bA ?_; first | refine bP ?_ | refine aF ?_ | refine aG (by decide) ?_ | refine aJ ?_ | fail) | refine bL (aV (by kernel_rfl)) ?_ | fail)
  all_goals first
    | exact bZ (by first | exact .inl rfl | exact .inr rfl) (bU rfl (aS rfl)) rfl
    | exact absurd rfl (by assumption)
set_option maxHeartbeats 4000000 in
set_option maxRecDepth 10000 in
theorem iH (t : Tree) (h : t.whole = true) (hs : t.size ≤ 65536) : ACalls Try.prog 60 [.imm t.iv] [] (.imm (.lit (.int .i64 (if isConP t = true then 0 else 16)))) [] := by
  have c1 := uN t h 65536 hs (by omega)
  have c2 := uM t h (by omega)
  cases hc : isConP t with
  | true =>
    rw [hc] at c2
    rw [if_pos rfl]
    refine bR Try.func60 rfl rfl (nb rfl) rfl ?_
    repeat' (first | refine bG ?_ | (refine bJ ?_; first | refine aR tabOk rfl rfl rfl (nb rfl) rfl ?_ | refine aZ rfl rfl (nb rfl) ?_ | (refine bI rfl rfl rfl (nb rfl) rfl rfl rfl (fun hq => ?_) (fun hq => ?_) <;> (first | (simp only [sD, sE, sB, sC, sN, sM, sT, sF] at hq; try (exfalso; omega)) | skip))| refine bS rfl rfl (nb rfl) rfl rfl rfl rfl (c1) ?_ | refine bS rfl rfl (nb rfl) rfl rfl rfl rfl (c2) ?_ | refine aD rfl rfl rfl (nb rfl) rfl rfl (by omega) ?_ | refine bC rfl rfl rfl (nb rfl) rfl rfl rfl (by omega) (by omega) ?_ | refine bD rfl rfl rfl (nb rfl) rfl rfl rfl (by omega) (by omega) ?_ | refine bB tabOk rfl rfl rfl (nb rfl) rfl rfl rfl rfl rfl rfl rfl rfl rfl ?_ | refine aT tabOk rfl rfl (nb rfl) rfl ?_ | refine aN tabOk rfl rfl rfl (nb rfl) rfl rfl rfl rfl rfl rfl ?_ | refine aO tabOk rfl rfl rfl (nb rfl) rfl rfl rfl rfl ?_ | refine aK tabOk rfl rfl rfl rfl rfl rfl rfl rfl rfl rfl rfl ?_ | refine aP tabOk rfl rfl rfl (nb rfl) rfl rfl rfl rfl (by first | assumption | omega) ?_ | refine aH tabOk rfl rfl rfl (nb rfl) rfl rfl rfl rfl (by first | rfl | omega) (by first | omega | simp) ?_ | refine aB tabOk rfl rfl rfl (nb rfl) rfl rfl rfl (by assumption) ?_ | refine aB tabOk rfl rfl rfl (nb rfl) rfl rfl rfl (bM _ _ (by first | assumption | omega)) ?_ | refine aD rfl rfl rfl (nb rfl) rfl rfl (by omega) ?_ | ((fail_if_success (refine aE (b := true) rfl rfl rfl ?_)); (fail_if_success (refine aE (b := false) rfl rfl rfl ?_)); refine aQ rfl rfl rfl (fun hq => ?_) (fun hq => ?_) <;> first | subst hq | (first | (simp only [sD, sE, sB, sC, sN, sM, sT, sF] at hq; try (exfalso; omega)) | skip)) | fail) | (refine bQ ?_; first | refine bH ?_ | refine bN ?_ | refine aL ?_ | refine aX ?_ | refine bO ?_ | refine bF ?_ | refine bE ?_ | refine aA (b := true) rfl (fun _ => ?_) nTf | refine aA (b := false) rfl nFt (fun _ => ?_) | refine aY ?_ | refine aW ?_ | refine aU mixed (by kernel_rfl) ?_ | refine aC mixed (by kernel_rfl) ?_ | (refine aA rfl (fun hq => ?_) (fun hq => ?_) <;> first | subst hq | (first | (simp only [sD, sE, sB, sC, sN, sM, sT, sF] at hq; try (exfalso; omega)) | skip)) | fail) | (refine bK ?_; first | refine bT ?_ | refine aI ?_ | refine aM ?_ | fail) | (refine bA ?_; first | refine bP ?_ | refine aF ?_ | refine aG (by decide) ?_ | refine aJ ?_ | fail) | refine bL (aV (by kernel_rfl)) ?_ | fail)
    all_goals first
      | exact bZ (by first | exact .inl rfl | exact .inr rfl) (bU rfl (aS rfl)) rfl
      | exact absurd rfl (by assumption)
  | false =>
    rw [hc] at c2
    rw [if_neg (by simp)]
    refine bR Try.func60 rfl rfl (nb rfl) rfl ?_
    repeat' (first | refine bG ?_ | (refine bJ ?_; first | refine aR tabOk rfl rfl rfl (nb rfl) rfl ?_ | refine aZ rfl rfl (nb rfl) ?_ | (refine bI rfl rfl rfl (nb rfl) rfl rfl rfl (fun hq => ?_) (fun hq => ?_) <;> (first | (simp only [sD, sE, sB, sC, sN, sM, sT, sF] at hq; try (exfalso; omega)) | skip))| refine bS rfl rfl (nb rfl) rfl rfl rfl rfl (c1) ?_ | refine bS rfl rfl (nb rfl) rfl rfl rfl rfl (c2) ?_ | refine aD rfl rfl rfl (nb rfl) rfl rfl (by omega) ?_ | refine bC rfl rfl rfl (nb rfl) rfl rfl rfl (by omega) (by omega) ?_ | refine bD rfl rfl rfl (nb rfl) rfl rfl rfl (by omega) (by omega) ?_ | refine bB tabOk rfl rfl rfl (nb rfl) rfl rfl rfl rfl rfl rfl rfl rfl rfl ?_ | refine aT tabOk rfl rfl (nb rfl) rfl ?_ | refine aN tabOk rfl rfl rfl (nb rfl) rfl rfl rfl rfl rfl rfl ?_ | refine aO tabOk rfl rfl rfl (nb rfl) rfl rfl rfl rfl ?_ | refine aK tabOk rfl rfl rfl rfl rfl rfl rfl rfl rfl rfl rfl ?_ | refine aP tabOk rfl rfl rfl (nb rfl) rfl rfl rfl rfl (by first | assumption | omega) ?_ | refine aH tabOk rfl rfl rfl (nb rfl) rfl rfl rfl rfl (by first | rfl | omega) (by first | omega | simp) ?_ | refine aB tabOk rfl rfl rfl (nb rfl) rfl rfl rfl (by assumption) ?_ | refine aB tabOk rfl rfl rfl (nb rfl) rfl rfl rfl (bM _ _ (by first | assumption | omega)) ?_ | refine aD rfl rfl rfl (nb rfl) rfl rfl (by omega) ?_ | ((fail_if_success (refine aE (b := true) rfl rfl rfl ?_)); (fail_if_success (refine aE (b := false) rfl rfl rfl ?_)); refine aQ rfl rfl rfl (fun hq => ?_) (fun hq => ?_) <;> first | subst hq | (first | (simp only [sD, sE, sB, sC, sN, sM, sT, sF] at hq; try (exfalso; omega)) | skip)) | fail) | (refine bQ ?_; first | refine bH ?_ | refine bN ?_ | refine aL ?_ | refine aX ?_ | refine bO ?_ | refine bF ?_ | refine bE ?_ | refine aA (b := true) rfl (fun _ => ?_) nTf | refine aA (b := false) rfl nFt (fun _ => ?_) | refine aY ?_ | refine aW ?_ | refine aU mixed (by kernel_rfl) ?_ | refine aC mixed (by kernel_rfl) ?_ | (refine aA rfl (fun hq => ?_) (fun hq => ?_) <;> first | subst hq | (first | (simp only [sD, sE, sB, sC, sN, sM, sT, sF] at hq; try (exfalso; omega)) | skip)) | fail) | (refine bK ?_; first | refine bT ?_ | refine aI ?_ | refine aM ?_ | fail) | (refine bA ?_; first | refine bP ?_ | refine aF ?_ | refine aG (by decide) ?_ | refine aJ ?_ | fail) | refine bL (aV (by kernel_rfl)) ?_ | fail)
    all_goals first
      | exact bZ (by first | exact .inl rfl | exact .inr rfl) (bU rfl (aS rfl)) rfl
      | exact absurd rfl (by assumption)
structure RowD where
  k : Int
  w : ByteArray
  f : Int
  t : Int
  lb : Bool
  ks : ByteArray
def rowIV (r : RowD) : List IV := [.lit (.int .i64 r.k), .lit (.string r.w), .lit (.int .i64 r.f), .lit (.int .i64 r.t), .lit (.bool r.lb), .lit (.string r.ks)]
def rowIVs : List RowD → List IV
  | [] => []
  | r :: l => rowIV r ++ rowIVs l
def rowsL : List RowD := [
  ⟨130, ⟨#[]⟩, 0, 65536, false, ⟨#[]⟩⟩, ⟨131, ⟨#[]⟩, -1073741824, 1073741824, false, ⟨#[]⟩⟩, ⟨132, ⟨#[]⟩, 0, 1, false, ⟨#[]⟩⟩, ⟨133, ⟨#[]⟩, 0, 0, false, ⟨#[]⟩⟩,
  ⟨134, ⟨#[108, 97, 109]⟩, 0, 0, false, ⟨#[99, 88]⟩⟩, ⟨135, ⟨#[97, 112, 112]⟩, 0, 0, false, ⟨#[120, 120]⟩⟩, ⟨136, ⟨#[114, 101, 99]⟩, 0, 0, false, ⟨#[102]⟩⟩, ⟨138, ⟨#[112, 114, 111, 106]⟩, 0, 0, true, ⟨#[120]⟩⟩,
  ⟨139, ⟨#[116, 108, 97, 109]⟩, 0, 0, false, ⟨#[107, 84]⟩⟩, ⟨140, ⟨#[116, 97, 112, 112]⟩, 0, 0, false, ⟨#[120, 99]⟩⟩, ⟨141, ⟨#[112, 97, 99, 107]⟩, 0, 0, false, ⟨#[99, 120, 99]⟩⟩, ⟨142, ⟨#[117, 110, 112, 97, 99, 107]⟩, 0, 0, false, ⟨#[120, 66]⟩⟩,
  ⟨143, ⟨#[108, 101, 116]⟩, 0, 0, false, ⟨#[120, 88]⟩⟩, ⟨144, ⟨#[105, 102]⟩, 0, 0, false, ⟨#[120, 120, 120]⟩⟩, ⟨145, ⟨#[111, 112]⟩, 1, 5, false, ⟨#[120, 120]⟩⟩, ⟨146, ⟨#[105, 110]⟩, 0, 0, true, ⟨#[99, 120]⟩⟩,
  ⟨147, ⟨#[99, 97, 115, 101]⟩, 0, 0, false, ⟨#[120, 97]⟩⟩, ⟨148, ⟨#[102, 111, 108, 100]⟩, 0, 0, false, ⟨#[120, 99, 97]⟩⟩]
set_option maxHeartbeats 8000000 in
set_option maxRecDepth 10000 in
theorem wE : ACalls Try.prog 122 [] [] (.imm (.sl true 18 (rowIVs rowsL))) [] := by
  refine bR Try.func122 rfl rfl (nb rfl) rfl ?_
  repeat' (first | refine bG ?_ | (refine bJ ?_; first | refine aR tabOk rfl rfl rfl (nb rfl) rfl ?_ | refine aZ rfl rfl (nb rfl) ?_ | (refine bI rfl rfl rfl (nb rfl) rfl rfl rfl (fun hq => ?_) (fun hq => ?_) <;> (first | (simp only [sD, sE, sB, sC, sN, sM, sT, sF] at hq; try (exfalso; omega)) | skip))| refine tL (z := -1073741824) rfl rfl rfl (nb rfl) rfl (by decide) (by decide) (by decide) ?_ | refine aD rfl rfl rfl (nb rfl) rfl rfl (by omega) ?_ | refine bC rfl rfl rfl (nb rfl) rfl rfl rfl (by omega) (by omega) ?_ | refine bD rfl rfl rfl (nb rfl) rfl rfl rfl (by omega) (by omega) ?_ | refine bB tabOk rfl rfl rfl (nb rfl) rfl rfl rfl rfl rfl rfl rfl rfl rfl ?_ | refine aT tabOk rfl rfl (nb rfl) rfl ?_ | refine aN tabOk rfl rfl rfl (nb rfl) rfl rfl rfl rfl rfl rfl ?_ | refine aO tabOk rfl rfl rfl (nb rfl) rfl rfl rfl rfl ?_ | refine aK tabOk rfl rfl rfl rfl rfl rfl rfl rfl rfl rfl rfl ?_ | refine aP tabOk rfl rfl rfl (nb rfl) rfl rfl rfl rfl (by first | assumption | omega) ?_ | refine aH tabOk rfl rfl rfl (nb rfl) rfl rfl rfl rfl (by first | rfl | omega) (by first | omega | simp) ?_ | refine aB tabOk rfl rfl rfl (nb rfl) rfl rfl rfl (by assumption) ?_ | refine aB tabOk rfl rfl rfl (nb rfl) rfl rfl rfl (bM _ _ (by first | assumption | omega)) ?_ | refine aD rfl rfl rfl (nb rfl) rfl rfl (by omega) ?_ | ((fail_if_success (refine aE (b := true) rfl rfl rfl ?_)); (fail_if_success (refine aE (b := false) rfl rfl rfl ?_)); refine aQ rfl rfl rfl (fun hq => ?_) (fun hq => ?_) <;> first | subst hq | (first | (simp only [sD, sE, sB, sC, sN, sM, sT, sF] at hq; try (exfalso; omega)) | skip)) | fail) | (refine bQ ?_; first | refine bH ?_ | refine bN ?_ | refine aL ?_ | refine aX ?_ | refine bO ?_ | refine bF ?_ | refine bE ?_ | refine aA (b := true) rfl (fun _ => ?_) nTf | refine aA (b := false) rfl nFt (fun _ => ?_) | refine aY ?_ | refine aW ?_ | refine aU mixed (by kernel_rfl) ?_ | refine aC mixed (by kernel_rfl) ?_ | (refine aA rfl (fun hq => ?_) (fun hq => ?_) <;> first | subst hq | (first | (simp only [sD, sE, sB, sC, sN, sM, sT, sF] at hq; try (exfalso; omega)) | skip)) | fail) | (refine bK ?_; first | refine bT ?_ | refine aI ?_ | refine aM ?_ | fail) | (refine bA ?_; first | refine bP ?_ | refine aF ?_ | refine aG (by decide) ?_ | refine aJ ?_ | fail) | refine bL (aV (by kernel_rfl)) ?_ | fail)
  all_goals (refine bV (by first | exact .inl rfl | exact .inr rfl) (bU rfl (aS rfl)) rfl ?_; rfl)
theorem iI : ∀ (l : List RowD) (j : Nat) (h : j < l.length), ((rowIVs l).drop (j * 6)).take 6 = rowIV l[j]
  | r :: l, 0, h => by rw [Nat.zero_mul, List.drop_zero, rowIVs, List.take_append_of_le_length (by simp [rowIV])]; rfl
  | r :: l, j + 1, h => by
    have e : (j + 1) * 6 = 6 + j * 6 := by omega
    have e6 : (rowIV r).length = 6 := rfl
    rw [e, ← List.drop_drop, rowIVs]
    conv => lhs; rw [← e6, List.drop_left]
    rw [e6, iI l j (by simpa using h)]
    rfl
theorem tB (l : List RowD) (j i : Nat) (h : j < l.length) (hi : i < 6) : (rowIVs l)[j * 6 + i]? = (rowIV l[j])[i]? := by
  rw [← iI l j h, List.getElem?_take, if_pos hi, List.getElem?_drop]
def zeroRow : RowD := ⟨0, ⟨#[]⟩, 0, 0, false, ⟨#[]⟩⟩
def formP (k : Int) : RowD × Bool := match rowsL.find? (fun r => r.k == k) with
  | some r => (r, true)
  | none => (zeroRow, false)
theorem tC {l : List RowD} {p : RowD → Bool} {j : Nat} (h : j < l.length) (h1 : ∀ q (hq : q < l.length), q < j → p l[q] = false) (h2 : p l[j] = true) : l.find? p = some l[j] := by
  rw [List.find?_eq_some_iff_getElem]
  exact ⟨h2, j, h, rfl, fun q hq => by have := h1 q (by omega) hq; simpa using this⟩
theorem tD {l : List RowD} {p : RowD → Bool} (h1 : ∀ q (hq : q < l.length), p l[q] = false) : l.find? p = none := by
  rw [List.find?_eq_none]
  intro x hx
  obtain ⟨i, hi, rfl⟩ := List.getElem_of_mem hx
  rw [h1 i hi]; simp
set_option maxHeartbeats 8000000 in
set_option maxRecDepth 10000 in
theorem wF (k : Int) : ACalls Try.prog 98 [.imm (.lit (.int .i64 k))] [] (.imm (.tup [.agg (rowIV (formP k).1), .lit (.bool (formP k).2)])) [] := by
  have c1 := wE
  have hlen : rowsL.length = 18 := rfl
  have hyes : ∀ j (hj : j < rowsL.length), (∀ q (hq : q < rowsL.length), q < j → (rowsL[q].k == k) = false) → (rowsL[j].k == k) = true → formP k = (rowsL[j], true) := fun j hj h1 h2 => by
    unfold formP; rw [tC (p := fun r => r.k == k) hj h1 h2]
  have hno : (∀ q (hq : q < rowsL.length), (rowsL[q].k == k) = false) → formP k = (zeroRow, false) := fun h => by
    unfold formP; rw [tD (p := fun r => r.k == k) h]
  rw [← hlen] at c1
  generalize formP k = R at *
  generalize rowsL = l at *
  refine bR Try.func98 rfl rfl (nb rfl) rfl ?_
  repeat' (first | refine bG ?_ | (refine bJ ?_; first | refine aR tabOk rfl rfl rfl (nb rfl) rfl ?_ | refine aZ rfl rfl (nb rfl) ?_ | (refine bI rfl rfl rfl (nb rfl) rfl rfl rfl (fun hq => ?_) (fun hq => ?_) <;> (first | (simp only [sD, sE, sB, sC, sN, sM, sT, sF] at hq; try (exfalso; omega)) | skip))| refine bS rfl rfl (nb rfl) rfl rfl rfl rfl (c1) ?_ | refine aD rfl rfl rfl (nb rfl) rfl rfl (by omega) ?_ | refine bC rfl rfl rfl (nb rfl) rfl rfl rfl (by omega) (by omega) ?_ | refine bD rfl rfl rfl (nb rfl) rfl rfl rfl (by omega) (by omega) ?_ | refine bB tabOk rfl rfl rfl (nb rfl) rfl rfl rfl rfl rfl rfl rfl rfl rfl ?_ | refine aT tabOk rfl rfl (nb rfl) rfl ?_ | refine aN tabOk rfl rfl rfl (nb rfl) rfl rfl rfl rfl rfl rfl ?_ | refine aO tabOk rfl rfl rfl (nb rfl) rfl rfl rfl rfl ?_ | refine aK tabOk rfl rfl rfl rfl rfl rfl rfl rfl rfl rfl rfl ?_ | refine aP tabOk rfl rfl rfl (nb rfl) rfl rfl rfl rfl (by first | assumption | omega) ?_ | refine aH tabOk rfl rfl rfl (nb rfl) rfl rfl rfl rfl (by first | rfl | omega) (by first | omega | simp) ?_ | refine aB tabOk rfl rfl rfl (nb rfl) rfl rfl rfl (by assumption) ?_ | refine aB tabOk rfl rfl rfl (nb rfl) rfl rfl rfl (bM _ _ (by first | assumption | omega)) ?_ | refine aD rfl rfl rfl (nb rfl) rfl rfl (by omega) ?_ | ((fail_if_success (refine aE (b := true) rfl rfl rfl ?_)); (fail_if_success (refine aE (b := false) rfl rfl rfl ?_)); refine aQ rfl rfl rfl (fun hq => ?_) (fun hq => ?_) <;> first | subst hq | (first | (simp only [sD, sE, sB, sC, sN, sM, sT, sF] at hq; try (exfalso; omega)) | skip)) | fail) | (refine bQ ?_; first | refine bH ?_ | refine bN ?_ | refine aL ?_ | refine aX ?_ | refine bO ?_ | refine bF ?_ | refine bE ?_ | refine aA (b := true) rfl (fun _ => ?_) nTf | refine aA (b := false) rfl nFt (fun _ => ?_) | refine aY ?_ | refine aW ?_ | refine aU mixed (by kernel_rfl) ?_ | refine aC mixed (by kernel_rfl) ?_ | (refine aA rfl (fun hq => ?_) (fun hq => ?_) <;> first | subst hq | (first | (simp only [sD, sE, sB, sC, sN, sM, sT, sF] at hq; try (exfalso; omega)) | skip)) | fail) | (refine bK ?_; first | refine bT ?_ | refine aI ?_ | refine aM ?_ | fail) | (refine bA ?_; first | refine bP ?_ | refine aF ?_ | refine aG (by decide) ?_ | refine aJ ?_ | fail) | refine bL (aV (by kernel_rfl)) ?_ | fail)
  refine cJ (ι := {j : Nat // j ≤ l.length ∧ ∀ q (hq : q < l.length), q < j → (l[q].k == k) = false}) (fun j => S.f ⟨[(5, .imm (.lit (.int .i64 (j.1 : Int)))), (4, .imm (.sl true l.length (rowIVs l))), (2, .obj 2 0), (0, .imm (.lit (.int .i64 k)))], [(2, .cells [.imm (.lit (.int .i64 0)), .imm (.lit (.string ⟨#[]⟩)), .imm (.lit (.int .i64 0)), .imm (.lit (.int .i64 0)), .imm (.lit (.bool false)), .imm (.lit (.string ⟨#[]⟩))])]⟩) (fun j => l.length - j.1) ⟨0, Nat.zero_le _, fun q h h2 => by omega⟩ (cB (by repeat' first | exact trivial | refine ⟨rfl, ?_⟩) (by repeat' first | exact trivial | refine ⟨rfl, ?_⟩)) ?_
  rintro ⟨j, hj, hpr⟩
  dsimp only
  by_cases hlt : j < l.length
  · have hk0 : (rowIVs l)[j * 6 + 0]? = some (.lit (.int .i64 l[j].k)) := by rw [tB l j 0 hlt (by omega)]; rfl
    have hrow := iI l j hlt
    cases hk : (l[j].k == k) with
    | true =>
      have e := hyes j hlt hpr hk
      subst e
      have hk := beq_iff_eq.1 hk
      repeat' (first | refine bG ?_ | (refine bJ ?_; first | refine aR tabOk rfl rfl rfl (nb rfl) rfl ?_ | refine aZ rfl rfl (nb rfl) ?_ | (refine bI rfl rfl rfl (nb rfl) rfl rfl rfl (fun hq => ?_) (fun hq => ?_) <;> (first | (simp only [sD, sE, sB, sC, sN, sM, sT, sF] at hq; try (exfalso; omega)) | skip))| refine aB tabOk rfl rfl rfl (nb rfl) rfl rfl rfl hk0 ?_ | refine dZ tabOk rfl rfl rfl (nb rfl) rfl rfl rfl hrow rfl ?_ | refine aD rfl rfl rfl (nb rfl) rfl rfl (by omega) ?_ | refine bC rfl rfl rfl (nb rfl) rfl rfl rfl (by omega) (by omega) ?_ | refine bD rfl rfl rfl (nb rfl) rfl rfl rfl (by omega) (by omega) ?_ | refine bB tabOk rfl rfl rfl (nb rfl) rfl rfl rfl rfl rfl rfl rfl rfl rfl ?_ | refine aT tabOk rfl rfl (nb rfl) rfl ?_ | refine aN tabOk rfl rfl rfl (nb rfl) rfl rfl rfl rfl rfl rfl ?_ | refine aO tabOk rfl rfl rfl (nb rfl) rfl rfl rfl rfl ?_ | refine aK tabOk rfl rfl rfl rfl rfl rfl rfl rfl rfl rfl rfl ?_ | refine aP tabOk rfl rfl rfl (nb rfl) rfl rfl rfl rfl (by first | assumption | omega) ?_ | refine aH tabOk rfl rfl rfl (nb rfl) rfl rfl rfl rfl (by first | rfl | omega) (by first | omega | simp) ?_ | refine aB tabOk rfl rfl rfl (nb rfl) rfl rfl rfl (by assumption) ?_ | refine aB tabOk rfl rfl rfl (nb rfl) rfl rfl rfl (bM _ _ (by first | assumption | omega)) ?_ | refine aD rfl rfl rfl (nb rfl) rfl rfl (by omega) ?_ | ((fail_if_success (refine aE (b := true) rfl rfl rfl ?_)); (fail_if_success (refine aE (b := false) rfl rfl rfl ?_)); refine aQ rfl rfl rfl (fun hq => ?_) (fun hq => ?_) <;> first | subst hq | (first | (simp only [sD, sE, sB, sC, sN, sM, sT, sF] at hq; try (exfalso; omega)) | skip)) | fail) | (refine bQ ?_; first | refine bH ?_ | refine bN ?_ | refine aL ?_ | refine aX ?_ | refine bO ?_ | refine bF ?_ | refine bE ?_ | refine aA (b := true) rfl (fun _ => ?_) nTf | refine aA (b := false) rfl nFt (fun _ => ?_) | refine aY ?_ | refine aW ?_ | refine aU mixed (by kernel_rfl) ?_ | refine aC mixed (by kernel_rfl) ?_ | (refine aA rfl (fun hq => ?_) (fun hq => ?_) <;> first | subst hq | (first | (simp only [sD, sE, sB, sC, sN, sM, sT, sF] at hq; try (exfalso; omega)) | skip)) | fail) | (refine bK ?_; first | refine bT ?_ | refine aI ?_ | refine aM ?_ | fail) | (refine bA ?_; first | refine bP ?_ | refine aF ?_ | refine aG (by decide) ?_ | refine aJ ?_ | fail) | refine bL (aV (by kernel_rfl)) ?_ | fail)
      all_goals first
        | (exfalso; omega)
        | exact absurd hk (by assumption)
        | (refine bV (by first | exact .inl rfl | exact .inr rfl) (bX rfl (jR rfl rfl (tabOk _ _ rfl).1 rfl rfl) (aS rfl)) rfl ?_; rfl)
    | false =>
      have hpr2 : ∀ q (hq : q < l.length), q < j + 1 → (l[q].k == k) = false := fun q hq h2 => by
        rcases Nat.lt_or_ge q j with h3 | h3
        · exact hpr q hq h3
        · have e : q = j := by omega
          subst e
          exact hk
      have hk := beq_eq_false_iff_ne.1 hk
      repeat' (first | refine bG ?_ | (refine bJ ?_; first | refine aR tabOk rfl rfl rfl (nb rfl) rfl ?_ | refine aZ rfl rfl (nb rfl) ?_ | (refine bI rfl rfl rfl (nb rfl) rfl rfl rfl (fun hq => ?_) (fun hq => ?_) <;> (first | (simp only [sD, sE, sB, sC, sN, sM, sT, sF] at hq; try (exfalso; omega)) | skip))| refine aB tabOk rfl rfl rfl (nb rfl) rfl rfl rfl hk0 ?_ | refine aD rfl rfl rfl (nb rfl) rfl rfl (by omega) ?_ | refine bC rfl rfl rfl (nb rfl) rfl rfl rfl (by omega) (by omega) ?_ | refine bD rfl rfl rfl (nb rfl) rfl rfl rfl (by omega) (by omega) ?_ | refine bB tabOk rfl rfl rfl (nb rfl) rfl rfl rfl rfl rfl rfl rfl rfl rfl ?_ | refine aT tabOk rfl rfl (nb rfl) rfl ?_ | refine aN tabOk rfl rfl rfl (nb rfl) rfl rfl rfl rfl rfl rfl ?_ | refine aO tabOk rfl rfl rfl (nb rfl) rfl rfl rfl rfl ?_ | refine aK tabOk rfl rfl rfl rfl rfl rfl rfl rfl rfl rfl rfl ?_ | refine aP tabOk rfl rfl rfl (nb rfl) rfl rfl rfl rfl (by first | assumption | omega) ?_ | refine aH tabOk rfl rfl rfl (nb rfl) rfl rfl rfl rfl (by first | rfl | omega) (by first | omega | simp) ?_ | refine aB tabOk rfl rfl rfl (nb rfl) rfl rfl rfl (by assumption) ?_ | refine aB tabOk rfl rfl rfl (nb rfl) rfl rfl rfl (bM _ _ (by first | assumption | omega)) ?_ | refine aD rfl rfl rfl (nb rfl) rfl rfl (by omega) ?_ | ((fail_if_success (refine aE (b := true) rfl rfl rfl ?_)); (fail_if_success (refine aE (b := false) rfl rfl rfl ?_)); refine aQ rfl rfl rfl (fun hq => ?_) (fun hq => ?_) <;> first | subst hq | (first | (simp only [sD, sE, sB, sC, sN, sM, sT, sF] at hq; try (exfalso; omega)) | skip)) | fail) | (refine bQ ?_; first | refine bH ?_ | refine bN ?_ | refine aL ?_ | refine aX ?_ | refine bO ?_ | refine bF ?_ | refine bE ?_ | refine aA (b := true) rfl (fun _ => ?_) nTf | refine aA (b := false) rfl nFt (fun _ => ?_) | refine aY ?_ | refine aW ?_ | refine aU mixed (by kernel_rfl) ?_ | refine aC mixed (by kernel_rfl) ?_ | (refine aA rfl (fun hq => ?_) (fun hq => ?_) <;> first | subst hq | (first | (simp only [sD, sE, sB, sC, sN, sM, sT, sF] at hq; try (exfalso; omega)) | skip)) | fail) | (refine bK ?_; first | refine bT ?_ | refine aI ?_ | refine aM ?_ | fail) | (refine bA ?_; first | refine bP ?_ | refine aF ?_ | refine aG (by decide) ?_ | refine aJ ?_ | fail) | refine bL (aV (by kernel_rfl)) ?_ | fail)
      all_goals first
        | (exfalso; omega)
        | exact absurd (by assumption) hk
        | exact ⟨⟨j + 1, hlt, hpr2⟩, (by show l.length - (j + 1) < l.length - j; omega), (cB (by repeat' first | exact trivial | refine ⟨rfl, ?_⟩) (by repeat' first | exact trivial | refine ⟨rfl, ?_⟩))⟩
  · have e := hno (fun q hq => hpr q hq (by omega))
    subst e
    repeat' (first | refine bG ?_ | (refine bJ ?_; first | refine aR tabOk rfl rfl rfl (nb rfl) rfl ?_ | refine aZ rfl rfl (nb rfl) ?_ | (refine bI rfl rfl rfl (nb rfl) rfl rfl rfl (fun hq => ?_) (fun hq => ?_) <;> (first | (simp only [sD, sE, sB, sC, sN, sM, sT, sF] at hq; try (exfalso; omega)) | skip)) | refine aD rfl rfl rfl (nb rfl) rfl rfl (by omega) ?_ | refine bC rfl rfl rfl (nb rfl) rfl rfl rfl (by omega) (by omega) ?_ | refine bD rfl rfl rfl (nb rfl) rfl rfl rfl (by omega) (by omega) ?_ | refine bB tabOk rfl rfl rfl (nb rfl) rfl rfl rfl rfl rfl rfl rfl rfl rfl ?_ | refine aT tabOk rfl rfl (nb rfl) rfl ?_ | refine aN tabOk rfl rfl rfl (nb rfl) rfl rfl rfl rfl rfl rfl ?_ | refine aO tabOk rfl rfl rfl (nb rfl) rfl rfl rfl rfl ?_ | refine aK tabOk rfl rfl rfl rfl rfl rfl rfl rfl rfl rfl rfl ?_ | refine aP tabOk rfl rfl rfl (nb rfl) rfl rfl rfl rfl (by first | assumption | omega) ?_ | refine aH tabOk rfl rfl rfl (nb rfl) rfl rfl rfl rfl (by first | rfl | omega) (by first | omega | simp) ?_ | refine aB tabOk rfl rfl rfl (nb rfl) rfl rfl rfl (by assumption) ?_ | refine aB tabOk rfl rfl rfl (nb rfl) rfl rfl rfl (bM _ _ (by first | assumption | omega)) ?_ | refine aD rfl rfl rfl (nb rfl) rfl rfl (by omega) ?_ | ((fail_if_success (refine aE (b := true) rfl rfl rfl ?_)); (fail_if_success (refine aE (b := false) rfl rfl rfl ?_)); refine aQ rfl rfl rfl (fun hq => ?_) (fun hq => ?_) <;> first | subst hq | (first | (simp only [sD, sE, sB, sC, sN, sM, sT, sF] at hq; try (exfalso; omega)) | skip)) | fail) | (refine bQ ?_; first | refine bH ?_ | refine bN ?_ | refine aL ?_ | refine aX ?_ | refine bO ?_ | refine bF ?_ | refine bE ?_ | refine aA (b := true) rfl (fun _ => ?_) nTf | refine aA (b := false) rfl nFt (fun _ => ?_) | refine aY ?_ | refine aW ?_ | refine aU mixed (by kernel_rfl) ?_ | refine aC mixed (by kernel_rfl) ?_ | (refine aA rfl (fun hq => ?_) (fun hq => ?_) <;> first | subst hq | (first | (simp only [sD, sE, sB, sC, sN, sM, sT, sF] at hq; try (exfalso; omega)) | skip)) | fail) | (refine bK ?_; first | refine bT ?_ | refine aI ?_ | refine aM ?_ | fail) | (refine bA ?_; first | refine bP ?_ | refine aF ?_ | refine aG (by decide) ?_ | refine aJ ?_ | fail) | refine bL (aV (by kernel_rfl)) ?_ | fail)
    all_goals first
      | (exfalso; omega)
      | (refine bV (by first | exact .inl rfl | exact .inr rfl) (bX rfl (jR rfl rfl (tabOk _ _ rfl).1 rfl rfl) (aS rfl)) rfl ?_; rfl)
set_option maxRecDepth 10000 in
theorem pK (s : ByteArray) : ACalls Try.prog 99 [.imm (.lit (.string s))] [] (.imm (.lit (.bool (labelP s)))) [] := by
  refine bR Try.func99 rfl rfl (nb rfl) rfl ?_
  repeat' (first | refine bG ?_ | (refine bJ ?_; first | refine aR tabOk rfl rfl rfl (nb rfl) rfl ?_ | refine aZ rfl rfl (nb rfl) ?_ | (refine bI rfl rfl rfl (nb rfl) rfl rfl rfl (fun hq => ?_) (fun hq => ?_) <;> (first | (simp only [sD, sE, sB, sC, sN, sM, sT, sF] at hq; try (exfalso; omega)) | skip)) | refine aD rfl rfl rfl (nb rfl) rfl rfl (by omega) ?_ | refine bC rfl rfl rfl (nb rfl) rfl rfl rfl (by omega) (by omega) ?_ | refine bD rfl rfl rfl (nb rfl) rfl rfl rfl (by omega) (by omega) ?_ | refine bB tabOk rfl rfl rfl (nb rfl) rfl rfl rfl rfl rfl rfl rfl rfl rfl ?_ | refine aT tabOk rfl rfl (nb rfl) rfl ?_ | refine aN tabOk rfl rfl rfl (nb rfl) rfl rfl rfl rfl rfl rfl ?_ | refine aO tabOk rfl rfl rfl (nb rfl) rfl rfl rfl rfl ?_ | refine aK tabOk rfl rfl rfl rfl rfl rfl rfl rfl rfl rfl rfl ?_ | refine aP tabOk rfl rfl rfl (nb rfl) rfl rfl rfl rfl (by first | assumption | omega) ?_ | refine aH tabOk rfl rfl rfl (nb rfl) rfl rfl rfl rfl (by first | rfl | omega) (by first | omega | simp) ?_ | refine aB tabOk rfl rfl rfl (nb rfl) rfl rfl rfl (by assumption) ?_ | refine aB tabOk rfl rfl rfl (nb rfl) rfl rfl rfl (bM _ _ (by first | assumption | omega)) ?_ | refine aD rfl rfl rfl (nb rfl) rfl rfl (by omega) ?_ | ((fail_if_success (refine aE (b := true) rfl rfl rfl ?_)); (fail_if_success (refine aE (b := false) rfl rfl rfl ?_)); refine aQ rfl rfl rfl (fun hq => ?_) (fun hq => ?_) <;> first | subst hq | (first | (simp only [sD, sE, sB, sC, sN, sM, sT, sF] at hq; try (exfalso; omega)) | skip)) | fail) | (refine bQ ?_; first | refine bH ?_ | refine bN ?_ | refine aL ?_ | refine aX ?_ | refine bO ?_ | refine bF ?_ | refine bE ?_ | refine aA (b := true) rfl (fun _ => ?_) nTf | refine aA (b := false) rfl nFt (fun _ => ?_) | refine aY ?_ | refine aW ?_ | refine aU mixed (by kernel_rfl) ?_ | refine aC mixed (by kernel_rfl) ?_ | (refine aA rfl (fun hq => ?_) (fun hq => ?_) <;> first | subst hq | (first | (simp only [sD, sE, sB, sC, sN, sM, sT, sF] at hq; try (exfalso; omega)) | skip)) | fail) | (refine bK ?_; first | refine bT ?_ | refine aI ?_ | refine aM ?_ | fail) | (refine bA ?_; first | refine bP ?_ | refine aF ?_ | refine aG (by decide) ?_ | refine aJ ?_ | fail) | refine bL (aV (by kernel_rfl)) ?_ | fail)
  all_goals (refine bV (by first | exact .inl rfl | exact .inr rfl) (bU rfl (aS rfl)) rfl ?_; refine cE ?_; first | (simp_all [labelP]; done) | (simp_all [labelP]; omega))
end Go.Proofs.Ytlbemgokilhdnaa.Ab
namespace Go.Proofs.Ytlbemgokilhdnaa.Ab
set_option linter.unusedVariables false
set_option linter.unusedSimpArgs false
open Go.RowKit
attribute [local irreducible] AWP AOps AExit AThen ABlock ANoGoto FeetOk
def listB (l : List Tree) (kind : Int) : Bool := fieldsP l kind && pairsP (kind == 137) l && (kind == 137 || decide (0 < l.length))
theorem fS (l : List Tree) (kind : Int) : listB l kind = true ↔ (∀ q (hq : q < l.length), okField kind l[q] = true) ∧ (∀ i j (hij : i < j) (hj : j < l.length), okPair (kind == 137) (l[i]'(by omega)).name l[j].name = true) ∧ (kind = 137 ∨ 0 < l.length) := by
  unfold listB
  rw [Bool.and_eq_true, Bool.and_eq_true, lU, gN, Bool.or_eq_true, beq_iff_eq, decide_eq_true_eq]
  constructor
  · rintro ⟨⟨h1, h2⟩, h3⟩
    exact ⟨fun q hq => List.all_eq_true.1 h1 _ (List.getElem_mem hq), h2, h3⟩
  · rintro ⟨h1, h2, h3⟩
    exact ⟨⟨dT h1, h2⟩, h3⟩
theorem pL {l : List Tree} {kind : Int} {i : Nat} (h : i < l.length) (hb : okField kind l[i] = false) : listB l kind = false := by
  rw [Bool.eq_false_iff]
  intro hc
  have := ((fS l kind).1 hc).1 i h
  rw [hb] at this
  cases this
theorem pM {l : List Tree} {kind : Int} {i j : Nat} (hij : j < i) (h : i < l.length) (hb : okPair (kind == 137) (l[j]'(by omega)).name l[i].name = false) : listB l kind = false := by
  rw [Bool.eq_false_iff]
  intro hc
  have := ((fS l kind).1 hc).2.1 j i hij h
  rw [hb] at this
  cases this
set_option maxHeartbeats 16000000 in
set_option maxRecDepth 10000 in
theorem uO (l : List Tree) (kind : Int) (h : Tree.wholes l = true) (hl : l.length < 1000000000)
    (hc : ∀ t', t'.size < Tree.sizes l → t'.whole = true → ACalls Try.prog 61 [.imm t'.iv] [] (.imm (.lit (.bool (isTermP t')))) []) :
    ACalls Try.prog 123 [.imm (.sl false l.length (Tree.ivs l)), .imm (.lit (.int .i64 kind))] [] (.imm (.lit (.bool (listB l kind)))) [] := by
  refine bR Try.func123 rfl rfl (nb rfl) rfl ?_
  repeat' (first | refine bG ?_ | (refine bJ ?_; first | refine aR tabOk rfl rfl rfl (nb rfl) rfl ?_ | refine aZ rfl rfl (nb rfl) ?_ | (refine bI rfl rfl rfl (nb rfl) rfl rfl rfl (fun hq => ?_) (fun hq => ?_) <;> (first | (simp only [sD, sE, sB, sC, sN, sM, sT, sF] at hq; try (exfalso; omega)) | skip)) | refine aD rfl rfl rfl (nb rfl) rfl rfl (by omega) ?_ | refine bC rfl rfl rfl (nb rfl) rfl rfl rfl (by omega) (by omega) ?_ | refine bD rfl rfl rfl (nb rfl) rfl rfl rfl (by omega) (by omega) ?_ | refine bB tabOk rfl rfl rfl (nb rfl) rfl rfl rfl rfl rfl rfl rfl rfl rfl ?_ | refine aT tabOk rfl rfl (nb rfl) rfl ?_ | refine aN tabOk rfl rfl rfl (nb rfl) rfl rfl rfl rfl rfl rfl ?_ | refine aO tabOk rfl rfl rfl (nb rfl) rfl rfl rfl rfl ?_ | refine aK tabOk rfl rfl rfl rfl rfl rfl rfl rfl rfl rfl rfl ?_ | refine aP tabOk rfl rfl rfl (nb rfl) rfl rfl rfl rfl (by first | assumption | omega) ?_ | refine aH tabOk rfl rfl rfl (nb rfl) rfl rfl rfl rfl (by first | rfl | omega) (by first | omega | simp) ?_ | refine aB tabOk rfl rfl rfl (nb rfl) rfl rfl rfl (by assumption) ?_ | refine aB tabOk rfl rfl rfl (nb rfl) rfl rfl rfl (bM _ _ (by first | assumption | omega)) ?_ | refine aD rfl rfl rfl (nb rfl) rfl rfl (by omega) ?_ | ((fail_if_success (refine aE (b := true) rfl rfl rfl ?_)); (fail_if_success (refine aE (b := false) rfl rfl rfl ?_)); refine aQ rfl rfl rfl (fun hq => ?_) (fun hq => ?_) <;> first | subst hq | (first | (simp only [sD, sE, sB, sC, sN, sM, sT, sF] at hq; try (exfalso; omega)) | skip)) | fail) | (refine bQ ?_; first | refine bH ?_ | refine bN ?_ | refine aL ?_ | refine aX ?_ | refine bO ?_ | refine bF ?_ | refine bE ?_ | refine aA (b := true) rfl (fun _ => ?_) nTf | refine aA (b := false) rfl nFt (fun _ => ?_) | refine aY ?_ | refine aW ?_ | refine aU mixed (by kernel_rfl) ?_ | refine aC mixed (by kernel_rfl) ?_ | (refine aA rfl (fun hq => ?_) (fun hq => ?_) <;> first | subst hq | (first | (simp only [sD, sE, sB, sC, sN, sM, sT, sF] at hq; try (exfalso; omega)) | skip)) | fail) | (refine bK ?_; first | refine bT ?_ | refine aI ?_ | refine aM ?_ | fail) | (refine bA ?_; first | refine bP ?_ | refine aF ?_ | refine aG (by decide) ?_ | refine aJ ?_ | fail) | refine bL (aV (by kernel_rfl)) ?_ | fail)
  refine cJ (ι := {i : Nat // i ≤ l.length ∧ (∀ q (hq : q < l.length), q < i → okField kind l[q] = true) ∧ ∀ j q (hjq : j < q) (hq : q < l.length), q < i → okPair (kind == 137) (l[j]'(by omega)).name l[q].name = true}) (fun i => S.f ⟨[(5, .imm (.lit (.int .i64 (i.1 : Int)))), (0, .imm (.sl false l.length (Tree.ivs l))), (1, .imm (.lit (.int .i64 kind)))], []⟩) (fun i => l.length - i.1) ⟨0, Nat.zero_le _, fun q h h2 => by omega, fun j q h h2 h3 => by omega⟩ (cB (by repeat' first | exact trivial | refine ⟨rfl, ?_⟩) (by repeat' first | exact trivial | refine ⟨rfl, ?_⟩)) ?_
  rintro ⟨i, hi, hn, hp⟩
  dsimp only
  by_cases hil : i < l.length
  · obtain ⟨k1, n1, a1, b1, ks, e1, hiv, hwk⟩ := eB h hil
    have hbad := @pL l kind i hil
    have hsz := cP (List.getElem_mem hil)
    rw [e1] at hbad hsz
    have hpl := pK a1
    cases hok : okField kind (.node k1 n1 a1 b1 ks) with
    | false =>
      rw [hbad hok]
      rw [okField] at hok
      generalize labelP a1 = lp at *
      rcases ks with _ | ⟨c, _ | ⟨d, r⟩⟩
      · cases lp <;>
        (repeat' (first | refine bG ?_ | (refine bJ ?_; first | refine aR tabOk rfl rfl rfl (nb rfl) rfl ?_ | refine aZ rfl rfl (nb rfl) ?_ | (refine bI rfl rfl rfl (nb rfl) rfl rfl rfl (fun hq => ?_) (fun hq => ?_) <;> (first | (simp only [sD, sE, sB, sC, sN, sM, sT, sF] at hq; try (exfalso; omega)) | skip))| refine aB tabOk rfl rfl rfl (nb rfl) rfl rfl rfl hiv ?_ | refine bS rfl rfl (nb rfl) rfl rfl rfl rfl (hpl) ?_ | refine aD rfl rfl rfl (nb rfl) rfl rfl (by omega) ?_ | refine bC rfl rfl rfl (nb rfl) rfl rfl rfl (by omega) (by omega) ?_ | refine bD rfl rfl rfl (nb rfl) rfl rfl rfl (by omega) (by omega) ?_ | refine bB tabOk rfl rfl rfl (nb rfl) rfl rfl rfl rfl rfl rfl rfl rfl rfl ?_ | refine aT tabOk rfl rfl (nb rfl) rfl ?_ | refine aN tabOk rfl rfl rfl (nb rfl) rfl rfl rfl rfl rfl rfl ?_ | refine aO tabOk rfl rfl rfl (nb rfl) rfl rfl rfl rfl ?_ | refine aK tabOk rfl rfl rfl rfl rfl rfl rfl rfl rfl rfl rfl ?_ | refine aP tabOk rfl rfl rfl (nb rfl) rfl rfl rfl rfl (by first | assumption | omega) ?_ | refine aH tabOk rfl rfl rfl (nb rfl) rfl rfl rfl rfl (by first | rfl | omega) (by first | omega | simp) ?_ | refine aB tabOk rfl rfl rfl (nb rfl) rfl rfl rfl (by assumption) ?_ | refine aB tabOk rfl rfl rfl (nb rfl) rfl rfl rfl (bM _ _ (by first | assumption | omega)) ?_ | refine aD rfl rfl rfl (nb rfl) rfl rfl (by omega) ?_ | ((fail_if_success (refine aE (b := true) rfl rfl rfl ?_)); (fail_if_success (refine aE (b := false) rfl rfl rfl ?_)); refine aQ rfl rfl rfl (fun hq => ?_) (fun hq => ?_) <;> first | subst hq | (first | (simp only [sD, sE, sB, sC, sN, sM, sT, sF] at hq; try (exfalso; omega)) | skip)) | fail) | (refine bQ ?_; first | refine bH ?_ | refine bN ?_ | refine aL ?_ | refine aX ?_ | refine bO ?_ | refine bF ?_ | refine bE ?_ | refine aA (b := true) rfl (fun _ => ?_) nTf | refine aA (b := false) rfl nFt (fun _ => ?_) | refine aY ?_ | refine aW ?_ | refine aU mixed (by kernel_rfl) ?_ | refine aC mixed (by kernel_rfl) ?_ | (refine aA rfl (fun hq => ?_) (fun hq => ?_) <;> first | subst hq | (first | (simp only [sD, sE, sB, sC, sN, sM, sT, sF] at hq; try (exfalso; omega)) | skip)) | fail) | (refine bK ?_; first | refine bT ?_ | refine aI ?_ | refine aM ?_ | fail) | (refine bA ?_; first | refine bP ?_ | refine aF ?_ | refine aG (by decide) ?_ | refine aJ ?_ | fail) | refine bL (aV (by kernel_rfl)) ?_ | fail)
         all_goals first
           | exact bZ (by first | exact .inl rfl | exact .inr rfl) (bU rfl (aS rfl)) rfl
           | (exfalso; omega)
           | (exfalso; simp_all [isT_t, eqB, emptyB]; done))
      · have hcc := hc c (by simp [Tree.size, Tree.sizes] at hsz ⊢; omega) (bY hwk (by simp))
        rw [isT_t] at hok
        generalize isTermP c = cp at *
        cases lp <;> cases cp <;>
        (repeat' (first | refine bG ?_ | (refine bJ ?_; first | refine aR tabOk rfl rfl rfl (nb rfl) rfl ?_ | refine aZ rfl rfl (nb rfl) ?_ | (refine bI rfl rfl rfl (nb rfl) rfl rfl rfl (fun hq => ?_) (fun hq => ?_) <;> (first | (simp only [sD, sE, sB, sC, sN, sM, sT, sF] at hq; try (exfalso; omega)) | skip))| refine aB tabOk rfl rfl rfl (nb rfl) rfl rfl rfl hiv ?_ | refine bS rfl rfl (nb rfl) rfl rfl rfl rfl (hpl) ?_ | refine bS rfl rfl (nb rfl) rfl rfl rfl rfl (hcc) ?_ | refine aD rfl rfl rfl (nb rfl) rfl rfl (by omega) ?_ | refine bC rfl rfl rfl (nb rfl) rfl rfl rfl (by omega) (by omega) ?_ | refine bD rfl rfl rfl (nb rfl) rfl rfl rfl (by omega) (by omega) ?_ | refine bB tabOk rfl rfl rfl (nb rfl) rfl rfl rfl rfl rfl rfl rfl rfl rfl ?_ | refine aT tabOk rfl rfl (nb rfl) rfl ?_ | refine aN tabOk rfl rfl rfl (nb rfl) rfl rfl rfl rfl rfl rfl ?_ | refine aO tabOk rfl rfl rfl (nb rfl) rfl rfl rfl rfl ?_ | refine aK tabOk rfl rfl rfl rfl rfl rfl rfl rfl rfl rfl rfl ?_ | refine aP tabOk rfl rfl rfl (nb rfl) rfl rfl rfl rfl (by first | assumption | omega) ?_ | refine aH tabOk rfl rfl rfl (nb rfl) rfl rfl rfl rfl (by first | rfl | omega) (by first | omega | simp) ?_ | refine aB tabOk rfl rfl rfl (nb rfl) rfl rfl rfl (by assumption) ?_ | refine aB tabOk rfl rfl rfl (nb rfl) rfl rfl rfl (bM _ _ (by first | assumption | omega)) ?_ | refine aD rfl rfl rfl (nb rfl) rfl rfl (by omega) ?_ | ((fail_if_success (refine aE (b := true) rfl rfl rfl ?_)); (fail_if_success (refine aE (b := false) rfl rfl rfl ?_)); refine aQ rfl rfl rfl (fun hq => ?_) (fun hq => ?_) <;> first | subst hq | (first | (simp only [sD, sE, sB, sC, sN, sM, sT, sF] at hq; try (exfalso; omega)) | skip)) | fail) | (refine bQ ?_; first | refine bH ?_ | refine bN ?_ | refine aL ?_ | refine aX ?_ | refine bO ?_ | refine bF ?_ | refine bE ?_ | refine aA (b := true) rfl (fun _ => ?_) nTf | refine aA (b := false) rfl nFt (fun _ => ?_) | refine aY ?_ | refine aW ?_ | refine aU mixed (by kernel_rfl) ?_ | refine aC mixed (by kernel_rfl) ?_ | (refine aA rfl (fun hq => ?_) (fun hq => ?_) <;> first | subst hq | (first | (simp only [sD, sE, sB, sC, sN, sM, sT, sF] at hq; try (exfalso; omega)) | skip)) | fail) | (refine bK ?_; first | refine bT ?_ | refine aI ?_ | refine aM ?_ | fail) | (refine bA ?_; first | refine bP ?_ | refine aF ?_ | refine aG (by decide) ?_ | refine aJ ?_ | fail) | refine bL (aV (by kernel_rfl)) ?_ | fail)
         all_goals first
           | exact bZ (by first | exact .inl rfl | exact .inr rfl) (bU rfl (aS rfl)) rfl
           | (exfalso; omega)
           | (exfalso; simp_all [eqB, emptyB]; done))
      · cases lp <;>
        (repeat' (first | refine bG ?_ | (refine bJ ?_; first | refine aR tabOk rfl rfl rfl (nb rfl) rfl ?_ | refine aZ rfl rfl (nb rfl) ?_ | (refine bI rfl rfl rfl (nb rfl) rfl rfl rfl (fun hq => ?_) (fun hq => ?_) <;> (first | (simp only [sD, sE, sB, sC, sN, sM, sT, sF] at hq; try (exfalso; omega)) | skip))| refine aB tabOk rfl rfl rfl (nb rfl) rfl rfl rfl hiv ?_ | refine bS rfl rfl (nb rfl) rfl rfl rfl rfl (hpl) ?_ | refine aD rfl rfl rfl (nb rfl) rfl rfl (by omega) ?_ | refine bC rfl rfl rfl (nb rfl) rfl rfl rfl (by omega) (by omega) ?_ | refine bD rfl rfl rfl (nb rfl) rfl rfl rfl (by omega) (by omega) ?_ | refine bB tabOk rfl rfl rfl (nb rfl) rfl rfl rfl rfl rfl rfl rfl rfl rfl ?_ | refine aT tabOk rfl rfl (nb rfl) rfl ?_ | refine aN tabOk rfl rfl rfl (nb rfl) rfl rfl rfl rfl rfl rfl ?_ | refine aO tabOk rfl rfl rfl (nb rfl) rfl rfl rfl rfl ?_ | refine aK tabOk rfl rfl rfl rfl rfl rfl rfl rfl rfl rfl rfl ?_ | refine aP tabOk rfl rfl rfl (nb rfl) rfl rfl rfl rfl (by first | assumption | omega) ?_ | refine aH tabOk rfl rfl rfl (nb rfl) rfl rfl rfl rfl (by first | rfl | omega) (by first | omega | simp) ?_ | refine aB tabOk rfl rfl rfl (nb rfl) rfl rfl rfl (by assumption) ?_ | refine aB tabOk rfl rfl rfl (nb rfl) rfl rfl rfl (bM _ _ (by first | assumption | omega)) ?_ | refine aD rfl rfl rfl (nb rfl) rfl rfl (by omega) ?_ | ((fail_if_success (refine aE (b := true) rfl rfl rfl ?_)); (fail_if_success (refine aE (b := false) rfl rfl rfl ?_)); refine aQ rfl rfl rfl (fun hq => ?_) (fun hq => ?_) <;> first | subst hq | (first | (simp only [sD, sE, sB, sC, sN, sM, sT, sF] at hq; try (exfalso; omega)) | skip)) | fail) | (refine bQ ?_; first | refine bH ?_ | refine bN ?_ | refine aL ?_ | refine aX ?_ | refine bO ?_ | refine bF ?_ | refine bE ?_ | refine aA (b := true) rfl (fun _ => ?_) nTf | refine aA (b := false) rfl nFt (fun _ => ?_) | refine aY ?_ | refine aW ?_ | refine aU mixed (by kernel_rfl) ?_ | refine aC mixed (by kernel_rfl) ?_ | (refine aA rfl (fun hq => ?_) (fun hq => ?_) <;> first | subst hq | (first | (simp only [sD, sE, sB, sC, sN, sM, sT, sF] at hq; try (exfalso; omega)) | skip)) | fail) | (refine bK ?_; first | refine bT ?_ | refine aI ?_ | refine aM ?_ | fail) | (refine bA ?_; first | refine bP ?_ | refine aF ?_ | refine aG (by decide) ?_ | refine aJ ?_ | fail) | refine bL (aV (by kernel_rfl)) ?_ | fail)
         all_goals first
           | exact bZ (by first | exact .inl rfl | exact .inr rfl) (bU rfl (aS rfl)) rfl
           | (exfalso; omega)
           | (exfalso; simp only [List.length_cons] at *; omega)
           | (exfalso; simp_all [isT_t, eqB, emptyB]; done))
    | true =>
      have hok0 := hok
      rw [okField] at hok
      simp only [Bool.and_eq_true] at hok
      obtain ⟨⟨⟨⟨q1, q2⟩, q3⟩, q5⟩, q4⟩ := hok
      have q1 := beq_iff_eq.1 q1
      subst q1
      have q2 := beq_iff_eq.1 q2
      subst q2
      unfold eqB at q3
      have q3 := beq_iff_eq.1 q3
      rw [q5] at hpl
      have hcc : ∃ c, ks = [c] ∧ isTermP c = true := by
        match ks, q4 with
        | [c], q4 => exact ⟨c, rfl, by simpa [isT_t] using q4⟩
      obtain ⟨c, rfl, hcp⟩ := hcc
      have hcc := hc c (by simp [Tree.size, Tree.sizes] at hsz ⊢; omega) (bY hwk (by simp))
      rw [hcp] at hcc
      have hn2 : ∀ q (hq : q < l.length), q < i + 1 → okField k1 l[q] = true := fun q hq h2 => by
        rcases Nat.lt_or_ge q i with h3 | h3
        · exact hn q hq h3
        · have e : q = i := by omega
          subst e
          rw [e1]; exact hok0
      repeat' (first | refine bG ?_ | (refine bJ ?_; first | refine aR tabOk rfl rfl rfl (nb rfl) rfl ?_ | refine aZ rfl rfl (nb rfl) ?_ | (refine bI rfl rfl rfl (nb rfl) rfl rfl rfl (fun hq => ?_) (fun hq => ?_) <;> (first | (simp only [sD, sE, sB, sC, sN, sM, sT, sF] at hq; try (exfalso; omega)) | skip))| refine aB tabOk rfl rfl rfl (nb rfl) rfl rfl rfl hiv ?_ | refine bS rfl rfl (nb rfl) rfl rfl rfl rfl (hpl) ?_ | refine bS rfl rfl (nb rfl) rfl rfl rfl rfl (hcc) ?_ | refine aD rfl rfl rfl (nb rfl) rfl rfl (by omega) ?_ | refine bC rfl rfl rfl (nb rfl) rfl rfl rfl (by omega) (by omega) ?_ | refine bD rfl rfl rfl (nb rfl) rfl rfl rfl (by omega) (by omega) ?_ | refine bB tabOk rfl rfl rfl (nb rfl) rfl rfl rfl rfl rfl rfl rfl rfl rfl ?_ | refine aT tabOk rfl rfl (nb rfl) rfl ?_ | refine aN tabOk rfl rfl rfl (nb rfl) rfl rfl rfl rfl rfl rfl ?_ | refine aO tabOk rfl rfl rfl (nb rfl) rfl rfl rfl rfl ?_ | refine aK tabOk rfl rfl rfl rfl rfl rfl rfl rfl rfl rfl rfl ?_ | refine aP tabOk rfl rfl rfl (nb rfl) rfl rfl rfl rfl (by first | assumption | omega) ?_ | refine aH tabOk rfl rfl rfl (nb rfl) rfl rfl rfl rfl (by first | rfl | omega) (by first | omega | simp) ?_ | refine aB tabOk rfl rfl rfl (nb rfl) rfl rfl rfl (by assumption) ?_ | refine aB tabOk rfl rfl rfl (nb rfl) rfl rfl rfl (bM _ _ (by first | assumption | omega)) ?_ | refine aD rfl rfl rfl (nb rfl) rfl rfl (by omega) ?_ | ((fail_if_success (refine aE (b := true) rfl rfl rfl ?_)); (fail_if_success (refine aE (b := false) rfl rfl rfl ?_)); refine aQ rfl rfl rfl (fun hq => ?_) (fun hq => ?_) <;> first | subst hq | (first | (simp only [sD, sE, sB, sC, sN, sM, sT, sF] at hq; try (exfalso; omega)) | skip)) | fail) | (refine bQ ?_; first | refine bH ?_ | refine bN ?_ | refine aL ?_ | refine aX ?_ | refine bO ?_ | refine bF ?_ | refine bE ?_ | refine aA (b := true) rfl (fun _ => ?_) nTf | refine aA (b := false) rfl nFt (fun _ => ?_) | refine aY ?_ | refine aW ?_ | refine aU mixed (by kernel_rfl) ?_ | refine aC mixed (by kernel_rfl) ?_ | (refine aA rfl (fun hq => ?_) (fun hq => ?_) <;> first | subst hq | (first | (simp only [sD, sE, sB, sC, sN, sM, sT, sF] at hq; try (exfalso; omega)) | skip)) | fail) | (refine bK ?_; first | refine bT ?_ | refine aI ?_ | refine aM ?_ | fail) | (refine bA ?_; first | refine bP ?_ | refine aF ?_ | refine aG (by decide) ?_ | refine aJ ?_ | fail) | refine bL (aV (by kernel_rfl)) ?_ | fail)
      all_goals first | exact absurd rfl (by assumption) | exact absurd q3 (by assumption) | (exfalso; omega) | skip
      refine cJ (ι := {j : Nat // j ≤ i ∧ ∀ q (hq : q < j) (hqi : q < l.length), okPair (k1 == 137) l[q].name a1 = true}) (fun j => S.f ⟨[(7, .imm (.lit (.int .i64 (j.1 : Int)))), (6, .imm (Tree.iv (.node k1 0 a1 b1 [c]))), (5, .imm (.lit (.int .i64 (i : Int)))), (0, .imm (.sl false l.length (Tree.ivs l))), (1, .imm (.lit (.int .i64 k1)))], []⟩) (fun j => i - j.1) ⟨0, Nat.zero_le _, fun q h h2 => by omega⟩ (cB (by repeat' first | exact trivial | refine ⟨rfl, ?_⟩) (by repeat' first | exact trivial | refine ⟨rfl, ?_⟩)) ?_
      rintro ⟨j, hj, hpj⟩
      dsimp only
      by_cases hji : j < i
      · obtain ⟨k2, n2, a2, b2, ks2, e2, hiv2, _⟩ := eB h (show j < l.length by omega)
        have hbp := @pM l k1 i j hji hil
        have en : l[i].name = a1 := by rw [e1]; rfl
        have en2 : (l[j]'(by omega)).name = a2 := by rw [e2]; rfl
        rw [en, en2] at hbp
        cases hop : okPair (k1 == 137) a2 a1 with
        | false =>
          rw [hbp hop]
          (repeat' (first | refine bG ?_ | (refine bJ ?_; first | refine aR tabOk rfl rfl rfl (nb rfl) rfl ?_ | refine aZ rfl rfl (nb rfl) ?_ | (refine bI rfl rfl rfl (nb rfl) rfl rfl rfl (fun hq => ?_) (fun hq => ?_) <;> (first | (simp only [sD, sE, sB, sC, sN, sM, sT, sF] at hq; try (exfalso; omega)) | skip))| refine aB tabOk rfl rfl rfl (nb rfl) rfl rfl rfl hiv2 ?_ | refine aD rfl rfl rfl (nb rfl) rfl rfl (by omega) ?_ | refine bC rfl rfl rfl (nb rfl) rfl rfl rfl (by omega) (by omega) ?_ | refine bD rfl rfl rfl (nb rfl) rfl rfl rfl (by omega) (by omega) ?_ | refine bB tabOk rfl rfl rfl (nb rfl) rfl rfl rfl rfl rfl rfl rfl rfl rfl ?_ | refine aT tabOk rfl rfl (nb rfl) rfl ?_ | refine aN tabOk rfl rfl rfl (nb rfl) rfl rfl rfl rfl rfl rfl ?_ | refine aO tabOk rfl rfl rfl (nb rfl) rfl rfl rfl rfl ?_ | refine aK tabOk rfl rfl rfl rfl rfl rfl rfl rfl rfl rfl rfl ?_ | refine aP tabOk rfl rfl rfl (nb rfl) rfl rfl rfl rfl (by first | assumption | omega) ?_ | refine aH tabOk rfl rfl rfl (nb rfl) rfl rfl rfl rfl (by first | rfl | omega) (by first | omega | simp) ?_ | refine aB tabOk rfl rfl rfl (nb rfl) rfl rfl rfl (by assumption) ?_ | refine aB tabOk rfl rfl rfl (nb rfl) rfl rfl rfl (bM _ _ (by first | assumption | omega)) ?_ | refine aD rfl rfl rfl (nb rfl) rfl rfl (by omega) ?_ | ((fail_if_success (refine aE (b := true) rfl rfl rfl ?_)); (fail_if_success (refine aE (b := false) rfl rfl rfl ?_)); refine aQ rfl rfl rfl (fun hq => ?_) (fun hq => ?_) <;> first | subst hq | (first | (simp only [sD, sE, sB, sC, sN, sM, sT, sF] at hq; try (exfalso; omega)) | skip)) | fail) | (refine bQ ?_; first | refine bH ?_ | refine bN ?_ | refine aL ?_ | refine aX ?_ | refine bO ?_ | refine bF ?_ | refine bE ?_ | refine aA (b := true) rfl (fun _ => ?_) nTf | refine aA (b := false) rfl nFt (fun _ => ?_) | refine aY ?_ | refine aW ?_ | refine aU mixed (by kernel_rfl) ?_ | refine aC mixed (by kernel_rfl) ?_ | (refine aA rfl (fun hq => ?_) (fun hq => ?_) <;> first | subst hq | (first | (simp only [sD, sE, sB, sC, sN, sM, sT, sF] at hq; try (exfalso; omega)) | skip)) | fail) | (refine bK ?_; first | refine bT ?_ | refine aI ?_ | refine aM ?_ | fail) | (refine bA ?_; first | refine bP ?_ | refine aF ?_ | refine aG (by decide) ?_ | refine aJ ?_ | fail) | refine bL (aV (by kernel_rfl)) ?_ | fail)
           all_goals first
             | exact bZ (by first | exact .inl rfl | exact .inr rfl) (bU rfl (aS rfl)) rfl
             | (exfalso; omega)
             | (exfalso; by_cases h137 : k1 = 137 <;> simp_all [okPair, gtB, ltB, eqB]; done))
        | true =>
          have hpj2 : ∀ q (hq : q < j + 1) (hqi : q < l.length), okPair (k1 == 137) l[q].name a1 = true := fun q hq hqi => by
            rcases Nat.lt_or_ge q j with h3 | h3
            · exact hpj q h3 hqi
            · have e : q = j := by omega
              subst e
              rw [en2]; exact hop
          (repeat' (first | refine bG ?_ | (refine bJ ?_; first | refine aR tabOk rfl rfl rfl (nb rfl) rfl ?_ | refine aZ rfl rfl (nb rfl) ?_ | (refine bI rfl rfl rfl (nb rfl) rfl rfl rfl (fun hq => ?_) (fun hq => ?_) <;> (first | (simp only [sD, sE, sB, sC, sN, sM, sT, sF] at hq; try (exfalso; omega)) | skip))| refine aB tabOk rfl rfl rfl (nb rfl) rfl rfl rfl hiv2 ?_ | refine aD rfl rfl rfl (nb rfl) rfl rfl (by omega) ?_ | refine bC rfl rfl rfl (nb rfl) rfl rfl rfl (by omega) (by omega) ?_ | refine bD rfl rfl rfl (nb rfl) rfl rfl rfl (by omega) (by omega) ?_ | refine bB tabOk rfl rfl rfl (nb rfl) rfl rfl rfl rfl rfl rfl rfl rfl rfl ?_ | refine aT tabOk rfl rfl (nb rfl) rfl ?_ | refine aN tabOk rfl rfl rfl (nb rfl) rfl rfl rfl rfl rfl rfl ?_ | refine aO tabOk rfl rfl rfl (nb rfl) rfl rfl rfl rfl ?_ | refine aK tabOk rfl rfl rfl rfl rfl rfl rfl rfl rfl rfl rfl ?_ | refine aP tabOk rfl rfl rfl (nb rfl) rfl rfl rfl rfl (by first | assumption | omega) ?_ | refine aH tabOk rfl rfl rfl (nb rfl) rfl rfl rfl rfl (by first | rfl | omega) (by first | omega | simp) ?_ | refine aB tabOk rfl rfl rfl (nb rfl) rfl rfl rfl (by assumption) ?_ | refine aB tabOk rfl rfl rfl (nb rfl) rfl rfl rfl (bM _ _ (by first | assumption | omega)) ?_ | refine aD rfl rfl rfl (nb rfl) rfl rfl (by omega) ?_ | ((fail_if_success (refine aE (b := true) rfl rfl rfl ?_)); (fail_if_success (refine aE (b := false) rfl rfl rfl ?_)); refine aQ rfl rfl rfl (fun hq => ?_) (fun hq => ?_) <;> first | subst hq | (first | (simp only [sD, sE, sB, sC, sN, sM, sT, sF] at hq; try (exfalso; omega)) | skip)) | fail) | (refine bQ ?_; first | refine bH ?_ | refine bN ?_ | refine aL ?_ | refine aX ?_ | refine bO ?_ | refine bF ?_ | refine bE ?_ | refine aA (b := true) rfl (fun _ => ?_) nTf | refine aA (b := false) rfl nFt (fun _ => ?_) | refine aY ?_ | refine aW ?_ | refine aU mixed (by kernel_rfl) ?_ | refine aC mixed (by kernel_rfl) ?_ | (refine aA rfl (fun hq => ?_) (fun hq => ?_) <;> first | subst hq | (first | (simp only [sD, sE, sB, sC, sN, sM, sT, sF] at hq; try (exfalso; omega)) | skip)) | fail) | (refine bK ?_; first | refine bT ?_ | refine aI ?_ | refine aM ?_ | fail) | (refine bA ?_; first | refine bP ?_ | refine aF ?_ | refine aG (by decide) ?_ | refine aJ ?_ | fail) | refine bL (aV (by kernel_rfl)) ?_ | fail)
           all_goals first
             | exact ⟨⟨j + 1, hji, hpj2⟩, (by show i - (j + 1) < i - j; omega), (cB (by repeat' first | exact trivial | refine ⟨rfl, ?_⟩) (by repeat' first | exact trivial | refine ⟨rfl, ?_⟩))⟩
             | (exfalso; omega)
             | (exfalso; by_cases h137 : k1 = 137 <;> simp_all [okPair, gtB, ltB, eqB]; done))
      · have ej : j = i := by omega
        subst ej
        have hp2 : ∀ j2 q (hjq : j2 < q) (hq : q < l.length), q < j + 1 → okPair (k1 == 137) (l[j2]'(by omega)).name l[q].name = true := fun j2 q hjq hq h2 => by
          rcases Nat.lt_or_ge q j with h3 | h3
          · exact hp j2 q hjq hq h3
          · have e : q = j := by omega
            subst e
            rw [e1]
            exact hpj j2 hjq (by omega)
        repeat' (first | refine bG ?_ | (refine bJ ?_; first | refine aR tabOk rfl rfl rfl (nb rfl) rfl ?_ | refine aZ rfl rfl (nb rfl) ?_ | (refine bI rfl rfl rfl (nb rfl) rfl rfl rfl (fun hq => ?_) (fun hq => ?_) <;> (first | (simp only [sD, sE, sB, sC, sN, sM, sT, sF] at hq; try (exfalso; omega)) | skip)) | refine aD rfl rfl rfl (nb rfl) rfl rfl (by omega) ?_ | refine bC rfl rfl rfl (nb rfl) rfl rfl rfl (by omega) (by omega) ?_ | refine bD rfl rfl rfl (nb rfl) rfl rfl rfl (by omega) (by omega) ?_ | refine bB tabOk rfl rfl rfl (nb rfl) rfl rfl rfl rfl rfl rfl rfl rfl rfl ?_ | refine aT tabOk rfl rfl (nb rfl) rfl ?_ | refine aN tabOk rfl rfl rfl (nb rfl) rfl rfl rfl rfl rfl rfl ?_ | refine aO tabOk rfl rfl rfl (nb rfl) rfl rfl rfl rfl ?_ | refine aK tabOk rfl rfl rfl rfl rfl rfl rfl rfl rfl rfl rfl ?_ | refine aP tabOk rfl rfl rfl (nb rfl) rfl rfl rfl rfl (by first | assumption | omega) ?_ | refine aH tabOk rfl rfl rfl (nb rfl) rfl rfl rfl rfl (by first | rfl | omega) (by first | omega | simp) ?_ | refine aB tabOk rfl rfl rfl (nb rfl) rfl rfl rfl (by assumption) ?_ | refine aB tabOk rfl rfl rfl (nb rfl) rfl rfl rfl (bM _ _ (by first | assumption | omega)) ?_ | refine aD rfl rfl rfl (nb rfl) rfl rfl (by omega) ?_ | ((fail_if_success (refine aE (b := true) rfl rfl rfl ?_)); (fail_if_success (refine aE (b := false) rfl rfl rfl ?_)); refine aQ rfl rfl rfl (fun hq => ?_) (fun hq => ?_) <;> first | subst hq | (first | (simp only [sD, sE, sB, sC, sN, sM, sT, sF] at hq; try (exfalso; omega)) | skip)) | fail) | (refine bQ ?_; first | refine bH ?_ | refine bN ?_ | refine aL ?_ | refine aX ?_ | refine bO ?_ | refine bF ?_ | refine bE ?_ | refine aA (b := true) rfl (fun _ => ?_) nTf | refine aA (b := false) rfl nFt (fun _ => ?_) | refine aY ?_ | refine aW ?_ | refine aU mixed (by kernel_rfl) ?_ | refine aC mixed (by kernel_rfl) ?_ | (refine aA rfl (fun hq => ?_) (fun hq => ?_) <;> first | subst hq | (first | (simp only [sD, sE, sB, sC, sN, sM, sT, sF] at hq; try (exfalso; omega)) | skip)) | fail) | (refine bK ?_; first | refine bT ?_ | refine aI ?_ | refine aM ?_ | fail) | (refine bA ?_; first | refine bP ?_ | refine aF ?_ | refine aG (by decide) ?_ | refine aJ ?_ | fail) | refine bL (aV (by kernel_rfl)) ?_ | fail)
        all_goals first
          | (exfalso; omega)
          | exact ⟨⟨j + 1, hil, hn2, hp2⟩, (by show l.length - (j + 1) < l.length - j; omega), (cB (by repeat' first | exact trivial | refine ⟨rfl, ?_⟩) (by repeat' first | exact trivial | refine ⟨rfl, ?_⟩))⟩
  · have ei : i = l.length := by omega
    subst ei
    by_cases h137 : kind = 137
    · subst h137
      have hT : listB l 137 = true := (fS l 137).2 ⟨fun q hq => hn q hq hq, fun j q hjq hq => hp j q hjq hq hq, .inl rfl⟩
      rw [hT]
      repeat' (first | refine bG ?_ | (refine bJ ?_; first | refine aR tabOk rfl rfl rfl (nb rfl) rfl ?_ | refine aZ rfl rfl (nb rfl) ?_ | (refine bI rfl rfl rfl (nb rfl) rfl rfl rfl (fun hq => ?_) (fun hq => ?_) <;> (first | (simp only [sD, sE, sB, sC, sN, sM, sT, sF] at hq; try (exfalso; omega)) | skip)) | refine aD rfl rfl rfl (nb rfl) rfl rfl (by omega) ?_ | refine bC rfl rfl rfl (nb rfl) rfl rfl rfl (by omega) (by omega) ?_ | refine bD rfl rfl rfl (nb rfl) rfl rfl rfl (by omega) (by omega) ?_ | refine bB tabOk rfl rfl rfl (nb rfl) rfl rfl rfl rfl rfl rfl rfl rfl rfl ?_ | refine aT tabOk rfl rfl (nb rfl) rfl ?_ | refine aN tabOk rfl rfl rfl (nb rfl) rfl rfl rfl rfl rfl rfl ?_ | refine aO tabOk rfl rfl rfl (nb rfl) rfl rfl rfl rfl ?_ | refine aK tabOk rfl rfl rfl rfl rfl rfl rfl rfl rfl rfl rfl ?_ | refine aP tabOk rfl rfl rfl (nb rfl) rfl rfl rfl rfl (by first | assumption | omega) ?_ | refine aH tabOk rfl rfl rfl (nb rfl) rfl rfl rfl rfl (by first | rfl | omega) (by first | omega | simp) ?_ | refine aB tabOk rfl rfl rfl (nb rfl) rfl rfl rfl (by assumption) ?_ | refine aB tabOk rfl rfl rfl (nb rfl) rfl rfl rfl (bM _ _ (by first | assumption | omega)) ?_ | refine aD rfl rfl rfl (nb rfl) rfl rfl (by omega) ?_ | ((fail_if_success (refine aE (b := true) rfl rfl rfl ?_)); (fail_if_success (refine aE (b := false) rfl rfl rfl ?_)); refine aQ rfl rfl rfl (fun hq => ?_) (fun hq => ?_) <;> first | subst hq | (first | (simp only [sD, sE, sB, sC, sN, sM, sT, sF] at hq; try (exfalso; omega)) | skip)) | fail) | (refine bQ ?_; first | refine bH ?_ | refine bN ?_ | refine aL ?_ | refine aX ?_ | refine bO ?_ | refine bF ?_ | refine bE ?_ | refine aA (b := true) rfl (fun _ => ?_) nTf | refine aA (b := false) rfl nFt (fun _ => ?_) | refine aY ?_ | refine aW ?_ | refine aU mixed (by kernel_rfl) ?_ | refine aC mixed (by kernel_rfl) ?_ | (refine aA rfl (fun hq => ?_) (fun hq => ?_) <;> first | subst hq | (first | (simp only [sD, sE, sB, sC, sN, sM, sT, sF] at hq; try (exfalso; omega)) | skip)) | fail) | (refine bK ?_; first | refine bT ?_ | refine aI ?_ | refine aM ?_ | fail) | (refine bA ?_; first | refine bP ?_ | refine aF ?_ | refine aG (by decide) ?_ | refine aJ ?_ | fail) | refine bL (aV (by kernel_rfl)) ?_ | fail)
      all_goals first
        | exact bZ (by first | exact .inl rfl | exact .inr rfl) (bU rfl (aS rfl)) rfl
        | exact absurd rfl (by assumption)
        | (exfalso; omega)
    · by_cases h0 : l.length = 0
      · have hT : listB l kind = false := by
          rw [Bool.eq_false_iff]
          intro hc2
          rcases ((fS l kind).1 hc2).2.2 with h | h
          · exact h137 h
          · omega
        rw [hT]
        repeat' (first | refine bG ?_ | (refine bJ ?_; first | refine aR tabOk rfl rfl rfl (nb rfl) rfl ?_ | refine aZ rfl rfl (nb rfl) ?_ | (refine bI rfl rfl rfl (nb rfl) rfl rfl rfl (fun hq => ?_) (fun hq => ?_) <;> (first | (simp only [sD, sE, sB, sC, sN, sM, sT, sF] at hq; try (exfalso; omega)) | skip)) | refine aD rfl rfl rfl (nb rfl) rfl rfl (by omega) ?_ | refine bC rfl rfl rfl (nb rfl) rfl rfl rfl (by omega) (by omega) ?_ | refine bD rfl rfl rfl (nb rfl) rfl rfl rfl (by omega) (by omega) ?_ | refine bB tabOk rfl rfl rfl (nb rfl) rfl rfl rfl rfl rfl rfl rfl rfl rfl ?_ | refine aT tabOk rfl rfl (nb rfl) rfl ?_ | refine aN tabOk rfl rfl rfl (nb rfl) rfl rfl rfl rfl rfl rfl ?_ | refine aO tabOk rfl rfl rfl (nb rfl) rfl rfl rfl rfl ?_ | refine aK tabOk rfl rfl rfl rfl rfl rfl rfl rfl rfl rfl rfl ?_ | refine aP tabOk rfl rfl rfl (nb rfl) rfl rfl rfl rfl (by first | assumption | omega) ?_ | refine aH tabOk rfl rfl rfl (nb rfl) rfl rfl rfl rfl (by first | rfl | omega) (by first | omega | simp) ?_ | refine aB tabOk rfl rfl rfl (nb rfl) rfl rfl rfl (by assumption) ?_ | refine aB tabOk rfl rfl rfl (nb rfl) rfl rfl rfl (bM _ _ (by first | assumption | omega)) ?_ | refine aD rfl rfl rfl (nb rfl) rfl rfl (by omega) ?_ | ((fail_if_success (refine aE (b := true) rfl rfl rfl ?_)); (fail_if_success (refine aE (b := false) rfl rfl rfl ?_)); refine aQ rfl rfl rfl (fun hq => ?_) (fun hq => ?_) <;> first | subst hq | (first | (simp only [sD, sE, sB, sC, sN, sM, sT, sF] at hq; try (exfalso; omega)) | skip)) | fail) | (refine bQ ?_; first | refine bH ?_ | refine bN ?_ | refine aL ?_ | refine aX ?_ | refine bO ?_ | refine bF ?_ | refine bE ?_ | refine aA (b := true) rfl (fun _ => ?_) nTf | refine aA (b := false) rfl nFt (fun _ => ?_) | refine aY ?_ | refine aW ?_ | refine aU mixed (by kernel_rfl) ?_ | refine aC mixed (by kernel_rfl) ?_ | (refine aA rfl (fun hq => ?_) (fun hq => ?_) <;> first | subst hq | (first | (simp only [sD, sE, sB, sC, sN, sM, sT, sF] at hq; try (exfalso; omega)) | skip)) | fail) | (refine bK ?_; first | refine bT ?_ | refine aI ?_ | refine aM ?_ | fail) | (refine bA ?_; first | refine bP ?_ | refine aF ?_ | refine aG (by decide) ?_ | refine aJ ?_ | fail) | refine bL (aV (by kernel_rfl)) ?_ | fail)
        all_goals first
          | exact bZ (by first | exact .inl rfl | exact .inr rfl) (bU rfl (aS rfl)) rfl
          | exact absurd (by assumption) h137
          | (exfalso; omega)
      · have hT : listB l kind = true := (fS l kind).2 ⟨fun q hq => hn q hq hq, fun j q hjq hq => hp j q hjq hq hq, .inr (by omega)⟩
        rw [hT]
        repeat' (first | refine bG ?_ | (refine bJ ?_; first | refine aR tabOk rfl rfl rfl (nb rfl) rfl ?_ | refine aZ rfl rfl (nb rfl) ?_ | (refine bI rfl rfl rfl (nb rfl) rfl rfl rfl (fun hq => ?_) (fun hq => ?_) <;> (first | (simp only [sD, sE, sB, sC, sN, sM, sT, sF] at hq; try (exfalso; omega)) | skip)) | refine aD rfl rfl rfl (nb rfl) rfl rfl (by omega) ?_ | refine bC rfl rfl rfl (nb rfl) rfl rfl rfl (by omega) (by omega) ?_ | refine bD rfl rfl rfl (nb rfl) rfl rfl rfl (by omega) (by omega) ?_ | refine bB tabOk rfl rfl rfl (nb rfl) rfl rfl rfl rfl rfl rfl rfl rfl rfl ?_ | refine aT tabOk rfl rfl (nb rfl) rfl ?_ | refine aN tabOk rfl rfl rfl (nb rfl) rfl rfl rfl rfl rfl rfl ?_ | refine aO tabOk rfl rfl rfl (nb rfl) rfl rfl rfl rfl ?_ | refine aK tabOk rfl rfl rfl rfl rfl rfl rfl rfl rfl rfl rfl ?_ | refine aP tabOk rfl rfl rfl (nb rfl) rfl rfl rfl rfl (by first | assumption | omega) ?_ | refine aH tabOk rfl rfl rfl (nb rfl) rfl rfl rfl rfl (by first | rfl | omega) (by first | omega | simp) ?_ | refine aB tabOk rfl rfl rfl (nb rfl) rfl rfl rfl (by assumption) ?_ | refine aB tabOk rfl rfl rfl (nb rfl) rfl rfl rfl (bM _ _ (by first | assumption | omega)) ?_ | refine aD rfl rfl rfl (nb rfl) rfl rfl (by omega) ?_ | ((fail_if_success (refine aE (b := true) rfl rfl rfl ?_)); (fail_if_success (refine aE (b := false) rfl rfl rfl ?_)); refine aQ rfl rfl rfl (fun hq => ?_) (fun hq => ?_) <;> first | subst hq | (first | (simp only [sD, sE, sB, sC, sN, sM, sT, sF] at hq; try (exfalso; omega)) | skip)) | fail) | (refine bQ ?_; first | refine bH ?_ | refine bN ?_ | refine aL ?_ | refine aX ?_ | refine bO ?_ | refine bF ?_ | refine bE ?_ | refine aA (b := true) rfl (fun _ => ?_) nTf | refine aA (b := false) rfl nFt (fun _ => ?_) | refine aY ?_ | refine aW ?_ | refine aU mixed (by kernel_rfl) ?_ | refine aC mixed (by kernel_rfl) ?_ | (refine aA rfl (fun hq => ?_) (fun hq => ?_) <;> first | subst hq | (first | (simp only [sD, sE, sB, sC, sN, sM, sT, sF] at hq; try (exfalso; omega)) | skip)) | fail) | (refine bK ?_; first | refine bT ?_ | refine aI ?_ | refine aM ?_ | fail) | (refine bA ?_; first | refine bP ?_ | refine aF ?_ | refine aG (by decide) ?_ | refine aJ ?_ | fail) | refine bL (aV (by kernel_rfl)) ?_ | fail)
        all_goals first
          | exact bZ (by first | exact .inl rfl | exact .inr rfl) (bU rfl (aS rfl)) rfl
          | exact absurd (by assumption) h137
          | (exfalso; omega)
end Go.Proofs.Ytlbemgokilhdnaa.Ab
namespace Go.Proofs.Ytlbemgokilhdnaa.Ab
set_option linter.unusedVariables false
set_option linter.unusedSimpArgs false
open Go.RowKit
attribute [local irreducible] AWP AOps AExit AThen ABlock ANoGoto FeetOk
def firstP (w : UInt8) (x : Tree) : Bool := if w = 99 then isConP x else if w = 107 then isKindP x else isTermP x
def partsP : List UInt8 → List Tree → Bool
  | [], l => l.isEmpty
  | w :: ws, l => if w = 102 ∧ ws = [] then listB l 137 else if w = 97 ∧ ws = [] then listB l 149 else match l with
    | [] => false
    | x :: r => firstP w x && partsP ws r
theorem cI (l : List Tree) : partsP [] l = l.isEmpty := by rw [partsP.eq_def]
theorem cO (w : UInt8) (ws : List UInt8) (l : List Tree) : partsP (w :: ws) l = if w = 102 ∧ ws = [] then listB l 137 else if w = 97 ∧ ws = [] then listB l 149 else match l with
    | [] => false
    | x :: r => firstP w x && partsP ws r := by rw [partsP.eq_def]
theorem baL (l : List UInt8) : (⟨l.toArray⟩ : ByteArray).toList = l := ByteArray.toList_mk l
theorem uP (x : Tree) (r : List Tree) : IV.sl false ((x :: r).length - 1) (((Tree.ivs (x :: r)).drop (1 * 1)).take (((x :: r).length - 1) * 1)) = .sl false r.length (Tree.ivs r) := by
  have := dN r
  simp [Tree.ivs, this]
  exact List.take_of_length_le (by omega)
theorem vV (w : UInt8) (ws : List UInt8) : (⟨(w :: ws).toArray⟩ : ByteArray).extract 1 (⟨(w :: ws).toArray⟩ : ByteArray).size = ⟨ws.toArray⟩ := by
  apply ByteArray.ext
  apply Array.ext'
  rw [ByteArray.data_extract, Array.toList_extract]
  simp [List.extract_eq_take_drop, ByteArray.size]
theorem pN (w v : UInt8) : ((w.toNat : Int) = (v.toNat : Int)) ↔ w = v := by
  constructor
  · intro e
    apply UInt8.toNat_inj.1
    omega
  · intro e; rw [e]
set_option maxHeartbeats 16000000 in
set_option maxRecDepth 10000 in
theorem rK : ∀ (ws : List UInt8) (l : List Tree), Tree.wholes l = true → Tree.sizes l ≤ 1000000 → l.length < 1000000000 → ws.length ≤ 1000 →
    (∀ t', t'.size ≤ Tree.sizes l → t'.whole = true → ACalls Try.prog 61 [.imm t'.iv] [] (.imm (.lit (.bool (isTermP t')))) []) →
    ACalls Try.prog 100 [.imm (.sl false l.length (Tree.ivs l)), .imm (.lit (.string ⟨ws.toArray⟩))] [] (.imm (.lit (.bool (partsP ws l)))) []
  | [], l, h, hsz, hl, hw, hc => by
    rw [cI]
    cases l with
    | nil =>
      refine bR Try.func100 rfl rfl (nb rfl) rfl ?_
      repeat' (first | refine bG ?_ | (refine bJ ?_; first | refine aR tabOk rfl rfl rfl (nb rfl) rfl ?_ | refine aZ rfl rfl (nb rfl) ?_ | (refine bI rfl rfl rfl (nb rfl) rfl rfl rfl (fun hq => ?_) (fun hq => ?_) <;> (first | (simp only [sD, sE, sB, sC, sN, sM, sT, sF] at hq; try (exfalso; omega)) | skip)) | refine aD rfl rfl rfl (nb rfl) rfl rfl (by omega) ?_ | refine bC rfl rfl rfl (nb rfl) rfl rfl rfl (by omega) (by omega) ?_ | refine bD rfl rfl rfl (nb rfl) rfl rfl rfl (by omega) (by omega) ?_ | refine bB tabOk rfl rfl rfl (nb rfl) rfl rfl rfl rfl rfl rfl rfl rfl rfl ?_ | refine aT tabOk rfl rfl (nb rfl) rfl ?_ | refine aN tabOk rfl rfl rfl (nb rfl) rfl rfl rfl rfl rfl rfl ?_ | refine aO tabOk rfl rfl rfl (nb rfl) rfl rfl rfl rfl ?_ | refine aK tabOk rfl rfl rfl rfl rfl rfl rfl rfl rfl rfl rfl ?_ | refine aP tabOk rfl rfl rfl (nb rfl) rfl rfl rfl rfl (by first | assumption | omega) ?_ | refine aH tabOk rfl rfl rfl (nb rfl) rfl rfl rfl rfl (by first | rfl | omega) (by first | omega | simp) ?_ | refine aB tabOk rfl rfl rfl (nb rfl) rfl rfl rfl (by assumption) ?_ | refine aB tabOk rfl rfl rfl (nb rfl) rfl rfl rfl (bM _ _ (by first | assumption | omega)) ?_ | refine aD rfl rfl rfl (nb rfl) rfl rfl (by omega) ?_ | ((fail_if_success (refine aE (b := true) rfl rfl rfl ?_)); (fail_if_success (refine aE (b := false) rfl rfl rfl ?_)); refine aQ rfl rfl rfl (fun hq => ?_) (fun hq => ?_) <;> first | subst hq | (first | (simp only [sD, sE, sB, sC, sN, sM, sT, sF] at hq; try (exfalso; omega)) | skip)) | fail) | (refine bQ ?_; first | refine bH ?_ | refine bN ?_ | refine aL ?_ | refine aX ?_ | refine bO ?_ | refine bF ?_ | refine bE ?_ | refine aA (b := true) rfl (fun _ => ?_) nTf | refine aA (b := false) rfl nFt (fun _ => ?_) | refine aY ?_ | refine aW ?_ | refine aU mixed (by kernel_rfl) ?_ | refine aC mixed (by kernel_rfl) ?_ | (refine aA rfl (fun hq => ?_) (fun hq => ?_) <;> first | subst hq | (first | (simp only [sD, sE, sB, sC, sN, sM, sT, sF] at hq; try (exfalso; omega)) | skip)) | fail) | (refine bK ?_; first | refine bT ?_ | refine aI ?_ | refine aM ?_ | fail) | (refine bA ?_; first | refine bP ?_ | refine aF ?_ | refine aG (by decide) ?_ | refine aJ ?_ | fail) | refine bL (aV (by kernel_rfl)) ?_ | fail)
      all_goals first
        | exact bZ (by first | exact .inl rfl | exact .inr rfl) (bU rfl (aS rfl)) rfl
        | exact absurd rfl (by assumption)
    | cons x r =>
      refine bR Try.func100 rfl rfl (nb rfl) rfl ?_
      repeat' (first | refine bG ?_ | (refine bJ ?_; first | refine aR tabOk rfl rfl rfl (nb rfl) rfl ?_ | refine aZ rfl rfl (nb rfl) ?_ | (refine bI rfl rfl rfl (nb rfl) rfl rfl rfl (fun hq => ?_) (fun hq => ?_) <;> (first | (simp only [sD, sE, sB, sC, sN, sM, sT, sF] at hq; try (exfalso; omega)) | skip)) | refine aD rfl rfl rfl (nb rfl) rfl rfl (by omega) ?_ | refine bC rfl rfl rfl (nb rfl) rfl rfl rfl (by omega) (by omega) ?_ | refine bD rfl rfl rfl (nb rfl) rfl rfl rfl (by omega) (by omega) ?_ | refine bB tabOk rfl rfl rfl (nb rfl) rfl rfl rfl rfl rfl rfl rfl rfl rfl ?_ | refine aT tabOk rfl rfl (nb rfl) rfl ?_ | refine aN tabOk rfl rfl rfl (nb rfl) rfl rfl rfl rfl rfl rfl ?_ | refine aO tabOk rfl rfl rfl (nb rfl) rfl rfl rfl rfl ?_ | refine aK tabOk rfl rfl rfl rfl rfl rfl rfl rfl rfl rfl rfl ?_ | refine aP tabOk rfl rfl rfl (nb rfl) rfl rfl rfl rfl (by first | assumption | omega) ?_ | refine aH tabOk rfl rfl rfl (nb rfl) rfl rfl rfl rfl (by first | rfl | omega) (by first | omega | simp) ?_ | refine aB tabOk rfl rfl rfl (nb rfl) rfl rfl rfl (by assumption) ?_ | refine aB tabOk rfl rfl rfl (nb rfl) rfl rfl rfl (bM _ _ (by first | assumption | omega)) ?_ | refine aD rfl rfl rfl (nb rfl) rfl rfl (by omega) ?_ | ((fail_if_success (refine aE (b := true) rfl rfl rfl ?_)); (fail_if_success (refine aE (b := false) rfl rfl rfl ?_)); refine aQ rfl rfl rfl (fun hq => ?_) (fun hq => ?_) <;> first | subst hq | (first | (simp only [sD, sE, sB, sC, sN, sM, sT, sF] at hq; try (exfalso; omega)) | skip)) | fail) | (refine bQ ?_; first | refine bH ?_ | refine bN ?_ | refine aL ?_ | refine aX ?_ | refine bO ?_ | refine bF ?_ | refine bE ?_ | refine aA (b := true) rfl (fun _ => ?_) nTf | refine aA (b := false) rfl nFt (fun _ => ?_) | refine aY ?_ | refine aW ?_ | refine aU mixed (by kernel_rfl) ?_ | refine aC mixed (by kernel_rfl) ?_ | (refine aA rfl (fun hq => ?_) (fun hq => ?_) <;> first | subst hq | (first | (simp only [sD, sE, sB, sC, sN, sM, sT, sF] at hq; try (exfalso; omega)) | skip)) | fail) | (refine bK ?_; first | refine bT ?_ | refine aI ?_ | refine aM ?_ | fail) | (refine bA ?_; first | refine bP ?_ | refine aF ?_ | refine aG (by decide) ?_ | refine aJ ?_ | fail) | refine bL (aV (by kernel_rfl)) ?_ | fail)
      all_goals first
        | (refine bV (by first | exact .inl rfl | exact .inr rfl) (bU rfl (aS rfl)) rfl ?_; refine cE ?_; simp_all [List.length_cons]; done)
        | exact absurd rfl (by assumption)
        | (exfalso; simp only [List.length_cons] at *; omega)
  | w :: ws, l, h, hsz, hl, hw, hc => by
    have n1 : ¬ ((⟨(w :: ws).toArray⟩ : ByteArray).toList = (⟨#[]⟩ : ByteArray).toList) := fun e => by
      rw [baL] at e
      have e2 : (⟨#[]⟩ : ByteArray).toList = [] := baL []
      rw [e2] at e; cases e
    have n2 : (⟨(w :: ws).toArray⟩ : ByteArray).toList = (⟨#[102]⟩ : ByteArray).toList ↔ (w = 102 ∧ ws = []) := by
      have e2 : (⟨#[102]⟩ : ByteArray).toList = [102] := baL [102]
      rw [baL, e2]; simp
    have n3 : (⟨(w :: ws).toArray⟩ : ByteArray).toList = (⟨#[97]⟩ : ByteArray).toList ↔ (w = 97 ∧ ws = []) := by
      have e2 : (⟨#[97]⟩ : ByteArray).toList = [97] := baL [97]
      rw [baL, e2]; simp
    have hg : (⟨(w :: ws).toArray⟩ : ByteArray)[0]? = some w := rfl
    have hcut := vV w ws
    have hbz : (⟨(w :: ws).toArray⟩ : ByteArray).size = ws.length + 1 := by simp [ByteArray.size]
    rw [cO]
    by_cases h102 : w = 102 ∧ ws = []
    · rw [if_pos h102]
      have cl := uO l 137 h hl (fun t' h1 h2 => hc t' (by omega) h2)
      have n2 := n2.2 h102
      generalize (⟨(w :: ws).toArray⟩ : ByteArray) = S at *
      refine bR Try.func100 rfl rfl (nb rfl) rfl ?_
      repeat' (first | refine bG ?_ | (refine bJ ?_; first | refine aR tabOk rfl rfl rfl (nb rfl) rfl ?_ | refine aZ rfl rfl (nb rfl) ?_ | (refine bI rfl rfl rfl (nb rfl) rfl rfl rfl (fun hq => ?_) (fun hq => ?_) <;> (first | (simp only [sD, sE, sB, sC, sN, sM, sT, sF] at hq; try (exfalso; omega)) | skip))| refine bS rfl rfl (nb rfl) rfl rfl rfl rfl (cl) ?_ | refine aD rfl rfl rfl (nb rfl) rfl rfl (by omega) ?_ | refine bC rfl rfl rfl (nb rfl) rfl rfl rfl (by omega) (by omega) ?_ | refine bD rfl rfl rfl (nb rfl) rfl rfl rfl (by omega) (by omega) ?_ | refine bB tabOk rfl rfl rfl (nb rfl) rfl rfl rfl rfl rfl rfl rfl rfl rfl ?_ | refine aT tabOk rfl rfl (nb rfl) rfl ?_ | refine aN tabOk rfl rfl rfl (nb rfl) rfl rfl rfl rfl rfl rfl ?_ | refine aO tabOk rfl rfl rfl (nb rfl) rfl rfl rfl rfl ?_ | refine aK tabOk rfl rfl rfl rfl rfl rfl rfl rfl rfl rfl rfl ?_ | refine aP tabOk rfl rfl rfl (nb rfl) rfl rfl rfl rfl (by first | assumption | omega) ?_ | refine aH tabOk rfl rfl rfl (nb rfl) rfl rfl rfl rfl (by first | rfl | omega) (by first | omega | simp) ?_ | refine aB tabOk rfl rfl rfl (nb rfl) rfl rfl rfl (by assumption) ?_ | refine aB tabOk rfl rfl rfl (nb rfl) rfl rfl rfl (bM _ _ (by first | assumption | omega)) ?_ | refine aD rfl rfl rfl (nb rfl) rfl rfl (by omega) ?_ | ((fail_if_success (refine aE (b := true) rfl rfl rfl ?_)); (fail_if_success (refine aE (b := false) rfl rfl rfl ?_)); refine aQ rfl rfl rfl (fun hq => ?_) (fun hq => ?_) <;> first | subst hq | (first | (simp only [sD, sE, sB, sC, sN, sM, sT, sF] at hq; try (exfalso; omega)) | skip)) | fail) | (refine bQ ?_; first | refine bH ?_ | refine bN ?_ | refine aL ?_ | refine aX ?_ | refine bO ?_ | refine bF ?_ | refine bE ?_ | refine aA (b := true) rfl (fun _ => ?_) nTf | refine aA (b := false) rfl nFt (fun _ => ?_) | refine aY ?_ | refine aW ?_ | refine aU mixed (by kernel_rfl) ?_ | refine aC mixed (by kernel_rfl) ?_ | (refine aA rfl (fun hq => ?_) (fun hq => ?_) <;> first | subst hq | (first | (simp only [sD, sE, sB, sC, sN, sM, sT, sF] at hq; try (exfalso; omega)) | skip)) | fail) | (refine bK ?_; first | refine bT ?_ | refine aI ?_ | refine aM ?_ | fail) | (refine bA ?_; first | refine bP ?_ | refine aF ?_ | refine aG (by decide) ?_ | refine aJ ?_ | fail) | refine bL (aV (by kernel_rfl)) ?_ | fail)
      all_goals first
        | exact bZ (by first | exact .inl rfl | exact .inr rfl) (bU rfl (aS rfl)) rfl
        | exact absurd (by assumption) n1
        | exact absurd n2 (by assumption)
    · rw [if_neg h102]
      have n2 : ¬ _ := fun e => h102 (n2.1 e)
      by_cases h97 : w = 97 ∧ ws = []
      · rw [if_pos h97]
        have cl := uO l 149 h hl (fun t' h1 h2 => hc t' (by omega) h2)
        have n3 := n3.2 h97
        generalize (⟨(w :: ws).toArray⟩ : ByteArray) = S at *
        refine bR Try.func100 rfl rfl (nb rfl) rfl ?_
        repeat' (first | refine bG ?_ | (refine bJ ?_; first | refine aR tabOk rfl rfl rfl (nb rfl) rfl ?_ | refine aZ rfl rfl (nb rfl) ?_ | (refine bI rfl rfl rfl (nb rfl) rfl rfl rfl (fun hq => ?_) (fun hq => ?_) <;> (first | (simp only [sD, sE, sB, sC, sN, sM, sT, sF] at hq; try (exfalso; omega)) | skip))| refine bS rfl rfl (nb rfl) rfl rfl rfl rfl (cl) ?_ | refine aD rfl rfl rfl (nb rfl) rfl rfl (by omega) ?_ | refine bC rfl rfl rfl (nb rfl) rfl rfl rfl (by omega) (by omega) ?_ | refine bD rfl rfl rfl (nb rfl) rfl rfl rfl (by omega) (by omega) ?_ | refine bB tabOk rfl rfl rfl (nb rfl) rfl rfl rfl rfl rfl rfl rfl rfl rfl ?_ | refine aT tabOk rfl rfl (nb rfl) rfl ?_ | refine aN tabOk rfl rfl rfl (nb rfl) rfl rfl rfl rfl rfl rfl ?_ | refine aO tabOk rfl rfl rfl (nb rfl) rfl rfl rfl rfl ?_ | refine aK tabOk rfl rfl rfl rfl rfl rfl rfl rfl rfl rfl rfl ?_ | refine aP tabOk rfl rfl rfl (nb rfl) rfl rfl rfl rfl (by first | assumption | omega) ?_ | refine aH tabOk rfl rfl rfl (nb rfl) rfl rfl rfl rfl (by first | rfl | omega) (by first | omega | simp) ?_ | refine aB tabOk rfl rfl rfl (nb rfl) rfl rfl rfl (by assumption) ?_ | refine aB tabOk rfl rfl rfl (nb rfl) rfl rfl rfl (bM _ _ (by first | assumption | omega)) ?_ | refine aD rfl rfl rfl (nb rfl) rfl rfl (by omega) ?_ | ((fail_if_success (refine aE (b := true) rfl rfl rfl ?_)); (fail_if_success (refine aE (b := false) rfl rfl rfl ?_)); refine aQ rfl rfl rfl (fun hq => ?_) (fun hq => ?_) <;> first | subst hq | (first | (simp only [sD, sE, sB, sC, sN, sM, sT, sF] at hq; try (exfalso; omega)) | skip)) | fail) | (refine bQ ?_; first | refine bH ?_ | refine bN ?_ | refine aL ?_ | refine aX ?_ | refine bO ?_ | refine bF ?_ | refine bE ?_ | refine aA (b := true) rfl (fun _ => ?_) nTf | refine aA (b := false) rfl nFt (fun _ => ?_) | refine aY ?_ | refine aW ?_ | refine aU mixed (by kernel_rfl) ?_ | refine aC mixed (by kernel_rfl) ?_ | (refine aA rfl (fun hq => ?_) (fun hq => ?_) <;> first | subst hq | (first | (simp only [sD, sE, sB, sC, sN, sM, sT, sF] at hq; try (exfalso; omega)) | skip)) | fail) | (refine bK ?_; first | refine bT ?_ | refine aI ?_ | refine aM ?_ | fail) | (refine bA ?_; first | refine bP ?_ | refine aF ?_ | refine aG (by decide) ?_ | refine aJ ?_ | fail) | refine bL (aV (by kernel_rfl)) ?_ | fail)
        all_goals first
          | exact bZ (by first | exact .inl rfl | exact .inr rfl) (bU rfl (aS rfl)) rfl
          | exact absurd (by assumption) n1
          | exact absurd (by assumption) n2
          | exact absurd n3 (by assumption)
      · rw [if_neg h97]
        have n3 : ¬ _ := fun e => h97 (n3.1 e)
        cases l with
        | nil =>
          generalize (⟨(w :: ws).toArray⟩ : ByteArray) = S at *
          refine bR Try.func100 rfl rfl (nb rfl) rfl ?_
          repeat' (first | refine bG ?_ | (refine bJ ?_; first | refine aR tabOk rfl rfl rfl (nb rfl) rfl ?_ | refine aZ rfl rfl (nb rfl) ?_ | (refine bI rfl rfl rfl (nb rfl) rfl rfl rfl (fun hq => ?_) (fun hq => ?_) <;> (first | (simp only [sD, sE, sB, sC, sN, sM, sT, sF] at hq; try (exfalso; omega)) | skip)) | refine aD rfl rfl rfl (nb rfl) rfl rfl (by omega) ?_ | refine bC rfl rfl rfl (nb rfl) rfl rfl rfl (by omega) (by omega) ?_ | refine bD rfl rfl rfl (nb rfl) rfl rfl rfl (by omega) (by omega) ?_ | refine bB tabOk rfl rfl rfl (nb rfl) rfl rfl rfl rfl rfl rfl rfl rfl rfl ?_ | refine aT tabOk rfl rfl (nb rfl) rfl ?_ | refine aN tabOk rfl rfl rfl (nb rfl) rfl rfl rfl rfl rfl rfl ?_ | refine aO tabOk rfl rfl rfl (nb rfl) rfl rfl rfl rfl ?_ | refine aK tabOk rfl rfl rfl rfl rfl rfl rfl rfl rfl rfl rfl ?_ | refine aP tabOk rfl rfl rfl (nb rfl) rfl rfl rfl rfl (by first | assumption | omega) ?_ | refine aH tabOk rfl rfl rfl (nb rfl) rfl rfl rfl rfl (by first | rfl | omega) (by first | omega | simp) ?_ | refine aB tabOk rfl rfl rfl (nb rfl) rfl rfl rfl (by assumption) ?_ | refine aB tabOk rfl rfl rfl (nb rfl) rfl rfl rfl (bM _ _ (by first | assumption | omega)) ?_ | refine aD rfl rfl rfl (nb rfl) rfl rfl (by omega) ?_ | ((fail_if_success (refine aE (b := true) rfl rfl rfl ?_)); (fail_if_success (refine aE (b := false) rfl rfl rfl ?_)); refine aQ rfl rfl rfl (fun hq => ?_) (fun hq => ?_) <;> first | subst hq | (first | (simp only [sD, sE, sB, sC, sN, sM, sT, sF] at hq; try (exfalso; omega)) | skip)) | fail) | (refine bQ ?_; first | refine bH ?_ | refine bN ?_ | refine aL ?_ | refine aX ?_ | refine bO ?_ | refine bF ?_ | refine bE ?_ | refine aA (b := true) rfl (fun _ => ?_) nTf | refine aA (b := false) rfl nFt (fun _ => ?_) | refine aY ?_ | refine aW ?_ | refine aU mixed (by kernel_rfl) ?_ | refine aC mixed (by kernel_rfl) ?_ | (refine aA rfl (fun hq => ?_) (fun hq => ?_) <;> first | subst hq | (first | (simp only [sD, sE, sB, sC, sN, sM, sT, sF] at hq; try (exfalso; omega)) | skip)) | fail) | (refine bK ?_; first | refine bT ?_ | refine aI ?_ | refine aM ?_ | fail) | (refine bA ?_; first | refine bP ?_ | refine aF ?_ | refine aG (by decide) ?_ | refine aJ ?_ | fail) | refine bL (aV (by kernel_rfl)) ?_ | fail)
          all_goals first
            | exact bZ (by first | exact .inl rfl | exact .inr rfl) (bU rfl (aS rfl)) rfl
            | exact absurd (by assumption) n1
            | exact absurd (by assumption) n2
            | exact absurd (by assumption) n3
            | exact absurd rfl (by assumption)
        | cons x r =>
          have hx : x.whole = true := bY h List.mem_cons_self
          have hr : Tree.wholes r = true := by rw [Tree.wholes, Bool.and_eq_true] at h; exact h.2
          rw [Tree.sizes] at hsz hc
          have hrl : r.length < 1000000000 := by rw [List.length_cons] at hl; omega
          have ct := rK ws r hr (by omega) hrl (by rw [List.length_cons] at hw; omega) (fun t' h1 h2 => hc t' (by omega) h2)
          have c1 := uM x hx (by omega)
          have c2 := rE x hx
          have c3 := hc x (by omega) hx
          have htl := uP x r
          have h0 : (Tree.ivs (x :: r))[0 * 1]? = some x.iv := rfl
          obtain ⟨k1, n1', a1, b1, ks1, e1⟩ := cL hx
          have hxi : ∃ cs, x.iv = .ptr cs 0 := by rw [e1]; exact ⟨_, rfl⟩
          obtain ⟨pc, hpc⟩ := hxi
          have hw99 := pN w 99
          have hw107 := pN w 107
          dsimp only
          unfold firstP
          generalize (⟨(w :: ws).toArray⟩ : ByteArray) = S at *
          generalize (⟨ws.toArray⟩ : ByteArray) = S' at *
          generalize partsP ws r = Q at *
          have hlc : (x :: r).length = r.length + 1 := rfl
          by_cases h99 : w = 99
          · rw [if_pos h99]
            have g1 : (w.toNat : Int) = 99 := hw99.2 h99
            clear hw107 hw99
            generalize isConP x = B at *
            cases B <;>
            (refine bR Try.func100 rfl rfl (nb rfl) rfl ?_
             repeat' (first | refine bG ?_ | (refine bJ ?_; first | refine aR tabOk rfl rfl rfl (nb rfl) rfl ?_ | refine aZ rfl rfl (nb rfl) ?_ | (refine bI rfl rfl rfl (nb rfl) rfl rfl rfl (fun hq => ?_) (fun hq => ?_) <;> (first | (simp only [sD, sE, sB, sC, sN, sM, sT, sF] at hq; try (exfalso; omega)) | skip))| refine jG (j := 0) tabOk rfl rfl rfl (nb rfl) rfl rfl rfl rfl hg ?_ | refine aH (j := 0) tabOk rfl rfl rfl (nb rfl) rfl rfl rfl rfl (by omega) (by omega) ?_ | refine aB tabOk rfl rfl rfl (nb rfl) rfl rfl rfl h0 ?_ | refine bS rfl rfl (nb rfl) rfl rfl rfl rfl (c1) ?_ | refine bS rfl rfl (nb rfl) rfl rfl rfl rfl (c2) ?_ | refine bS rfl rfl (nb rfl) rfl rfl rfl rfl (c3) ?_ | refine bS rfl rfl (nb rfl) rfl rfl rfl rfl (ct) ?_ | refine dK (l := 1) (h := (x :: r).length) tabOk rfl rfl rfl (nb rfl) rfl rfl rfl rfl rfl (by omega) (Nat.le_refl _) htl ?_ | refine dL (l := 1) tabOk rfl rfl rfl (nb rfl) rfl rfl rfl rfl (by omega) (Nat.le_refl _) hcut ?_ | refine aD rfl rfl rfl (nb rfl) rfl rfl (by omega) ?_ | refine bC rfl rfl rfl (nb rfl) rfl rfl rfl (by omega) (by omega) ?_ | refine bD rfl rfl rfl (nb rfl) rfl rfl rfl (by omega) (by omega) ?_ | refine bB tabOk rfl rfl rfl (nb rfl) rfl rfl rfl rfl rfl rfl rfl rfl rfl ?_ | refine aT tabOk rfl rfl (nb rfl) rfl ?_ | refine aN tabOk rfl rfl rfl (nb rfl) rfl rfl rfl rfl rfl rfl ?_ | refine aO tabOk rfl rfl rfl (nb rfl) rfl rfl rfl rfl ?_ | refine aK tabOk rfl rfl rfl rfl rfl rfl rfl rfl rfl rfl rfl ?_ | refine aP tabOk rfl rfl rfl (nb rfl) rfl rfl rfl rfl (by first | assumption | omega) ?_ | refine aH tabOk rfl rfl rfl (nb rfl) rfl rfl rfl rfl (by first | rfl | omega) (by first | omega | simp) ?_ | refine aB tabOk rfl rfl rfl (nb rfl) rfl rfl rfl (by assumption) ?_ | refine aB tabOk rfl rfl rfl (nb rfl) rfl rfl rfl (bM _ _ (by first | assumption | omega)) ?_ | refine aD rfl rfl rfl (nb rfl) rfl rfl (by omega) ?_ | ((fail_if_success (refine aE (b := true) rfl rfl rfl ?_)); (fail_if_success (refine aE (b := false) rfl rfl rfl ?_)); refine aQ rfl rfl rfl (fun hq => ?_) (fun hq => ?_) <;> first | subst hq | (first | (simp only [sD, sE, sB, sC, sN, sM, sT, sF] at hq; try (exfalso; omega)) | skip)) | fail) | (refine bQ ?_; first | refine bH ?_ | refine bN ?_ | refine aL ?_ | refine aX ?_ | refine bO ?_ | refine bF ?_ | refine bE ?_ | refine aA (b := true) rfl (fun _ => ?_) nTf | refine aA (b := false) rfl nFt (fun _ => ?_) | refine aY ?_ | refine aW ?_ | refine aU mixed (by kernel_rfl) ?_ | refine aC mixed (by kernel_rfl) ?_ | (refine aA rfl (fun hq => ?_) (fun hq => ?_) <;> first | subst hq | (first | (simp only [sD, sE, sB, sC, sN, sM, sT, sF] at hq; try (exfalso; omega)) | skip)) | fail) | (refine bK ?_; first | refine bT ?_ | refine aI ?_ | refine aM ?_ | fail) | (refine bA ?_; first | refine bP ?_ | refine aF ?_ | refine aG (by decide) ?_ | refine aJ ?_ | fail) | refine bL (aV (by kernel_rfl)) ?_ | fail)
             all_goals first
               | (refine bV (by first | exact .inl rfl | exact .inr rfl) (bU rfl (aS rfl)) rfl ?_; rfl)
               | exact absurd (by assumption) n1
               | exact absurd (by assumption) n2
               | exact absurd (by assumption) n3
               | (exfalso; omega))
          · rw [if_neg h99]
            have g1 : ¬ (w.toNat : Int) = 99 := fun e => h99 (hw99.1 e)
            by_cases h107 : w = 107
            · rw [if_pos h107]
              have g2 : (w.toNat : Int) = 107 := hw107.2 h107
              clear hw107 hw99
              generalize isKindP x = B at *
              cases B <;>
              (refine bR Try.func100 rfl rfl (nb rfl) rfl ?_
               repeat' (first | refine bG ?_ | (refine bJ ?_; first | refine aR tabOk rfl rfl rfl (nb rfl) rfl ?_ | refine aZ rfl rfl (nb rfl) ?_ | (refine bI rfl rfl rfl (nb rfl) rfl rfl rfl (fun hq => ?_) (fun hq => ?_) <;> (first | (simp only [sD, sE, sB, sC, sN, sM, sT, sF] at hq; try (exfalso; omega)) | skip))| refine jG (j := 0) tabOk rfl rfl rfl (nb rfl) rfl rfl rfl rfl hg ?_ | refine aH (j := 0) tabOk rfl rfl rfl (nb rfl) rfl rfl rfl rfl (by omega) (by omega) ?_ | refine aB tabOk rfl rfl rfl (nb rfl) rfl rfl rfl h0 ?_ | refine bS rfl rfl (nb rfl) rfl rfl rfl rfl (c1) ?_ | refine bS rfl rfl (nb rfl) rfl rfl rfl rfl (c2) ?_ | refine bS rfl rfl (nb rfl) rfl rfl rfl rfl (c3) ?_ | refine bS rfl rfl (nb rfl) rfl rfl rfl rfl (ct) ?_ | refine dK (l := 1) (h := (x :: r).length) tabOk rfl rfl rfl (nb rfl) rfl rfl rfl rfl rfl (by omega) (Nat.le_refl _) htl ?_ | refine dL (l := 1) tabOk rfl rfl rfl (nb rfl) rfl rfl rfl rfl (by omega) (Nat.le_refl _) hcut ?_ | refine aD rfl rfl rfl (nb rfl) rfl rfl (by omega) ?_ | refine bC rfl rfl rfl (nb rfl) rfl rfl rfl (by omega) (by omega) ?_ | refine bD rfl rfl rfl (nb rfl) rfl rfl rfl (by omega) (by omega) ?_ | refine bB tabOk rfl rfl rfl (nb rfl) rfl rfl rfl rfl rfl rfl rfl rfl rfl ?_ | refine aT tabOk rfl rfl (nb rfl) rfl ?_ | refine aN tabOk rfl rfl rfl (nb rfl) rfl rfl rfl rfl rfl rfl ?_ | refine aO tabOk rfl rfl rfl (nb rfl) rfl rfl rfl rfl ?_ | refine aK tabOk rfl rfl rfl rfl rfl rfl rfl rfl rfl rfl rfl ?_ | refine aP tabOk rfl rfl rfl (nb rfl) rfl rfl rfl rfl (by first | assumption | omega) ?_ | refine aH tabOk rfl rfl rfl (nb rfl) rfl rfl rfl rfl (by first | rfl | omega) (by first | omega | simp) ?_ | refine aB tabOk rfl rfl rfl (nb rfl) rfl rfl rfl (by assumption) ?_ | refine aB tabOk rfl rfl rfl (nb rfl) rfl rfl rfl (bM _ _ (by first | assumption | omega)) ?_ | refine aD rfl rfl rfl (nb rfl) rfl rfl (by omega) ?_ | ((fail_if_success (refine aE (b := true) rfl rfl rfl ?_)); (fail_if_success (refine aE (b := false) rfl rfl rfl ?_)); refine aQ rfl rfl rfl (fun hq => ?_) (fun hq => ?_) <;> first | subst hq | (first | (simp only [sD, sE, sB, sC, sN, sM, sT, sF] at hq; try (exfalso; omega)) | skip)) | fail) | (refine bQ ?_; first | refine bH ?_ | refine bN ?_ | refine aL ?_ | refine aX ?_ | refine bO ?_ | refine bF ?_ | refine bE ?_ | refine aA (b := true) rfl (fun _ => ?_) nTf | refine aA (b := false) rfl nFt (fun _ => ?_) | refine aY ?_ | refine aW ?_ | refine aU mixed (by kernel_rfl) ?_ | refine aC mixed (by kernel_rfl) ?_ | (refine aA rfl (fun hq => ?_) (fun hq => ?_) <;> first | subst hq | (first | (simp only [sD, sE, sB, sC, sN, sM, sT, sF] at hq; try (exfalso; omega)) | skip)) | fail) | (refine bK ?_; first | refine bT ?_ | refine aI ?_ | refine aM ?_ | fail) | (refine bA ?_; first | refine bP ?_ | refine aF ?_ | refine aG (by decide) ?_ | refine aJ ?_ | fail) | refine bL (aV (by kernel_rfl)) ?_ | fail)
               all_goals first
                 | (refine bV (by first | exact .inl rfl | exact .inr rfl) (bU rfl (aS rfl)) rfl ?_; rfl)
                 | exact absurd (by assumption) n1
                 | exact absurd (by assumption) n2
                 | exact absurd (by assumption) n3
                 | (exfalso; omega))
            · rw [if_neg h107]
              have g2 : ¬ (w.toNat : Int) = 107 := fun e => h107 (hw107.1 e)
              clear hw107 hw99
              generalize isTermP x = B at *
              cases B <;>
              (refine bR Try.func100 rfl rfl (nb rfl) rfl ?_
               repeat' (first | refine bG ?_ | (refine bJ ?_; first | refine aR tabOk rfl rfl rfl (nb rfl) rfl ?_ | refine aZ rfl rfl (nb rfl) ?_ | (refine bI rfl rfl rfl (nb rfl) rfl rfl rfl (fun hq => ?_) (fun hq => ?_) <;> (first | (simp only [sD, sE, sB, sC, sN, sM, sT, sF] at hq; try (exfalso; omega)) | skip))| refine jG (j := 0) tabOk rfl rfl rfl (nb rfl) rfl rfl rfl rfl hg ?_ | refine aH (j := 0) tabOk rfl rfl rfl (nb rfl) rfl rfl rfl rfl (by omega) (by omega) ?_ | refine aB tabOk rfl rfl rfl (nb rfl) rfl rfl rfl h0 ?_ | refine bS rfl rfl (nb rfl) rfl rfl rfl rfl (c1) ?_ | refine bS rfl rfl (nb rfl) rfl rfl rfl rfl (c2) ?_ | refine bS rfl rfl (nb rfl) rfl rfl rfl rfl (c3) ?_ | refine bS rfl rfl (nb rfl) rfl rfl rfl rfl (ct) ?_ | refine dK (l := 1) (h := (x :: r).length) tabOk rfl rfl rfl (nb rfl) rfl rfl rfl rfl rfl (by omega) (Nat.le_refl _) htl ?_ | refine dL (l := 1) tabOk rfl rfl rfl (nb rfl) rfl rfl rfl rfl (by omega) (Nat.le_refl _) hcut ?_ | refine aD rfl rfl rfl (nb rfl) rfl rfl (by omega) ?_ | refine bC rfl rfl rfl (nb rfl) rfl rfl rfl (by omega) (by omega) ?_ | refine bD rfl rfl rfl (nb rfl) rfl rfl rfl (by omega) (by omega) ?_ | refine bB tabOk rfl rfl rfl (nb rfl) rfl rfl rfl rfl rfl rfl rfl rfl rfl ?_ | refine aT tabOk rfl rfl (nb rfl) rfl ?_ | refine aN tabOk rfl rfl rfl (nb rfl) rfl rfl rfl rfl rfl rfl ?_ | refine aO tabOk rfl rfl rfl (nb rfl) rfl rfl rfl rfl ?_ | refine aK tabOk rfl rfl rfl rfl rfl rfl rfl rfl rfl rfl rfl ?_ | refine aP tabOk rfl rfl rfl (nb rfl) rfl rfl rfl rfl (by first | assumption | omega) ?_ | refine aH tabOk rfl rfl rfl (nb rfl) rfl rfl rfl rfl (by first | rfl | omega) (by first | omega | simp) ?_ | refine aB tabOk rfl rfl rfl (nb rfl) rfl rfl rfl (by assumption) ?_ | refine aB tabOk rfl rfl rfl (nb rfl) rfl rfl rfl (bM _ _ (by first | assumption | omega)) ?_ | refine aD rfl rfl rfl (nb rfl) rfl rfl (by omega) ?_ | ((fail_if_success (refine aE (b := true) rfl rfl rfl ?_)); (fail_if_success (refine aE (b := false) rfl rfl rfl ?_)); refine aQ rfl rfl rfl (fun hq => ?_) (fun hq => ?_) <;> first | subst hq | (first | (simp only [sD, sE, sB, sC, sN, sM, sT, sF] at hq; try (exfalso; omega)) | skip)) | fail) | (refine bQ ?_; first | refine bH ?_ | refine bN ?_ | refine aL ?_ | refine aX ?_ | refine bO ?_ | refine bF ?_ | refine bE ?_ | refine aA (b := true) rfl (fun _ => ?_) nTf | refine aA (b := false) rfl nFt (fun _ => ?_) | refine aY ?_ | refine aW ?_ | refine aU mixed (by kernel_rfl) ?_ | refine aC mixed (by kernel_rfl) ?_ | (refine aA rfl (fun hq => ?_) (fun hq => ?_) <;> first | subst hq | (first | (simp only [sD, sE, sB, sC, sN, sM, sT, sF] at hq; try (exfalso; omega)) | skip)) | fail) | (refine bK ?_; first | refine bT ?_ | refine aI ?_ | refine aM ?_ | fail) | (refine bA ?_; first | refine bP ?_ | refine aF ?_ | refine aG (by decide) ?_ | refine aJ ?_ | fail) | refine bL (aV (by kernel_rfl)) ?_ | fail)
               all_goals first
                 | (refine bV (by first | exact .inl rfl | exact .inr rfl) (bU rfl (aS rfl)) rfl ?_; rfl)
                 | exact absurd (by assumption) n1
                 | exact absurd (by assumption) n2
                 | exact absurd (by assumption) n3
                 | (exfalso; omega))
end Go.Proofs.Ytlbemgokilhdnaa.Ab
namespace Go.Proofs.Ytlbemgokilhdnaa.Ab
set_option linter.unusedVariables false
set_option linter.unusedSimpArgs false
open Go.RowKit
attribute [local irreducible] AWP AOps AExit AThen ABlock ANoGoto FeetOk
theorem tE (t : Tree) : t.whole = true → ∀ l : Int, (t.size : Int) ≤ l → wholeP t l = (0, l - t.size) := by
  induction t using Tree.ind with
  | h1 => intro h; simp [Tree.whole] at h
  | h2 k n a b kids ih =>
    intro h l hl
    have hz : (Tree.node k n a b kids).size = 1 + Tree.sizes kids := rfl
    rw [wholeP, if_neg (by omega)]
    have key : ∀ (ts : List Tree), (∀ t ∈ ts, t ∈ kids) → ∀ l : Int, (Tree.sizes ts : Int) ≤ l → wholePs ts l = (0, l - Tree.sizes ts) := by
      intro ts
      induction ts with
      | nil => intro _ l _; simp [wholePs, Tree.sizes]
      | cons x ts ihs =>
        intro hm l hl
        rw [Tree.sizes] at hl
        have hx := ih x (hm x List.mem_cons_self) (bY h (hm x List.mem_cons_self)) l (by omega)
        rw [wholePs, hx, if_pos rfl, ihs (fun t ht => hm t (List.mem_cons_of_mem _ ht)) _ (by omega), Tree.sizes]
        congr 1
        omega
    rw [key kids (fun t ht => ht) _ (by omega), hz]
    congr 1
    omega
theorem fT (form : Tree → Bool) (t : Tree) (h : t.whole = true) (hs : t.size ≤ 65536) : checkP form t = if form t = true then 0 else 16 := by
  unfold checkP
  rw [tE t h 65536 (by omega), if_pos rfl]
theorem vW (t : Tree) (h : t.whole = true) (hs : t.size ≤ 65536) : tconP t = isConP t := by
  unfold tconP
  rw [fT _ t h hs]
  cases isConP t <;> rfl
theorem uQ (t : Tree) (h : t.whole = true) (hs : t.size ≤ 65536) : tkindP t = isKindP t := by
  unfold tkindP
  rw [fT _ t h hs]
  cases isKindP t <;> rfl
theorem wM : ∀ x y : List UInt8, Op.bytesLess x y = false → Op.bytesLess y x = false → x = y := by
  intro x y h1 h2
  rw [bytesLess_eq, decide_eq_false_iff_not] at h1 h2
  exact List.le_antisymm (List.not_lt.1 h2) (List.not_lt.1 h1)
theorem vX (l : List Tree) : risingP l = (distinctP l && steadyP l) := by
  rw [Bool.eq_iff_iff, Bool.and_eq_true, dE, fB]
  constructor
  · intro h
    refine ⟨fun i j hij hj => ?_, fun i hi => ?_⟩
    · have e : j = i + (j - i - 1) + 1 := by omega
      have := iG h (j - i - 1) i (by omega)
      have e2 : l[j] = l[i + (j - i - 1) + 1]'(by omega) := by congr 1
      rw [lT, e2]
      exact qL this
    · have h1 := (cS l).1 h i hi
      cases h2 : ltB l[i + 1].name (l[i]'(by omega)).name with
      | false => rfl
      | true =>
        have := qL (mY h1 h2)
        unfold eqB at this
        exact absurd rfl (beq_eq_false_iff_ne.1 this)
  · rintro ⟨h1, h2⟩
    rw [cS]
    intro i hi
    have h3 := h1 i (i + 1) (by omega) hi
    have h4 := h2 i hi
    cases h5 : ltB (l[i]'(by omega)).name l[i + 1].name with
    | true => rfl
    | false =>
      have := wM _ _ h4 h5
      unfold eqB at h3
      exact absurd this (beq_eq_false_iff_ne.1 h3)
theorem uR (l : List Tree) : listB l 137 = (fieldsP l 137 && distinctP l && steadyP l) := by
  unfold listB pairsP
  rw [if_pos (by decide), vX]
  simp [Bool.and_assoc]
theorem dI (l : List Tree) : listB l 149 = (fieldsP l 149 && distinctP l && decide (0 < l.length)) := by
  unfold listB pairsP
  rw [if_neg (by decide)]
  rfl
def isP (k n : Int) (a b : ByteArray) (kids : List Tree) : Bool :=
  (formP k).2 && eqB b emptyB && decide ((formP k).1.f ≤ n) && decide (n ≤ (formP k).1.t) && (if (formP k).1.lb = true then labelP a else eqB a emptyB) && partsP (formP k).1.ks.data.toList kids
theorem uS {a : ByteArray} (h : labelP a = true) : eqB a emptyB = false := by
  unfold labelP at h
  simp only [Bool.and_eq_true, decide_eq_true_eq] at h
  unfold eqB
  refine beq_eq_false_iff_ne.2 fun e => ?_
  have e2 : a.size = 0 := by
    have h1 : a.toList.length = a.size := by rw [ByteArray.toList_eq]; exact Array.length_toList
    have h2 : emptyB.toList = [] := by rw [ByteArray.toList_eq]; rfl
    rw [← h1, e, h2]
    rfl
  omega
theorem p_ct (kids : List Tree) (hcon : ∀ x ∈ kids, tconP x = isConP x) (hkind : ∀ x ∈ kids, tkindP x = isKindP x) : partsP [99, 88] kids = isT_ct kids := by
  rcases kids with _ | ⟨x, _ | ⟨y, _ | ⟨z, _ | ⟨u, r⟩⟩⟩⟩ <;> simp_all [cO, cI, firstP, isT_ct, dI, fieldsP, Bool.and_assoc]
theorem wN (kids : List Tree) (hcon : ∀ x ∈ kids, tconP x = isConP x) (hkind : ∀ x ∈ kids, tkindP x = isKindP x) : partsP [120, 120] kids = isT_tt kids := by
  rcases kids with _ | ⟨x, _ | ⟨y, _ | ⟨z, _ | ⟨u, r⟩⟩⟩⟩ <;> simp_all [cO, cI, firstP, isT_tt, dI, fieldsP, Bool.and_assoc]
theorem p_t1 (kids : List Tree) (hcon : ∀ x ∈ kids, tconP x = isConP x) (hkind : ∀ x ∈ kids, tkindP x = isKindP x) : partsP [120] kids = isT_t kids := by
  rcases kids with _ | ⟨x, _ | ⟨y, _ | ⟨z, _ | ⟨u, r⟩⟩⟩⟩ <;> simp_all [cO, cI, firstP, isT_t, dI, fieldsP, Bool.and_assoc]
theorem p_kt (kids : List Tree) (hcon : ∀ x ∈ kids, tconP x = isConP x) (hkind : ∀ x ∈ kids, tkindP x = isKindP x) : partsP [107, 84] kids = isT_kt kids := by
  rcases kids with _ | ⟨x, _ | ⟨y, _ | ⟨z, _ | ⟨u, r⟩⟩⟩⟩ <;> simp_all [cO, cI, firstP, isT_kt, dI, fieldsP, Bool.and_assoc]
theorem p_tc (kids : List Tree) (hcon : ∀ x ∈ kids, tconP x = isConP x) (hkind : ∀ x ∈ kids, tkindP x = isKindP x) : partsP [120, 99] kids = isT_tc kids := by
  rcases kids with _ | ⟨x, _ | ⟨y, _ | ⟨z, _ | ⟨u, r⟩⟩⟩⟩ <;> simp_all [cO, cI, firstP, isT_tc, dI, fieldsP, Bool.and_assoc]
theorem wO (kids : List Tree) (hcon : ∀ x ∈ kids, tconP x = isConP x) (hkind : ∀ x ∈ kids, tkindP x = isKindP x) : partsP [99, 120, 99] kids = isT_ctc kids := by
  rcases kids with _ | ⟨x, _ | ⟨y, _ | ⟨z, _ | ⟨u, r⟩⟩⟩⟩ <;> simp_all [cO, cI, firstP, isT_ctc, dI, fieldsP, Bool.and_assoc]
theorem wP (kids : List Tree) (hcon : ∀ x ∈ kids, tconP x = isConP x) (hkind : ∀ x ∈ kids, tkindP x = isKindP x) : partsP [120, 66] kids = isT_tt kids := by
  rcases kids with _ | ⟨x, _ | ⟨y, _ | ⟨z, _ | ⟨u, r⟩⟩⟩⟩ <;> simp_all [cO, cI, firstP, isT_tt, dI, fieldsP, Bool.and_assoc]
theorem wQ (kids : List Tree) (hcon : ∀ x ∈ kids, tconP x = isConP x) (hkind : ∀ x ∈ kids, tkindP x = isKindP x) : partsP [120, 88] kids = isT_tt kids := by
  rcases kids with _ | ⟨x, _ | ⟨y, _ | ⟨z, _ | ⟨u, r⟩⟩⟩⟩ <;> simp_all [cO, cI, firstP, isT_tt, dI, fieldsP, Bool.and_assoc]
theorem wR (kids : List Tree) (hcon : ∀ x ∈ kids, tconP x = isConP x) (hkind : ∀ x ∈ kids, tkindP x = isKindP x) : partsP [120, 120, 120] kids = isT_ttt kids := by
  rcases kids with _ | ⟨x, _ | ⟨y, _ | ⟨z, _ | ⟨u, r⟩⟩⟩⟩ <;> simp_all [cO, cI, firstP, isT_ttt, dI, fieldsP, Bool.and_assoc]
theorem wS (kids : List Tree) (hcon : ∀ x ∈ kids, tconP x = isConP x) (hkind : ∀ x ∈ kids, tkindP x = isKindP x) : partsP [99, 120] kids = isT_ct kids := by
  rcases kids with _ | ⟨x, _ | ⟨y, _ | ⟨z, _ | ⟨u, r⟩⟩⟩⟩ <;> simp_all [cO, cI, firstP, isT_ct, dI, fieldsP, Bool.and_assoc]
theorem p_ta (kids : List Tree) (hcon : ∀ x ∈ kids, tconP x = isConP x) (hkind : ∀ x ∈ kids, tkindP x = isKindP x) : partsP [120, 97] kids = isT_ta kids := by
  rcases kids with _ | ⟨x, _ | ⟨y, _ | ⟨z, _ | ⟨u, r⟩⟩⟩⟩ <;> simp_all [cO, cI, firstP, isT_ta, dI, fieldsP, Bool.and_assoc]
theorem wT (kids : List Tree) (hcon : ∀ x ∈ kids, tconP x = isConP x) (hkind : ∀ x ∈ kids, tkindP x = isKindP x) : partsP [120, 99, 97] kids = isT_tca kids := by
  rcases kids with _ | ⟨x, _ | ⟨y, _ | ⟨z, _ | ⟨u, r⟩⟩⟩⟩ <;> simp_all [cO, cI, firstP, isT_tca, dI, fieldsP, Bool.and_assoc]
theorem p_f (kids : List Tree) : partsP [102] kids = (fieldsP kids 137 && distinctP kids && steadyP kids) := by
  rw [cO, if_pos ⟨rfl, rfl⟩, uR]
set_option maxHeartbeats 8000000 in
theorem wU (k n : Int) (a b : ByteArray) (kids : List Tree) (hw : Tree.wholes kids = true) (hs : Tree.sizes kids ≤ 65536) : isTermP (.node k n a b kids) = isP k n a b kids := by
  have hcon : ∀ x ∈ kids, tconP x = isConP x := fun x hx => vW x (bY hw hx) (Nat.le_trans (cP hx) hs)
  have hkind : ∀ x ∈ kids, tkindP x = isKindP x := fun x hx => uQ x (bY hw hx) (Nat.le_trans (cP hx) hs)
  have hlab : labelP a = true → eqB a emptyB = false := uS
  have z0 : (n == 0) = (decide (0 ≤ n) && decide (n ≤ 0)) := by
    rw [Bool.eq_iff_iff]; simp; omega
  have z1 : (n == 0 || n == 1) = (decide (0 ≤ n) && decide (n ≤ 1)) := by
    rw [Bool.eq_iff_iff]; simp; omega
  rw [isTermP]
  unfold isP
  clear hw hs
  have f_ct := p_ct kids hcon hkind
  have f_tt1 := wN kids hcon hkind
  have f_t1 := p_t1 kids hcon hkind
  have f_kt := p_kt kids hcon hkind
  have f_tc := p_tc kids hcon hkind
  have f_ctc := wO kids hcon hkind
  have f_tt2 := wP kids hcon hkind
  have f_tt3 := wQ kids hcon hkind
  have f_ttt := wR kids hcon hkind
  have f_ct2 := wS kids hcon hkind
  have f_ta := p_ta kids hcon hkind
  have f_tca := wT kids hcon hkind
  have f_f := p_f kids
  clear hcon hkind
  by_cases h130 : k = 130
  · subst h130
    simp [headP, numberP, namedK, formP, rowsL, cI, z0, z1, -beq_iff_eq]
    generalize eqB b emptyB = B at *
    generalize eqB a emptyB = A at *
    generalize labelP a = L at *
    generalize decide (0 ≤ n) = N at *
    cases B <;> cases A <;> cases L <;> cases N <;> simp_all
  by_cases h131 : k = 131
  · subst h131
    simp [headP, numberP, namedK, formP, rowsL, cI, z0, z1, -beq_iff_eq]
    generalize eqB b emptyB = B at *
    generalize eqB a emptyB = A at *
    generalize labelP a = L at *
    generalize decide (0 ≤ n) = N at *
    cases B <;> cases A <;> cases L <;> cases N <;> simp_all
  by_cases h132 : k = 132
  · subst h132
    simp [headP, numberP, namedK, formP, rowsL, cI, z0, z1, -beq_iff_eq]
    generalize eqB b emptyB = B at *
    generalize eqB a emptyB = A at *
    generalize labelP a = L at *
    generalize decide (0 ≤ n) = N at *
    cases B <;> cases A <;> cases L <;> cases N <;> simp_all
  by_cases h133 : k = 133
  · subst h133
    simp [headP, numberP, namedK, formP, rowsL, cI, z0, z1, -beq_iff_eq]
    generalize eqB b emptyB = B at *
    generalize eqB a emptyB = A at *
    generalize labelP a = L at *
    generalize decide (0 ≤ n) = N at *
    cases B <;> cases A <;> cases L <;> cases N <;> simp_all
  by_cases h134 : k = 134
  · subst h134
    simp [headP, numberP, namedK, formP, rowsL, cI, z0, z1, f_ct, -beq_iff_eq]
    generalize eqB b emptyB = B at *
    generalize eqB a emptyB = A at *
    generalize labelP a = L at *
    generalize decide (0 ≤ n) = N at *
    cases B <;> cases A <;> cases L <;> cases N <;> simp_all
  by_cases h135 : k = 135
  · subst h135
    simp [headP, numberP, namedK, formP, rowsL, cI, z0, z1, f_tt1, -beq_iff_eq]
    generalize eqB b emptyB = B at *
    generalize eqB a emptyB = A at *
    generalize labelP a = L at *
    generalize decide (0 ≤ n) = N at *
    cases B <;> cases A <;> cases L <;> cases N <;> simp_all
  by_cases h136 : k = 136
  · subst h136
    simp [headP, numberP, namedK, formP, rowsL, cI, z0, z1, f_f, -beq_iff_eq]
    generalize eqB b emptyB = B at *
    generalize eqB a emptyB = A at *
    generalize labelP a = L at *
    generalize decide (0 ≤ n) = N at *
    cases B <;> cases A <;> cases L <;> cases N <;> simp_all
  by_cases h138 : k = 138
  · subst h138
    simp [headP, numberP, namedK, formP, rowsL, cI, z0, z1, f_t1, -beq_iff_eq]
    generalize eqB b emptyB = B at *
    generalize eqB a emptyB = A at *
    generalize labelP a = L at *
    generalize decide (0 ≤ n) = N at *
    cases B <;> cases A <;> cases L <;> cases N <;> simp_all
  by_cases h139 : k = 139
  · subst h139
    simp [headP, numberP, namedK, formP, rowsL, cI, z0, z1, f_kt, -beq_iff_eq]
    generalize eqB b emptyB = B at *
    generalize eqB a emptyB = A at *
    generalize labelP a = L at *
    generalize decide (0 ≤ n) = N at *
    cases B <;> cases A <;> cases L <;> cases N <;> simp_all
  by_cases h140 : k = 140
  · subst h140
    simp [headP, numberP, namedK, formP, rowsL, cI, z0, z1, f_tc, -beq_iff_eq]
    generalize eqB b emptyB = B at *
    generalize eqB a emptyB = A at *
    generalize labelP a = L at *
    generalize decide (0 ≤ n) = N at *
    cases B <;> cases A <;> cases L <;> cases N <;> simp_all
  by_cases h141 : k = 141
  · subst h141
    simp [headP, numberP, namedK, formP, rowsL, cI, z0, z1, f_ctc, -beq_iff_eq]
    generalize eqB b emptyB = B at *
    generalize eqB a emptyB = A at *
    generalize labelP a = L at *
    generalize decide (0 ≤ n) = N at *
    cases B <;> cases A <;> cases L <;> cases N <;> simp_all
  by_cases h142 : k = 142
  · subst h142
    simp [headP, numberP, namedK, formP, rowsL, cI, z0, z1, f_tt2, -beq_iff_eq]
    generalize eqB b emptyB = B at *
    generalize eqB a emptyB = A at *
    generalize labelP a = L at *
    generalize decide (0 ≤ n) = N at *
    cases B <;> cases A <;> cases L <;> cases N <;> simp_all
  by_cases h143 : k = 143
  · subst h143
    simp [headP, numberP, namedK, formP, rowsL, cI, z0, z1, f_tt3, -beq_iff_eq]
    generalize eqB b emptyB = B at *
    generalize eqB a emptyB = A at *
    generalize labelP a = L at *
    generalize decide (0 ≤ n) = N at *
    cases B <;> cases A <;> cases L <;> cases N <;> simp_all
  by_cases h144 : k = 144
  · subst h144
    simp [headP, numberP, namedK, formP, rowsL, cI, z0, z1, f_ttt, -beq_iff_eq]
    generalize eqB b emptyB = B at *
    generalize eqB a emptyB = A at *
    generalize labelP a = L at *
    generalize decide (0 ≤ n) = N at *
    cases B <;> cases A <;> cases L <;> cases N <;> simp_all
  by_cases h145 : k = 145
  · subst h145
    simp [headP, numberP, namedK, formP, rowsL, cI, z0, z1, f_tt1, -beq_iff_eq]
    generalize eqB b emptyB = B at *
    generalize eqB a emptyB = A at *
    generalize labelP a = L at *
    generalize decide (0 ≤ n) = N at *
    cases B <;> cases A <;> cases L <;> cases N <;> simp_all
  by_cases h146 : k = 146
  · subst h146
    simp [headP, numberP, namedK, formP, rowsL, cI, z0, z1, f_ct2, -beq_iff_eq]
    generalize eqB b emptyB = B at *
    generalize eqB a emptyB = A at *
    generalize labelP a = L at *
    generalize decide (0 ≤ n) = N at *
    cases B <;> cases A <;> cases L <;> cases N <;> simp_all
  by_cases h147 : k = 147
  · subst h147
    simp [headP, numberP, namedK, formP, rowsL, cI, z0, z1, f_ta, -beq_iff_eq]
    generalize eqB b emptyB = B at *
    generalize eqB a emptyB = A at *
    generalize labelP a = L at *
    generalize decide (0 ≤ n) = N at *
    cases B <;> cases A <;> cases L <;> cases N <;> simp_all
  by_cases h148 : k = 148
  · subst h148
    simp [headP, numberP, namedK, formP, rowsL, cI, z0, z1, f_tca, -beq_iff_eq]
    generalize eqB b emptyB = B at *
    generalize eqB a emptyB = A at *
    generalize labelP a = L at *
    generalize decide (0 ≤ n) = N at *
    cases B <;> cases A <;> cases L <;> cases N <;> simp_all
  have hn : formP k = (zeroRow, false) := by
    unfold formP
    rw [List.find?_eq_none.2]
    intro r hr
    simp [rowsL] at hr
    rcases hr with rfl | rfl | rfl | rfl | rfl | rfl | rfl | rfl | rfl | rfl | rfl | rfl | rfl | rfl | rfl | rfl | rfl | rfl <;> simp <;> omega
  rw [hn]
  simp [h130, h131, h132, h133, h134, h135, h136, h138, h139, h140, h141, h142, h143, h144, h145, h146, h147, h148]
end Go.Proofs.Ytlbemgokilhdnaa.Ab
namespace Go.Proofs.Ytlbemgokilhdnaa.Ab
set_option linter.unusedVariables false
set_option linter.unusedSimpArgs false
open Go.RowKit
attribute [local irreducible] AWP AOps AExit AThen ABlock ANoGoto FeetOk
theorem vY (s : ByteArray) : (⟨s.data.toList.toArray⟩ : ByteArray) = s := by cases s; simp
theorem uT (k : Int) : (formP k).1.ks.data.toList.length ≤ 1000 := by
  unfold formP
  split
  · rename_i r h
    have := List.mem_of_find?_eq_some h
    simp [rowsL] at this
    rcases this with rfl | rfl | rfl | rfl | rfl | rfl | rfl | rfl | rfl | rfl | rfl | rfl | rfl | rfl | rfl | rfl | rfl | rfl <;> decide
  · decide
set_option maxHeartbeats 16000000 in
set_option maxRecDepth 10000 in
theorem wV (t : Tree) : t.whole = true → t.size ≤ 65536 → ACalls Try.prog 61 [.imm t.iv] [] (.imm (.lit (.bool (isTermP t)))) [] := by
  induction t using Tree.sind with
  | h t ih =>
    intro h hs
    obtain ⟨k, n, a, b, kids, rfl⟩ := cL h
    have hz : (Tree.node k n a b kids).size = 1 + Tree.sizes kids := rfl
    have hl : kids.length < 1000000000 := by have := cA kids h; omega
    rw [wU k n a b kids h (by omega)]
    have c1 := wF k
    have c2 := rK (formP k).1.ks.data.toList kids h (by omega) hl (uT k) (fun t' h1 h2 => ih t' (by omega) h2 (by omega))
    rw [vY] at c2
    have c3 := pK a
    unfold isP
    generalize partsP (formP k).1.ks.data.toList kids = Q at *
    generalize labelP a = L at *
    generalize formP k = R at *
    obtain ⟨⟨rk, rw, rf, rt, rl, rks⟩, ok⟩ := R
    clear ih
    dsimp only at *
    cases ok <;> cases rl <;> cases L <;> cases Q <;>
    (refine bR Try.func61 rfl rfl (nb rfl) rfl ?_
     repeat' (first | refine bG ?_ | (refine bJ ?_; first | refine aR tabOk rfl rfl rfl (nb rfl) rfl ?_ | refine aZ rfl rfl (nb rfl) ?_ | (refine bI rfl rfl rfl (nb rfl) rfl rfl rfl (fun hq => ?_) (fun hq => ?_) <;> (first | (simp only [sD, sE, sB, sC, sN, sM, sT, sF] at hq; try (exfalso; omega)) | skip))| refine bS rfl rfl (nb rfl) rfl rfl rfl rfl (c1) ?_ | refine bS rfl rfl (nb rfl) rfl rfl rfl rfl (c2) ?_ | refine bS rfl rfl (nb rfl) rfl rfl rfl rfl (c3) ?_ | refine aD rfl rfl rfl (nb rfl) rfl rfl (by omega) ?_ | refine bC rfl rfl rfl (nb rfl) rfl rfl rfl (by omega) (by omega) ?_ | refine bD rfl rfl rfl (nb rfl) rfl rfl rfl (by omega) (by omega) ?_ | refine bB tabOk rfl rfl rfl (nb rfl) rfl rfl rfl rfl rfl rfl rfl rfl rfl ?_ | refine aT tabOk rfl rfl (nb rfl) rfl ?_ | refine aN tabOk rfl rfl rfl (nb rfl) rfl rfl rfl rfl rfl rfl ?_ | refine aO tabOk rfl rfl rfl (nb rfl) rfl rfl rfl rfl ?_ | refine aK tabOk rfl rfl rfl rfl rfl rfl rfl rfl rfl rfl rfl ?_ | refine aP tabOk rfl rfl rfl (nb rfl) rfl rfl rfl rfl (by first | assumption | omega) ?_ | refine aH tabOk rfl rfl rfl (nb rfl) rfl rfl rfl rfl (by first | rfl | omega) (by first | omega | simp) ?_ | refine aB tabOk rfl rfl rfl (nb rfl) rfl rfl rfl (by assumption) ?_ | refine aB tabOk rfl rfl rfl (nb rfl) rfl rfl rfl (bM _ _ (by first | assumption | omega)) ?_ | refine aD rfl rfl rfl (nb rfl) rfl rfl (by omega) ?_ | ((fail_if_success (refine aE (b := true) rfl rfl rfl ?_)); (fail_if_success (refine aE (b := false) rfl rfl rfl ?_)); refine aQ rfl rfl rfl (fun hq => ?_) (fun hq => ?_) <;> first | subst hq | (first | (simp only [sD, sE, sB, sC, sN, sM, sT, sF] at hq; try (exfalso; omega)) | skip)) | fail) | (refine bQ ?_; first | refine bH ?_ | refine bN ?_ | refine aL ?_ | refine aX ?_ | refine bO ?_ | refine bF ?_ | refine bE ?_ | refine aA (b := true) rfl (fun _ => ?_) nTf | refine aA (b := false) rfl nFt (fun _ => ?_) | refine aY ?_ | refine aW ?_ | refine aU mixed (by kernel_rfl) ?_ | refine aC mixed (by kernel_rfl) ?_ | (refine aA rfl (fun hq => ?_) (fun hq => ?_) <;> first | subst hq | (first | (simp only [sD, sE, sB, sC, sN, sM, sT, sF] at hq; try (exfalso; omega)) | skip)) | fail) | (refine bK ?_; first | refine bT ?_ | refine aI ?_ | refine aM ?_ | fail) | (refine bA ?_; first | refine bP ?_ | refine aF ?_ | refine aG (by decide) ?_ | refine aJ ?_ | fail) | refine bL (aV (by kernel_rfl)) ?_ | fail)
     all_goals first
       | (refine bV (by first | exact .inl rfl | exact .inr rfl) (bU rfl (aS rfl)) rfl ?_; refine cE ?_; simp_all [eqB, emptyB]; done)
       | (refine bV (by first | exact .inl rfl | exact .inr rfl) (bU rfl (aS rfl)) rfl ?_; refine cE ?_; simp_all [eqB, emptyB]; omega)
       | exact absurd rfl (by assumption)
       | (exfalso; omega))
set_option maxHeartbeats 4000000 in
set_option maxRecDepth 10000 in
theorem mB (t : Tree) (hs : t.size ≤ 65536) (hw : t = .nil ∨ t.whole = true) : ACalls Try.prog 29 [.imm t.iv] [] (.imm (.lit (.int .i64 (tcheckP t)))) [] := by
  rcases hw with rfl | hw
  · have e : tcheckP .nil = 1 := rfl
    rw [e]
    refine bR Try.func29 rfl rfl (nb rfl) rfl ?_
    repeat' (first | refine bG ?_ | (refine bJ ?_; first | refine aR tabOk rfl rfl rfl (nb rfl) rfl ?_ | refine aZ rfl rfl (nb rfl) ?_ | (refine bI rfl rfl rfl (nb rfl) rfl rfl rfl (fun hq => ?_) (fun hq => ?_) <;> (first | (simp only [sD, sE, sB, sC, sN, sM, sT, sF] at hq; try (exfalso; omega)) | skip))| refine bS rfl rfl (nb rfl) rfl rfl rfl rfl (nY) ?_ | refine aD rfl rfl rfl (nb rfl) rfl rfl (by omega) ?_ | refine bC rfl rfl rfl (nb rfl) rfl rfl rfl (by omega) (by omega) ?_ | refine bD rfl rfl rfl (nb rfl) rfl rfl rfl (by omega) (by omega) ?_ | refine bB tabOk rfl rfl rfl (nb rfl) rfl rfl rfl rfl rfl rfl rfl rfl rfl ?_ | refine aT tabOk rfl rfl (nb rfl) rfl ?_ | refine aN tabOk rfl rfl rfl (nb rfl) rfl rfl rfl rfl rfl rfl ?_ | refine aO tabOk rfl rfl rfl (nb rfl) rfl rfl rfl rfl ?_ | refine aK tabOk rfl rfl rfl rfl rfl rfl rfl rfl rfl rfl rfl ?_ | refine aP tabOk rfl rfl rfl (nb rfl) rfl rfl rfl rfl (by first | assumption | omega) ?_ | refine aH tabOk rfl rfl rfl (nb rfl) rfl rfl rfl rfl (by first | rfl | omega) (by first | omega | simp) ?_ | refine aB tabOk rfl rfl rfl (nb rfl) rfl rfl rfl (by assumption) ?_ | refine aB tabOk rfl rfl rfl (nb rfl) rfl rfl rfl (bM _ _ (by first | assumption | omega)) ?_ | refine aD rfl rfl rfl (nb rfl) rfl rfl (by omega) ?_ | ((fail_if_success (refine aE (b := true) rfl rfl rfl ?_)); (fail_if_success (refine aE (b := false) rfl rfl rfl ?_)); refine aQ rfl rfl rfl (fun hq => ?_) (fun hq => ?_) <;> first | subst hq | (first | (simp only [sD, sE, sB, sC, sN, sM, sT, sF] at hq; try (exfalso; omega)) | skip)) | fail) | (refine bQ ?_; first | refine bH ?_ | refine bN ?_ | refine aL ?_ | refine aX ?_ | refine bO ?_ | refine bF ?_ | refine bE ?_ | refine aA (b := true) rfl (fun _ => ?_) nTf | refine aA (b := false) rfl nFt (fun _ => ?_) | refine aY ?_ | refine aW ?_ | refine aU mixed (by kernel_rfl) ?_ | refine aC mixed (by kernel_rfl) ?_ | (refine aA rfl (fun hq => ?_) (fun hq => ?_) <;> first | subst hq | (first | (simp only [sD, sE, sB, sC, sN, sM, sT, sF] at hq; try (exfalso; omega)) | skip)) | fail) | (refine bK ?_; first | refine bT ?_ | refine aI ?_ | refine aM ?_ | fail) | (refine bA ?_; first | refine bP ?_ | refine aF ?_ | refine aG (by decide) ?_ | refine aJ ?_ | fail) | refine bL (aV (by kernel_rfl)) ?_ | fail)
    all_goals first
      | exact bZ (by first | exact .inl rfl | exact .inr rfl) (bU rfl (aS rfl)) rfl
      | exact absurd rfl (by assumption)
      | (exfalso; omega)
  · have c1 := iH t hw hs
    have c2 := wV t hw hs
    unfold tcheckP
    rw [fT _ t hw hs]
    generalize isConP t = C at *
    generalize isTermP t = D at *
    cases C <;> cases D <;>
    (refine bR Try.func29 rfl rfl (nb rfl) rfl ?_
     repeat' (first | refine bG ?_ | (refine bJ ?_; first | refine aR tabOk rfl rfl rfl (nb rfl) rfl ?_ | refine aZ rfl rfl (nb rfl) ?_ | (refine bI rfl rfl rfl (nb rfl) rfl rfl rfl (fun hq => ?_) (fun hq => ?_) <;> (first | (simp only [sD, sE, sB, sC, sN, sM, sT, sF] at hq; try (exfalso; omega)) | skip))| refine bS rfl rfl (nb rfl) rfl rfl rfl rfl (c1) ?_ | refine bS rfl rfl (nb rfl) rfl rfl rfl rfl (c2) ?_ | refine aD rfl rfl rfl (nb rfl) rfl rfl (by omega) ?_ | refine bC rfl rfl rfl (nb rfl) rfl rfl rfl (by omega) (by omega) ?_ | refine bD rfl rfl rfl (nb rfl) rfl rfl rfl (by omega) (by omega) ?_ | refine bB tabOk rfl rfl rfl (nb rfl) rfl rfl rfl rfl rfl rfl rfl rfl rfl ?_ | refine aT tabOk rfl rfl (nb rfl) rfl ?_ | refine aN tabOk rfl rfl rfl (nb rfl) rfl rfl rfl rfl rfl rfl ?_ | refine aO tabOk rfl rfl rfl (nb rfl) rfl rfl rfl rfl ?_ | refine aK tabOk rfl rfl rfl rfl rfl rfl rfl rfl rfl rfl rfl ?_ | refine aP tabOk rfl rfl rfl (nb rfl) rfl rfl rfl rfl (by first | assumption | omega) ?_ | refine aH tabOk rfl rfl rfl (nb rfl) rfl rfl rfl rfl (by first | rfl | omega) (by first | omega | simp) ?_ | refine aB tabOk rfl rfl rfl (nb rfl) rfl rfl rfl (by assumption) ?_ | refine aB tabOk rfl rfl rfl (nb rfl) rfl rfl rfl (bM _ _ (by first | assumption | omega)) ?_ | refine aD rfl rfl rfl (nb rfl) rfl rfl (by omega) ?_ | ((fail_if_success (refine aE (b := true) rfl rfl rfl ?_)); (fail_if_success (refine aE (b := false) rfl rfl rfl ?_)); refine aQ rfl rfl rfl (fun hq => ?_) (fun hq => ?_) <;> first | subst hq | (first | (simp only [sD, sE, sB, sC, sN, sM, sT, sF] at hq; try (exfalso; omega)) | skip)) | fail) | (refine bQ ?_; first | refine bH ?_ | refine bN ?_ | refine aL ?_ | refine aX ?_ | refine bO ?_ | refine bF ?_ | refine bE ?_ | refine aA (b := true) rfl (fun _ => ?_) nTf | refine aA (b := false) rfl nFt (fun _ => ?_) | refine aY ?_ | refine aW ?_ | refine aU mixed (by kernel_rfl) ?_ | refine aC mixed (by kernel_rfl) ?_ | (refine aA rfl (fun hq => ?_) (fun hq => ?_) <;> first | subst hq | (first | (simp only [sD, sE, sB, sC, sN, sM, sT, sF] at hq; try (exfalso; omega)) | skip)) | fail) | (refine bK ?_; first | refine bT ?_ | refine aI ?_ | refine aM ?_ | fail) | (refine bA ?_; first | refine bP ?_ | refine aF ?_ | refine aG (by decide) ?_ | refine aJ ?_ | fail) | refine bL (aV (by kernel_rfl)) ?_ | fail)
     all_goals first
       | (refine bV (by first | exact .inl rfl | exact .inr rfl) (bU rfl (aS rfl)) rfl ?_; rfl)
       | exact absurd rfl (by assumption)
       | (exfalso; simp at *; done)
       | (exfalso; omega))
end Go.Proofs.Ytlbemgokilhdnaa.Ab
namespace Go.Proofs.Ytlbemgokilhdnaa.Ab
set_option linter.unusedVariables false
set_option linter.unusedSimpArgs false
open Go.RowKit
attribute [local irreducible] AWP AOps AExit AThen ABlock ANoGoto FeetOk
theorem jC (n : Int) (a b : ByteArray) : sbareP n a b false false = (eqB b emptyB && eqB a emptyB && (n == 0)) := by unfold sbareP; simp
theorem uU (n : Int) (a b : ByteArray) : sbareP n a b true false = (eqB b emptyB && (n == 0)) := by unfold sbareP; simp
set_option maxHeartbeats 16000000 in
set_option maxRecDepth 10000 in
theorem qU (k n : Int) (a b : ByteArray) (kids : List Tree) (hb : sbareP n a b false false = true) (hk : k = 162) (h : Tree.wholes kids = true) (hl : kids.length < 1000000000)
    (hc : ∀ t', t'.size < (Tree.node k n a b kids).size → t'.whole = true → ACalls Try.prog 82 [.imm t'.iv] [] (.imm (.lit (.bool (isSigP t')))) []) :
    ACalls Try.prog 82 [.imm (Tree.iv (.node k n a b kids))] [] (.imm (.lit (.bool (sfieldPs kids && risingP kids)))) [] := by
  subst hk
  rw [jC] at hb
  simp only [Bool.and_eq_true, beq_iff_eq, cU] at hb
  obtain ⟨⟨rfl, rfl⟩, rfl⟩ := hb
  refine bR Try.func82 rfl rfl (nb rfl) rfl ?_
  repeat' (first | refine bG ?_ | (refine bJ ?_; first | refine aR tabOk rfl rfl rfl (nb rfl) rfl ?_ | refine aZ rfl rfl (nb rfl) ?_ | (refine bI rfl rfl rfl (nb rfl) rfl rfl rfl (fun hq => ?_) (fun hq => ?_) <;> (first | (simp only [sD, sE, sB, sC, sN, sM, sT, sF] at hq; try (exfalso; omega)) | skip)) | refine aD rfl rfl rfl (nb rfl) rfl rfl (by omega) ?_ | refine bC rfl rfl rfl (nb rfl) rfl rfl rfl (by omega) (by omega) ?_ | refine bD rfl rfl rfl (nb rfl) rfl rfl rfl (by omega) (by omega) ?_ | refine bB tabOk rfl rfl rfl (nb rfl) rfl rfl rfl rfl rfl rfl rfl rfl rfl ?_ | refine aT tabOk rfl rfl (nb rfl) rfl ?_ | refine aN tabOk rfl rfl rfl (nb rfl) rfl rfl rfl rfl rfl rfl ?_ | refine aO tabOk rfl rfl rfl (nb rfl) rfl rfl rfl rfl ?_ | refine aK tabOk rfl rfl rfl rfl rfl rfl rfl rfl rfl rfl rfl ?_ | refine aP tabOk rfl rfl rfl (nb rfl) rfl rfl rfl rfl (by first | assumption | omega) ?_ | refine aH tabOk rfl rfl rfl (nb rfl) rfl rfl rfl rfl (by first | rfl | omega) (by first | omega | simp) ?_ | refine aB tabOk rfl rfl rfl (nb rfl) rfl rfl rfl (by assumption) ?_ | refine aB tabOk rfl rfl rfl (nb rfl) rfl rfl rfl (bM _ _ (by first | assumption | omega)) ?_ | refine aD rfl rfl rfl (nb rfl) rfl rfl (by omega) ?_ | ((fail_if_success (refine aE (b := true) rfl rfl rfl ?_)); (fail_if_success (refine aE (b := false) rfl rfl rfl ?_)); refine aQ rfl rfl rfl (fun hq => ?_) (fun hq => ?_) <;> first | subst hq | (first | (simp only [sD, sE, sB, sC, sN, sM, sT, sF] at hq; try (exfalso; omega)) | skip)) | fail) | (refine bQ ?_; first | refine bH ?_ | refine bN ?_ | refine aL ?_ | refine aX ?_ | refine bO ?_ | refine bF ?_ | refine bE ?_ | refine aA (b := true) rfl (fun _ => ?_) nTf | refine aA (b := false) rfl nFt (fun _ => ?_) | refine aY ?_ | refine aW ?_ | refine aU mixed (by kernel_rfl) ?_ | refine aC mixed (by kernel_rfl) ?_ | (refine aA rfl (fun hq => ?_) (fun hq => ?_) <;> first | subst hq | (first | (simp only [sD, sE, sB, sC, sN, sM, sT, sF] at hq; try (exfalso; omega)) | skip)) | fail) | (refine bK ?_; first | refine bT ?_ | refine aI ?_ | refine aM ?_ | fail) | (refine bA ?_; first | refine bP ?_ | refine aF ?_ | refine aG (by decide) ?_ | refine aJ ?_ | fail) | refine bL (aV (by kernel_rfl)) ?_ | fail)
  all_goals first
    | exact absurd rfl (by assumption)
    | (exfalso; omega)
    | skip
  refine cJ (ι := {j : Nat // j ≤ kids.length ∧ (∀ i (hi : i < kids.length), i < j → okSField kids[i] = true) ∧ ∀ i (hi : i + 1 < kids.length), i + 1 < j → ltB (kids[i]'(by omega)).name kids[i + 1].name = true}) (fun j => S.f ⟨[(4, .imm (.lit (.int .i64 (j.1 : Int)))), (3, .imm (.sl false kids.length (Tree.ivs kids)))], []⟩) (fun j => kids.length - j.1) ⟨0, Nat.zero_le _, fun i _ hi => absurd hi (Nat.not_lt_zero _), fun i _ hi => absurd hi (Nat.not_lt_zero _)⟩ (cB (by repeat' first | exact trivial | refine ⟨rfl, ?_⟩) (by repeat' first | exact trivial | refine ⟨rfl, ?_⟩)) ?_
  rintro ⟨j, hj, hok, hri⟩
  dsimp only
  by_cases hlt : j < kids.length
  · obtain ⟨k1, n1, a1, b1, ks1, e1, hget, hw1⟩ := eB h hlt
    have hsz : ∀ i (hi : i < ks1.length), ks1[i].size < (Tree.node 162 0 emptyB emptyB kids).size := fun i hi => by
      have h1 := cH (k := k1) (n := n1) (a := a1) (b := b1) (List.getElem_mem hi)
      have h2 := cH (k := 162) (n := 0) (a := emptyB) (b := emptyB) (List.getElem_mem hlt)
      rw [e1] at h2
      omega
    have hbad : okSField (Tree.node k1 n1 a1 b1 ks1) = false → (sfieldPs kids && risingP kids) = false := fun hb => by
      rw [dX, eG hlt (by rw [e1]; exact hb)]; rfl
    have hgood : okSField (Tree.node k1 n1 a1 b1 ks1) = true → ∀ i (hi : i < kids.length), i < j + 1 → okSField kids[i] = true := fun hb i hi hij => by
      by_cases e : i = j
      · subst e; rw [e1]; exact hb
      · exact hok i hi (by omega)
    have hS : okSField (Tree.node k1 n1 a1 b1 ks1) = (k1 == 163 && (eqB b1 emptyB && (n1 == 0)) && labelP a1 && sigOne ks1) := by rw [← uU n1 a1 b1]; rfl
    rw [hS] at hbad hgood
    clear hS
    by_cases hj0 : j = 0
    · have hrn : ∀ i (hi : i + 1 < kids.length), i + 1 < j + 1 → ltB (kids[i]'(by omega)).name kids[i + 1].name = true := fun i hi hij => by omega
      repeat' (first | refine bG ?_ | (refine bJ ?_; first | refine aR tabOk rfl rfl rfl (nb rfl) rfl ?_ | refine aZ rfl rfl (nb rfl) ?_ | (refine bI rfl rfl rfl (nb rfl) rfl rfl rfl (fun hq => ?_) (fun hq => ?_) <;> (first | (simp only [sD, sE, sB, sC, sN, sM, sT, sF] at hq; try (exfalso; omega)) | skip))| (refine bW rfl rfl rfl (nb rfl) rfl rfl rfl (hc _ (hsz _ _) (bY hw1 (List.getElem_mem _))) (fun hq => ?_) (fun hq => ?_)) | refine aD rfl rfl rfl (nb rfl) rfl rfl (by omega) ?_ | refine bC rfl rfl rfl (nb rfl) rfl rfl rfl (by omega) (by omega) ?_ | refine bD rfl rfl rfl (nb rfl) rfl rfl rfl (by omega) (by omega) ?_ | refine bB tabOk rfl rfl rfl (nb rfl) rfl rfl rfl rfl rfl rfl rfl rfl rfl ?_ | refine aT tabOk rfl rfl (nb rfl) rfl ?_ | refine aN tabOk rfl rfl rfl (nb rfl) rfl rfl rfl rfl rfl rfl ?_ | refine aO tabOk rfl rfl rfl (nb rfl) rfl rfl rfl rfl ?_ | refine aK tabOk rfl rfl rfl rfl rfl rfl rfl rfl rfl rfl rfl ?_ | refine aP tabOk rfl rfl rfl (nb rfl) rfl rfl rfl rfl (by first | assumption | omega) ?_ | refine aH tabOk rfl rfl rfl (nb rfl) rfl rfl rfl rfl (by first | rfl | omega) (by first | omega | simp) ?_ | refine aB tabOk rfl rfl rfl (nb rfl) rfl rfl rfl (by assumption) ?_ | refine aB tabOk rfl rfl rfl (nb rfl) rfl rfl rfl (bM _ _ (by first | assumption | omega)) ?_ | refine aD rfl rfl rfl (nb rfl) rfl rfl (by omega) ?_ | ((fail_if_success (refine aE (b := true) rfl rfl rfl ?_)); (fail_if_success (refine aE (b := false) rfl rfl rfl ?_)); refine aQ rfl rfl rfl (fun hq => ?_) (fun hq => ?_) <;> first | subst hq | (first | (simp only [sD, sE, sB, sC, sN, sM, sT, sF] at hq; try (exfalso; omega)) | skip)) | fail) | (refine bQ ?_; first | refine bH ?_ | refine bN ?_ | refine aL ?_ | refine aX ?_ | refine bO ?_ | refine bF ?_ | refine bE ?_ | refine aA (b := true) rfl (fun _ => ?_) nTf | refine aA (b := false) rfl nFt (fun _ => ?_) | refine aY ?_ | refine aW ?_ | refine aU mixed (by kernel_rfl) ?_ | refine aC mixed (by kernel_rfl) ?_ | (refine aA rfl (fun hq => ?_) (fun hq => ?_) <;> first | subst hq | (first | (simp only [sD, sE, sB, sC, sN, sM, sT, sF] at hq; try (exfalso; omega)) | skip)) | fail) | (refine bK ?_; first | refine bT ?_ | refine aI ?_ | refine aM ?_ | fail) | (refine bA ?_; first | refine bP ?_ | refine aF ?_ | refine aG (by decide) ?_ | refine aJ ?_ | fail) | refine bL (aV (by kernel_rfl)) ?_ | fail)
      all_goals first
        | (refine bV (by first | exact .inl rfl | exact .inr rfl) (bU rfl (aS rfl)) rfl ?_; refine cE (hbad ?_).symm; by_cases h1 : ks1.length = 1 <;> first | (obtain ⟨c, rfl⟩ := cY h1; simp_all [sigOne, labelP, eqB, emptyB]; done) | (obtain ⟨c, rfl⟩ := cY h1; simp_all [sigOne, labelP, eqB, emptyB]; omega) | (exfalso; omega) | (simp_all [fR]; done))
        | (exfalso; omega)
        | exact ⟨⟨j + 1, hlt, hgood (by obtain ⟨c, rfl⟩ := cY (l := ks1) (by omega); first | (simp_all [sigOne, labelP, eqB, emptyB]; done) | (simp_all [sigOne, labelP, eqB, emptyB]; omega)), hrn⟩, (by show kids.length - (j + 1) < kids.length - j; omega), (cB (by repeat' first | exact trivial | refine ⟨rfl, ?_⟩) (by repeat' first | exact trivial | refine ⟨rfl, ?_⟩))⟩
    · obtain ⟨k0, n0, a0, b0, ks0, e0, hget0, hw0⟩ := eB h (j := ((j : Int) - 1).toNat) (by omega)
      have e2 : ∀ i, i + 1 = j → ∀ (hi : i + 1 < kids.length), ltB (kids[i]'(by omega)).name kids[i + 1].name = Op.bytesLess a0.toList a1.toList := fun i hij hi => by
        have hi2 : ((j : Int) - 1).toNat = i := by omega
        have x0 : kids[i]'(by omega) = Tree.node k0 n0 a0 b0 ks0 := by simpa only [hi2] using e0
        have x1 : kids[i + 1] = Tree.node k1 n1 a1 b1 ks1 := by simpa only [hij] using e1
        rw [x0, x1]; rfl
      have hrbad : Op.bytesLess a0.toList a1.toList = false → (sfieldPs kids && risingP kids) = false := fun hb => by
        rw [Bool.and_eq_false_iff]
        right
        rw [Bool.eq_false_iff]
        intro hr
        rw [cS] at hr
        have := hr (j - 1) (by omega)
        rw [e2 (j - 1) (by omega)] at this
        rw [hb] at this; cases this
      have hrn : Op.bytesLess a0.toList a1.toList = true → ∀ i (hi : i + 1 < kids.length), i + 1 < j + 1 → ltB (kids[i]'(by omega)).name kids[i + 1].name = true := fun hb i hi hij => by
        by_cases e : i + 1 = j
        · rw [e2 i e]; exact hb
        · exact hri i hi (by omega)
      clear e2
      repeat' (first | refine bG ?_ | (refine bJ ?_; first | refine aR tabOk rfl rfl rfl (nb rfl) rfl ?_ | refine aZ rfl rfl (nb rfl) ?_ | (refine bI rfl rfl rfl (nb rfl) rfl rfl rfl (fun hq => ?_) (fun hq => ?_) <;> (first | (simp only [sD, sE, sB, sC, sN, sM, sT, sF] at hq; try (exfalso; omega)) | skip))| (refine bW rfl rfl rfl (nb rfl) rfl rfl rfl (hc _ (hsz _ _) (bY hw1 (List.getElem_mem _))) (fun hq => ?_) (fun hq => ?_)) | refine aD rfl rfl rfl (nb rfl) rfl rfl (by omega) ?_ | refine bC rfl rfl rfl (nb rfl) rfl rfl rfl (by omega) (by omega) ?_ | refine bD rfl rfl rfl (nb rfl) rfl rfl rfl (by omega) (by omega) ?_ | refine bB tabOk rfl rfl rfl (nb rfl) rfl rfl rfl rfl rfl rfl rfl rfl rfl ?_ | refine aT tabOk rfl rfl (nb rfl) rfl ?_ | refine aN tabOk rfl rfl rfl (nb rfl) rfl rfl rfl rfl rfl rfl ?_ | refine aO tabOk rfl rfl rfl (nb rfl) rfl rfl rfl rfl ?_ | refine aK tabOk rfl rfl rfl rfl rfl rfl rfl rfl rfl rfl rfl ?_ | refine aP tabOk rfl rfl rfl (nb rfl) rfl rfl rfl rfl (by first | assumption | omega) ?_ | refine aH tabOk rfl rfl rfl (nb rfl) rfl rfl rfl rfl (by first | rfl | omega) (by first | omega | simp) ?_ | refine aB tabOk rfl rfl rfl (nb rfl) rfl rfl rfl (by assumption) ?_ | refine aB tabOk rfl rfl rfl (nb rfl) rfl rfl rfl (bM _ _ (by first | assumption | omega)) ?_ | refine aD rfl rfl rfl (nb rfl) rfl rfl (by omega) ?_ | ((fail_if_success (refine aE (b := true) rfl rfl rfl ?_)); (fail_if_success (refine aE (b := false) rfl rfl rfl ?_)); refine aQ rfl rfl rfl (fun hq => ?_) (fun hq => ?_) <;> first | subst hq | (first | (simp only [sD, sE, sB, sC, sN, sM, sT, sF] at hq; try (exfalso; omega)) | skip)) | fail) | (refine bQ ?_; first | refine bH ?_ | refine bN ?_ | refine aL ?_ | refine aX ?_ | refine bO ?_ | refine bF ?_ | refine bE ?_ | refine aA (b := true) rfl (fun _ => ?_) nTf | refine aA (b := false) rfl nFt (fun _ => ?_) | refine aY ?_ | refine aW ?_ | refine aU mixed (by kernel_rfl) ?_ | refine aC mixed (by kernel_rfl) ?_ | (refine aA rfl (fun hq => ?_) (fun hq => ?_) <;> first | subst hq | (first | (simp only [sD, sE, sB, sC, sN, sM, sT, sF] at hq; try (exfalso; omega)) | skip)) | fail) | (refine bK ?_; first | refine bT ?_ | refine aI ?_ | refine aM ?_ | fail) | (refine bA ?_; first | refine bP ?_ | refine aF ?_ | refine aG (by decide) ?_ | refine aJ ?_ | fail) | refine bL (aV (by kernel_rfl)) ?_ | fail)
      all_goals first
        | (refine bV (by first | exact .inl rfl | exact .inr rfl) (bU rfl (aS rfl)) rfl ?_; refine cE (hbad ?_).symm; by_cases h1 : ks1.length = 1 <;> first | (obtain ⟨c, rfl⟩ := cY h1; simp_all [sigOne, labelP, eqB, emptyB]; done) | (obtain ⟨c, rfl⟩ := cY h1; simp_all [sigOne, labelP, eqB, emptyB]; omega) | (exfalso; omega) | (simp_all [fR]; done))
        | (refine bV (by first | exact .inl rfl | exact .inr rfl) (bU rfl (aS rfl)) rfl ?_; refine cE (hrbad ?_).symm; simp_all; done)
        | (exfalso; omega)
        | exact ⟨⟨j + 1, hlt, hgood (by obtain ⟨c, rfl⟩ := cY (l := ks1) (by omega); first | (simp_all [sigOne, labelP, eqB, emptyB]; done) | (simp_all [sigOne, labelP, eqB, emptyB]; omega)), hrn (by simp_all)⟩, (by show kids.length - (j + 1) < kids.length - j; omega), (cB (by repeat' first | exact trivial | refine ⟨rfl, ?_⟩) (by repeat' first | exact trivial | refine ⟨rfl, ?_⟩))⟩
  · repeat' (first | refine bG ?_ | (refine bJ ?_; first | refine aR tabOk rfl rfl rfl (nb rfl) rfl ?_ | refine aZ rfl rfl (nb rfl) ?_ | (refine bI rfl rfl rfl (nb rfl) rfl rfl rfl (fun hq => ?_) (fun hq => ?_) <;> (first | (simp only [sD, sE, sB, sC, sN, sM, sT, sF] at hq; try (exfalso; omega)) | skip)) | refine aD rfl rfl rfl (nb rfl) rfl rfl (by omega) ?_ | refine bC rfl rfl rfl (nb rfl) rfl rfl rfl (by omega) (by omega) ?_ | refine bD rfl rfl rfl (nb rfl) rfl rfl rfl (by omega) (by omega) ?_ | refine bB tabOk rfl rfl rfl (nb rfl) rfl rfl rfl rfl rfl rfl rfl rfl rfl ?_ | refine aT tabOk rfl rfl (nb rfl) rfl ?_ | refine aN tabOk rfl rfl rfl (nb rfl) rfl rfl rfl rfl rfl rfl ?_ | refine aO tabOk rfl rfl rfl (nb rfl) rfl rfl rfl rfl ?_ | refine aK tabOk rfl rfl rfl rfl rfl rfl rfl rfl rfl rfl rfl ?_ | refine aP tabOk rfl rfl rfl (nb rfl) rfl rfl rfl rfl (by first | assumption | omega) ?_ | refine aH tabOk rfl rfl rfl (nb rfl) rfl rfl rfl rfl (by first | rfl | omega) (by first | omega | simp) ?_ | refine aB tabOk rfl rfl rfl (nb rfl) rfl rfl rfl (by assumption) ?_ | refine aB tabOk rfl rfl rfl (nb rfl) rfl rfl rfl (bM _ _ (by first | assumption | omega)) ?_ | refine aD rfl rfl rfl (nb rfl) rfl rfl (by omega) ?_ | ((fail_if_success (refine aE (b := true) rfl rfl rfl ?_)); (fail_if_success (refine aE (b := false) rfl rfl rfl ?_)); refine aQ rfl rfl rfl (fun hq => ?_) (fun hq => ?_) <;> first | subst hq | (first | (simp only [sD, sE, sB, sC, sN, sM, sT, sF] at hq; try (exfalso; omega)) | skip)) | fail) | (refine bQ ?_; first | refine bH ?_ | refine bN ?_ | refine aL ?_ | refine aX ?_ | refine bO ?_ | refine bF ?_ | refine bE ?_ | refine aA (b := true) rfl (fun _ => ?_) nTf | refine aA (b := false) rfl nFt (fun _ => ?_) | refine aY ?_ | refine aW ?_ | refine aU mixed (by kernel_rfl) ?_ | refine aC mixed (by kernel_rfl) ?_ | (refine aA rfl (fun hq => ?_) (fun hq => ?_) <;> first | subst hq | (first | (simp only [sD, sE, sB, sC, sN, sM, sT, sF] at hq; try (exfalso; omega)) | skip)) | fail) | (refine bK ?_; first | refine bT ?_ | refine aI ?_ | refine aM ?_ | fail) | (refine bA ?_; first | refine bP ?_ | refine aF ?_ | refine aG (by decide) ?_ | refine aJ ?_ | fail) | refine bL (aV (by kernel_rfl)) ?_ | fail)
    all_goals (refine bV (by first | exact .inl rfl | exact .inr rfl) (bU rfl (aS rfl)) rfl ?_; refine cE ?_; rw [dX, dT fun i hi => hok i hi (by omega), Bool.true_and]; symm; rw [cS]; exact fun i hi => hri i hi (by omega))
end Go.Proofs.Ytlbemgokilhdnaa.Ab
namespace Go.Proofs.Ytlbemgokilhdnaa.Ab
set_option linter.unusedVariables false
set_option linter.unusedSimpArgs false
open Go.RowKit
attribute [local irreducible] AWP AOps AExit AThen ABlock ANoGoto FeetOk
set_option maxHeartbeats 16000000 in
set_option maxRecDepth 10000 in
theorem qV (t : Tree) : t.whole = true → t.size ≤ 65536 → ACalls Try.prog 82 [.imm t.iv] [] (.imm (.lit (.bool (isSigP t)))) [] := by
  induction t using Tree.sind with
  | h t ih =>
    intro h hs
    obtain ⟨k, n, a, b, kids, rfl⟩ := cL h
    have hl : kids.length < 1000000000 := by have := cA kids h; simp only [Tree.size] at hs; omega
    obtain ⟨q, hQ0⟩ : ∃ q, isSigP (.node k n a b kids) = q := ⟨_, rfl⟩
    rw [hQ0]
    rw [isSigP] at hQ0
    cases hb : sbareP n a b false false with
    | false =>
      rw [hb, Bool.false_and] at hQ0
      subst hQ0
      rw [jC] at hb
      have hb : b.toList = emptyB.toList → a.toList = emptyB.toList → n = 0 → False := fun h1 h2 h3 => by
        have e1 : eqB b emptyB = true := by unfold eqB; rw [h1]; simp
        have e2 : eqB a emptyB = true := by unfold eqB; rw [h2]; simp
        rw [e1, e2, h3] at hb
        cases hb
      clear ih
      refine bR Try.func82 rfl rfl (nb rfl) rfl ?_
      repeat' (first | refine bG ?_ | (refine bJ ?_; first | refine aR tabOk rfl rfl rfl (nb rfl) rfl ?_ | refine aZ rfl rfl (nb rfl) ?_ | (refine bI rfl rfl rfl (nb rfl) rfl rfl rfl (fun hq => ?_) (fun hq => ?_) <;> (first | (simp only [sD, sE, sB, sC, sN, sM, sT, sF] at hq; try (exfalso; omega)) | skip)) | refine aD rfl rfl rfl (nb rfl) rfl rfl (by omega) ?_ | refine bC rfl rfl rfl (nb rfl) rfl rfl rfl (by omega) (by omega) ?_ | refine bD rfl rfl rfl (nb rfl) rfl rfl rfl (by omega) (by omega) ?_ | refine bB tabOk rfl rfl rfl (nb rfl) rfl rfl rfl rfl rfl rfl rfl rfl rfl ?_ | refine aT tabOk rfl rfl (nb rfl) rfl ?_ | refine aN tabOk rfl rfl rfl (nb rfl) rfl rfl rfl rfl rfl rfl ?_ | refine aO tabOk rfl rfl rfl (nb rfl) rfl rfl rfl rfl ?_ | refine aK tabOk rfl rfl rfl rfl rfl rfl rfl rfl rfl rfl rfl ?_ | refine aP tabOk rfl rfl rfl (nb rfl) rfl rfl rfl rfl (by first | assumption | omega) ?_ | refine aH tabOk rfl rfl rfl (nb rfl) rfl rfl rfl rfl (by first | rfl | omega) (by first | omega | simp) ?_ | refine aB tabOk rfl rfl rfl (nb rfl) rfl rfl rfl (by assumption) ?_ | refine aB tabOk rfl rfl rfl (nb rfl) rfl rfl rfl (bM _ _ (by first | assumption | omega)) ?_ | refine aD rfl rfl rfl (nb rfl) rfl rfl (by omega) ?_ | ((fail_if_success (refine aE (b := true) rfl rfl rfl ?_)); (fail_if_success (refine aE (b := false) rfl rfl rfl ?_)); refine aQ rfl rfl rfl (fun hq => ?_) (fun hq => ?_) <;> first | subst hq | (first | (simp only [sD, sE, sB, sC, sN, sM, sT, sF] at hq; try (exfalso; omega)) | skip)) | fail) | (refine bQ ?_; first | refine bH ?_ | refine bN ?_ | refine aL ?_ | refine aX ?_ | refine bO ?_ | refine bF ?_ | refine bE ?_ | refine aA (b := true) rfl (fun _ => ?_) nTf | refine aA (b := false) rfl nFt (fun _ => ?_) | refine aY ?_ | refine aW ?_ | refine aU mixed (by kernel_rfl) ?_ | refine aC mixed (by kernel_rfl) ?_ | (refine aA rfl (fun hq => ?_) (fun hq => ?_) <;> first | subst hq | (first | (simp only [sD, sE, sB, sC, sN, sM, sT, sF] at hq; try (exfalso; omega)) | skip)) | fail) | (refine bK ?_; first | refine bT ?_ | refine aI ?_ | refine aM ?_ | fail) | (refine bA ?_; first | refine bP ?_ | refine aF ?_ | refine aG (by decide) ?_ | refine aJ ?_ | fail) | refine bL (aV (by kernel_rfl)) ?_ | fail)
      all_goals first
        | exact absurd rfl (by assumption)
        | exact (hb (by assumption) (by assumption) (by assumption)).elim
        | (refine bV (by first | exact .inl rfl | exact .inr rfl) (bU rfl (aS rfl)) rfl ?_; rfl)
    | true =>
      rw [hb, Bool.true_and] at hQ0
      by_cases hk : k = 160 ∨ k = 161
      · rw [if_pos hk] at hQ0
        rw [jC] at hb
        simp only [Bool.and_eq_true, beq_iff_eq, cU] at hb
        obtain ⟨⟨rfl, rfl⟩, rfl⟩ := hb
        by_cases h1 : kids.length = 1
        · obtain ⟨c, rfl⟩ := cY h1
          have hz := cH (k := k) (n := 0) (a := emptyB) (b := emptyB) (kids := [c]) (t := c) (by simp)
          have hwc := bY h (List.mem_singleton.2 rfl)
          have c1 := iH c hwc (by omega)
          rw [sig1, fT isConP c hwc (by omega)] at hQ0
          generalize (if isConP c = true then (0 : Int) else 16) = C at *
          clear ih
          refine bR Try.func82 rfl rfl (nb rfl) rfl ?_
          repeat' (first | refine bG ?_ | (refine bJ ?_; first | refine aR tabOk rfl rfl rfl (nb rfl) rfl ?_ | refine aZ rfl rfl (nb rfl) ?_ | (refine bI rfl rfl rfl (nb rfl) rfl rfl rfl (fun hq => ?_) (fun hq => ?_) <;> (first | (simp only [sD, sE, sB, sC, sN, sM, sT, sF] at hq; try (exfalso; omega)) | skip))| refine bS rfl rfl (nb rfl) rfl rfl rfl rfl (c1) ?_ | refine aD rfl rfl rfl (nb rfl) rfl rfl (by omega) ?_ | refine bC rfl rfl rfl (nb rfl) rfl rfl rfl (by omega) (by omega) ?_ | refine bD rfl rfl rfl (nb rfl) rfl rfl rfl (by omega) (by omega) ?_ | refine bB tabOk rfl rfl rfl (nb rfl) rfl rfl rfl rfl rfl rfl rfl rfl rfl ?_ | refine aT tabOk rfl rfl (nb rfl) rfl ?_ | refine aN tabOk rfl rfl rfl (nb rfl) rfl rfl rfl rfl rfl rfl ?_ | refine aO tabOk rfl rfl rfl (nb rfl) rfl rfl rfl rfl ?_ | refine aK tabOk rfl rfl rfl rfl rfl rfl rfl rfl rfl rfl rfl ?_ | refine aP tabOk rfl rfl rfl (nb rfl) rfl rfl rfl rfl (by first | assumption | omega) ?_ | refine aH tabOk rfl rfl rfl (nb rfl) rfl rfl rfl rfl (by first | rfl | omega) (by first | omega | simp) ?_ | refine aB tabOk rfl rfl rfl (nb rfl) rfl rfl rfl (by assumption) ?_ | refine aB tabOk rfl rfl rfl (nb rfl) rfl rfl rfl (bM _ _ (by first | assumption | omega)) ?_ | refine aD rfl rfl rfl (nb rfl) rfl rfl (by omega) ?_ | ((fail_if_success (refine aE (b := true) rfl rfl rfl ?_)); (fail_if_success (refine aE (b := false) rfl rfl rfl ?_)); refine aQ rfl rfl rfl (fun hq => ?_) (fun hq => ?_) <;> first | subst hq | (first | (simp only [sD, sE, sB, sC, sN, sM, sT, sF] at hq; try (exfalso; omega)) | skip)) | fail) | (refine bQ ?_; first | refine bH ?_ | refine bN ?_ | refine aL ?_ | refine aX ?_ | refine bO ?_ | refine bF ?_ | refine bE ?_ | refine aA (b := true) rfl (fun _ => ?_) nTf | refine aA (b := false) rfl nFt (fun _ => ?_) | refine aY ?_ | refine aW ?_ | refine aU mixed (by kernel_rfl) ?_ | refine aC mixed (by kernel_rfl) ?_ | (refine aA rfl (fun hq => ?_) (fun hq => ?_) <;> first | subst hq | (first | (simp only [sD, sE, sB, sC, sN, sM, sT, sF] at hq; try (exfalso; omega)) | skip)) | fail) | (refine bK ?_; first | refine bT ?_ | refine aI ?_ | refine aM ?_ | fail) | (refine bA ?_; first | refine bP ?_ | refine aF ?_ | refine aG (by decide) ?_ | refine aJ ?_ | fail) | refine bL (aV (by kernel_rfl)) ?_ | fail)
          all_goals first
            | exact absurd rfl (by assumption)
            | (exfalso; omega)
            | (refine bV (by first | exact .inl rfl | exact .inr rfl) (bU rfl (aS rfl)) rfl ?_; refine cE ?_; subst hQ0; simp_all)
        · rw [kP h1] at hQ0
          subst hQ0
          clear ih
          refine bR Try.func82 rfl rfl (nb rfl) rfl ?_
          repeat' (first | refine bG ?_ | (refine bJ ?_; first | refine aR tabOk rfl rfl rfl (nb rfl) rfl ?_ | refine aZ rfl rfl (nb rfl) ?_ | (refine bI rfl rfl rfl (nb rfl) rfl rfl rfl (fun hq => ?_) (fun hq => ?_) <;> (first | (simp only [sD, sE, sB, sC, sN, sM, sT, sF] at hq; try (exfalso; omega)) | skip)) | refine aD rfl rfl rfl (nb rfl) rfl rfl (by omega) ?_ | refine bC rfl rfl rfl (nb rfl) rfl rfl rfl (by omega) (by omega) ?_ | refine bD rfl rfl rfl (nb rfl) rfl rfl rfl (by omega) (by omega) ?_ | refine bB tabOk rfl rfl rfl (nb rfl) rfl rfl rfl rfl rfl rfl rfl rfl rfl ?_ | refine aT tabOk rfl rfl (nb rfl) rfl ?_ | refine aN tabOk rfl rfl rfl (nb rfl) rfl rfl rfl rfl rfl rfl ?_ | refine aO tabOk rfl rfl rfl (nb rfl) rfl rfl rfl rfl ?_ | refine aK tabOk rfl rfl rfl rfl rfl rfl rfl rfl rfl rfl rfl ?_ | refine aP tabOk rfl rfl rfl (nb rfl) rfl rfl rfl rfl (by first | assumption | omega) ?_ | refine aH tabOk rfl rfl rfl (nb rfl) rfl rfl rfl rfl (by first | rfl | omega) (by first | omega | simp) ?_ | refine aB tabOk rfl rfl rfl (nb rfl) rfl rfl rfl (by assumption) ?_ | refine aB tabOk rfl rfl rfl (nb rfl) rfl rfl rfl (bM _ _ (by first | assumption | omega)) ?_ | refine aD rfl rfl rfl (nb rfl) rfl rfl (by omega) ?_ | ((fail_if_success (refine aE (b := true) rfl rfl rfl ?_)); (fail_if_success (refine aE (b := false) rfl rfl rfl ?_)); refine aQ rfl rfl rfl (fun hq => ?_) (fun hq => ?_) <;> first | subst hq | (first | (simp only [sD, sE, sB, sC, sN, sM, sT, sF] at hq; try (exfalso; omega)) | skip)) | fail) | (refine bQ ?_; first | refine bH ?_ | refine bN ?_ | refine aL ?_ | refine aX ?_ | refine bO ?_ | refine bF ?_ | refine bE ?_ | refine aA (b := true) rfl (fun _ => ?_) nTf | refine aA (b := false) rfl nFt (fun _ => ?_) | refine aY ?_ | refine aW ?_ | refine aU mixed (by kernel_rfl) ?_ | refine aC mixed (by kernel_rfl) ?_ | (refine aA rfl (fun hq => ?_) (fun hq => ?_) <;> first | subst hq | (first | (simp only [sD, sE, sB, sC, sN, sM, sT, sF] at hq; try (exfalso; omega)) | skip)) | fail) | (refine bK ?_; first | refine bT ?_ | refine aI ?_ | refine aM ?_ | fail) | (refine bA ?_; first | refine bP ?_ | refine aF ?_ | refine aG (by decide) ?_ | refine aJ ?_ | fail) | refine bL (aV (by kernel_rfl)) ?_ | fail)
          all_goals first
            | exact absurd rfl (by assumption)
            | (exfalso; omega)
            | (refine bV (by first | exact .inl rfl | exact .inr rfl) (bU rfl (aS rfl)) rfl ?_; rfl)
      · rw [if_neg hk] at hQ0
        by_cases h162 : k = 162
        · rw [if_pos h162] at hQ0
          have := qU k n a b kids hb h162 h hl (fun t' h1 h2 => ih t' h1 h2 (by omega))
          rw [hQ0] at this
          exact this
        · rw [if_neg h162] at hQ0
          subst hQ0
          rw [jC] at hb
          simp only [Bool.and_eq_true, beq_iff_eq, cU] at hb
          obtain ⟨⟨rfl, rfl⟩, rfl⟩ := hb
          clear ih
          refine bR Try.func82 rfl rfl (nb rfl) rfl ?_
          repeat' (first | refine bG ?_ | (refine bJ ?_; first | refine aR tabOk rfl rfl rfl (nb rfl) rfl ?_ | refine aZ rfl rfl (nb rfl) ?_ | (refine bI rfl rfl rfl (nb rfl) rfl rfl rfl (fun hq => ?_) (fun hq => ?_) <;> (first | (simp only [sD, sE, sB, sC, sN, sM, sT, sF] at hq; try (exfalso; omega)) | skip)) | refine aD rfl rfl rfl (nb rfl) rfl rfl (by omega) ?_ | refine bC rfl rfl rfl (nb rfl) rfl rfl rfl (by omega) (by omega) ?_ | refine bD rfl rfl rfl (nb rfl) rfl rfl rfl (by omega) (by omega) ?_ | refine bB tabOk rfl rfl rfl (nb rfl) rfl rfl rfl rfl rfl rfl rfl rfl rfl ?_ | refine aT tabOk rfl rfl (nb rfl) rfl ?_ | refine aN tabOk rfl rfl rfl (nb rfl) rfl rfl rfl rfl rfl rfl ?_ | refine aO tabOk rfl rfl rfl (nb rfl) rfl rfl rfl rfl ?_ | refine aK tabOk rfl rfl rfl rfl rfl rfl rfl rfl rfl rfl rfl ?_ | refine aP tabOk rfl rfl rfl (nb rfl) rfl rfl rfl rfl (by first | assumption | omega) ?_ | refine aH tabOk rfl rfl rfl (nb rfl) rfl rfl rfl rfl (by first | rfl | omega) (by first | omega | simp) ?_ | refine aB tabOk rfl rfl rfl (nb rfl) rfl rfl rfl (by assumption) ?_ | refine aB tabOk rfl rfl rfl (nb rfl) rfl rfl rfl (bM _ _ (by first | assumption | omega)) ?_ | refine aD rfl rfl rfl (nb rfl) rfl rfl (by omega) ?_ | ((fail_if_success (refine aE (b := true) rfl rfl rfl ?_)); (fail_if_success (refine aE (b := false) rfl rfl rfl ?_)); refine aQ rfl rfl rfl (fun hq => ?_) (fun hq => ?_) <;> first | subst hq | (first | (simp only [sD, sE, sB, sC, sN, sM, sT, sF] at hq; try (exfalso; omega)) | skip)) | fail) | (refine bQ ?_; first | refine bH ?_ | refine bN ?_ | refine aL ?_ | refine aX ?_ | refine bO ?_ | refine bF ?_ | refine bE ?_ | refine aA (b := true) rfl (fun _ => ?_) nTf | refine aA (b := false) rfl nFt (fun _ => ?_) | refine aY ?_ | refine aW ?_ | refine aU mixed (by kernel_rfl) ?_ | refine aC mixed (by kernel_rfl) ?_ | (refine aA rfl (fun hq => ?_) (fun hq => ?_) <;> first | subst hq | (first | (simp only [sD, sE, sB, sC, sN, sM, sT, sF] at hq; try (exfalso; omega)) | skip)) | fail) | (refine bK ?_; first | refine bT ?_ | refine aI ?_ | refine aM ?_ | fail) | (refine bA ?_; first | refine bP ?_ | refine aF ?_ | refine aG (by decide) ?_ | refine aJ ?_ | fail) | refine bL (aV (by kernel_rfl)) ?_ | fail)
          all_goals first
            | exact absurd rfl (by assumption)
            | exact absurd (by assumption) h162
            | (exfalso; omega)
            | (refine bV (by first | exact .inl rfl | exact .inr rfl) (bU rfl (aS rfl)) rfl ?_; rfl)
theorem uV (n : Int) (a b : ByteArray) : sbareP n a b false true = (eqB b emptyB && eqB a emptyB && decide (0 ≤ n ∧ n ≤ 8192)) := by
  unfold sbareP
  rw [Bool.false_or, Bool.true_and]
  congr 1
  rw [Bool.eq_iff_iff]
  simp
  omega
set_option maxHeartbeats 16000000 in
set_option maxRecDepth 10000 in
theorem pO (k n : Int) (a b : ByteArray) (kids : List Tree) (kind cnt : Int) (hl : kids.length < 1000000000) : ACalls Try.prog 84 [.imm (Tree.iv (.node k n a b kids)), .imm (.lit (.int .i64 kind)), .imm (.lit (.int .i64 cnt))] [] (.imm (.lit (.bool ((k == kind) && sbareP n a b false true && ((kids.length : Int) == cnt))))) [] := by
  rw [uV]
  refine bR Try.func84 rfl rfl (nb rfl) rfl ?_
  repeat' (first | refine bG ?_ | (refine bJ ?_; first | refine aR tabOk rfl rfl rfl (nb rfl) rfl ?_ | refine aZ rfl rfl (nb rfl) ?_ | (refine bI rfl rfl rfl (nb rfl) rfl rfl rfl (fun hq => ?_) (fun hq => ?_) <;> (first | (simp only [sD, sE, sB, sC, sN, sM, sT, sF] at hq; try (exfalso; omega)) | skip)) | refine aD rfl rfl rfl (nb rfl) rfl rfl (by omega) ?_ | refine bC rfl rfl rfl (nb rfl) rfl rfl rfl (by omega) (by omega) ?_ | refine bD rfl rfl rfl (nb rfl) rfl rfl rfl (by omega) (by omega) ?_ | refine bB tabOk rfl rfl rfl (nb rfl) rfl rfl rfl rfl rfl rfl rfl rfl rfl ?_ | refine aT tabOk rfl rfl (nb rfl) rfl ?_ | refine aN tabOk rfl rfl rfl (nb rfl) rfl rfl rfl rfl rfl rfl ?_ | refine aO tabOk rfl rfl rfl (nb rfl) rfl rfl rfl rfl ?_ | refine aK tabOk rfl rfl rfl rfl rfl rfl rfl rfl rfl rfl rfl ?_ | refine aP tabOk rfl rfl rfl (nb rfl) rfl rfl rfl rfl (by first | assumption | omega) ?_ | refine aH tabOk rfl rfl rfl (nb rfl) rfl rfl rfl rfl (by first | rfl | omega) (by first | omega | simp) ?_ | refine aB tabOk rfl rfl rfl (nb rfl) rfl rfl rfl (by assumption) ?_ | refine aB tabOk rfl rfl rfl (nb rfl) rfl rfl rfl (bM _ _ (by first | assumption | omega)) ?_ | refine aD rfl rfl rfl (nb rfl) rfl rfl (by omega) ?_ | ((fail_if_success (refine aE (b := true) rfl rfl rfl ?_)); (fail_if_success (refine aE (b := false) rfl rfl rfl ?_)); refine aQ rfl rfl rfl (fun hq => ?_) (fun hq => ?_) <;> first | subst hq | (first | (simp only [sD, sE, sB, sC, sN, sM, sT, sF] at hq; try (exfalso; omega)) | skip)) | fail) | (refine bQ ?_; first | refine bH ?_ | refine bN ?_ | refine aL ?_ | refine aX ?_ | refine bO ?_ | refine bF ?_ | refine bE ?_ | refine aA (b := true) rfl (fun _ => ?_) nTf | refine aA (b := false) rfl nFt (fun _ => ?_) | refine aY ?_ | refine aW ?_ | refine aU mixed (by kernel_rfl) ?_ | refine aC mixed (by kernel_rfl) ?_ | (refine aA rfl (fun hq => ?_) (fun hq => ?_) <;> first | subst hq | (first | (simp only [sD, sE, sB, sC, sN, sM, sT, sF] at hq; try (exfalso; omega)) | skip)) | fail) | (refine bK ?_; first | refine bT ?_ | refine aI ?_ | refine aM ?_ | fail) | (refine bA ?_; first | refine bP ?_ | refine aF ?_ | refine aG (by decide) ?_ | refine aJ ?_ | fail) | refine bL (aV (by kernel_rfl)) ?_ | fail)
  all_goals (refine bV (by first | exact .inl rfl | exact .inr rfl) (bU rfl (aS rfl)) rfl ?_; refine cE ?_; first | (simp_all [eqB, emptyB]; done) | (simp_all [eqB, emptyB]; omega))
set_option maxHeartbeats 8000000 in
set_option maxRecDepth 10000 in
theorem wA (t : Tree) (h : t.whole = true) (hs : t.size ≤ 65536) : ACalls Try.prog 83 [.imm t.iv] [] (.imm (.lit (.bool (isExP t)))) [] := by
  obtain ⟨k, n, a, b, kids, rfl⟩ := cL h
  have hl : kids.length < 1000000000 := by have := cA kids h; simp only [Tree.size] at hs; omega
  have c1 := pO k n a b kids 164 1 hl
  by_cases h1 : kids.length = 1
  · obtain ⟨c, rfl⟩ := cY h1
    have hz := cH (k := k) (n := n) (a := a) (b := b) (kids := [c]) (t := c) (by simp)
    have c2 := qV c (bY h (by simp)) (by omega)
    rw [isExP]
    rw [show (([c].length : Int) == 1) = true from rfl, Bool.and_true] at c1
    generalize ((k == 164) && sbareP n a b false true) = B at *
    generalize isSigP c = F at *
    refine bR Try.func83 rfl rfl (nb rfl) rfl ?_
    repeat' (first | refine bG ?_ | (refine bJ ?_; first | refine aR tabOk rfl rfl rfl (nb rfl) rfl ?_ | refine aZ rfl rfl (nb rfl) ?_ | (refine bI rfl rfl rfl (nb rfl) rfl rfl rfl (fun hq => ?_) (fun hq => ?_) <;> (first | (simp only [sD, sE, sB, sC, sN, sM, sT, sF] at hq; try (exfalso; omega)) | skip))| (refine bW rfl rfl rfl (nb rfl) rfl rfl rfl (c1) (fun hq => ?_) (fun hq => ?_)) | (refine bW rfl rfl rfl (nb rfl) rfl rfl rfl (c2) (fun hq => ?_) (fun hq => ?_)) | refine aD rfl rfl rfl (nb rfl) rfl rfl (by omega) ?_ | refine bC rfl rfl rfl (nb rfl) rfl rfl rfl (by omega) (by omega) ?_ | refine bD rfl rfl rfl (nb rfl) rfl rfl rfl (by omega) (by omega) ?_ | refine bB tabOk rfl rfl rfl (nb rfl) rfl rfl rfl rfl rfl rfl rfl rfl rfl ?_ | refine aT tabOk rfl rfl (nb rfl) rfl ?_ | refine aN tabOk rfl rfl rfl (nb rfl) rfl rfl rfl rfl rfl rfl ?_ | refine aO tabOk rfl rfl rfl (nb rfl) rfl rfl rfl rfl ?_ | refine aK tabOk rfl rfl rfl rfl rfl rfl rfl rfl rfl rfl rfl ?_ | refine aP tabOk rfl rfl rfl (nb rfl) rfl rfl rfl rfl (by first | assumption | omega) ?_ | refine aH tabOk rfl rfl rfl (nb rfl) rfl rfl rfl rfl (by first | rfl | omega) (by first | omega | simp) ?_ | refine aB tabOk rfl rfl rfl (nb rfl) rfl rfl rfl (by assumption) ?_ | refine aB tabOk rfl rfl rfl (nb rfl) rfl rfl rfl (bM _ _ (by first | assumption | omega)) ?_ | refine aD rfl rfl rfl (nb rfl) rfl rfl (by omega) ?_ | ((fail_if_success (refine aE (b := true) rfl rfl rfl ?_)); (fail_if_success (refine aE (b := false) rfl rfl rfl ?_)); refine aQ rfl rfl rfl (fun hq => ?_) (fun hq => ?_) <;> first | subst hq | (first | (simp only [sD, sE, sB, sC, sN, sM, sT, sF] at hq; try (exfalso; omega)) | skip)) | fail) | (refine bQ ?_; first | refine bH ?_ | refine bN ?_ | refine aL ?_ | refine aX ?_ | refine bO ?_ | refine bF ?_ | refine bE ?_ | refine aA (b := true) rfl (fun _ => ?_) nTf | refine aA (b := false) rfl nFt (fun _ => ?_) | refine aY ?_ | refine aW ?_ | refine aU mixed (by kernel_rfl) ?_ | refine aC mixed (by kernel_rfl) ?_ | (refine aA rfl (fun hq => ?_) (fun hq => ?_) <;> first | subst hq | (first | (simp only [sD, sE, sB, sC, sN, sM, sT, sF] at hq; try (exfalso; omega)) | skip)) | fail) | (refine bK ?_; first | refine bT ?_ | refine aI ?_ | refine aM ?_ | fail) | (refine bA ?_; first | refine bP ?_ | refine aF ?_ | refine aG (by decide) ?_ | refine aJ ?_ | fail) | refine bL (aV (by kernel_rfl)) ?_ | fail)
    all_goals (refine bV (by first | exact .inl rfl | exact .inr rfl) (bU rfl (aS rfl)) rfl ?_; refine cE ?_; simp_all)
  · rw [lL h1]
    rw [show ((kids.length : Int) == 1) = false from beq_eq_false_iff_ne.2 (by omega), Bool.and_false] at c1
    refine bR Try.func83 rfl rfl (nb rfl) rfl ?_
    repeat' (first | refine bG ?_ | (refine bJ ?_; first | refine aR tabOk rfl rfl rfl (nb rfl) rfl ?_ | refine aZ rfl rfl (nb rfl) ?_ | (refine bI rfl rfl rfl (nb rfl) rfl rfl rfl (fun hq => ?_) (fun hq => ?_) <;> (first | (simp only [sD, sE, sB, sC, sN, sM, sT, sF] at hq; try (exfalso; omega)) | skip))| refine bS rfl rfl (nb rfl) rfl rfl rfl rfl (c1) ?_ | refine aD rfl rfl rfl (nb rfl) rfl rfl (by omega) ?_ | refine bC rfl rfl rfl (nb rfl) rfl rfl rfl (by omega) (by omega) ?_ | refine bD rfl rfl rfl (nb rfl) rfl rfl rfl (by omega) (by omega) ?_ | refine bB tabOk rfl rfl rfl (nb rfl) rfl rfl rfl rfl rfl rfl rfl rfl rfl ?_ | refine aT tabOk rfl rfl (nb rfl) rfl ?_ | refine aN tabOk rfl rfl rfl (nb rfl) rfl rfl rfl rfl rfl rfl ?_ | refine aO tabOk rfl rfl rfl (nb rfl) rfl rfl rfl rfl ?_ | refine aK tabOk rfl rfl rfl rfl rfl rfl rfl rfl rfl rfl rfl ?_ | refine aP tabOk rfl rfl rfl (nb rfl) rfl rfl rfl rfl (by first | assumption | omega) ?_ | refine aH tabOk rfl rfl rfl (nb rfl) rfl rfl rfl rfl (by first | rfl | omega) (by first | omega | simp) ?_ | refine aB tabOk rfl rfl rfl (nb rfl) rfl rfl rfl (by assumption) ?_ | refine aB tabOk rfl rfl rfl (nb rfl) rfl rfl rfl (bM _ _ (by first | assumption | omega)) ?_ | refine aD rfl rfl rfl (nb rfl) rfl rfl (by omega) ?_ | ((fail_if_success (refine aE (b := true) rfl rfl rfl ?_)); (fail_if_success (refine aE (b := false) rfl rfl rfl ?_)); refine aQ rfl rfl rfl (fun hq => ?_) (fun hq => ?_) <;> first | subst hq | (first | (simp only [sD, sE, sB, sC, sN, sM, sT, sF] at hq; try (exfalso; omega)) | skip)) | fail) | (refine bQ ?_; first | refine bH ?_ | refine bN ?_ | refine aL ?_ | refine aX ?_ | refine bO ?_ | refine bF ?_ | refine bE ?_ | refine aA (b := true) rfl (fun _ => ?_) nTf | refine aA (b := false) rfl nFt (fun _ => ?_) | refine aY ?_ | refine aW ?_ | refine aU mixed (by kernel_rfl) ?_ | refine aC mixed (by kernel_rfl) ?_ | (refine aA rfl (fun hq => ?_) (fun hq => ?_) <;> first | subst hq | (first | (simp only [sD, sE, sB, sC, sN, sM, sT, sF] at hq; try (exfalso; omega)) | skip)) | fail) | (refine bK ?_; first | refine bT ?_ | refine aI ?_ | refine aM ?_ | fail) | (refine bA ?_; first | refine bP ?_ | refine aF ?_ | refine aG (by decide) ?_ | refine aJ ?_ | fail) | refine bL (aV (by kernel_rfl)) ?_ | fail)
    all_goals first
      | exact absurd rfl (by assumption)
      | exact bZ (by first | exact .inl rfl | exact .inr rfl) (bU rfl (aS rfl)) rfl
set_option maxHeartbeats 16000000 in
set_option maxRecDepth 10000 in
theorem mC (t : Tree) (hw : t = .nil ∨ t.whole = true) (hs : t.size ≤ 65536) : ACalls Try.prog 52 [.imm t.iv] [] (.imm (.lit (.int .i64 (checkP sformP t)))) [] := by
  rcases hw with rfl | hw
  · have c1 : ACalls Try.prog 60 [.imm (Tree.iv .nil)] [] (.imm (.lit (.int .i64 1))) [] := by
      have c0 : ACalls Try.prog 96 [.imm (Tree.iv .nil), .imm (.lit (.int .i64 65536))] [] (.imm (.tup [.lit (.int .i64 65536), .lit (.int .i64 1)])) [] := by
        refine bR Try.func96 rfl rfl (nb rfl) rfl ?_
        repeat' (first | refine bG ?_ | (refine bJ ?_; first | refine aR tabOk rfl rfl rfl (nb rfl) rfl ?_ | refine aZ rfl rfl (nb rfl) ?_ | (refine bI rfl rfl rfl (nb rfl) rfl rfl rfl (fun hq => ?_) (fun hq => ?_) <;> (first | (simp only [sD, sE, sB, sC, sN, sM, sT, sF] at hq; try (exfalso; omega)) | skip)) | refine aD rfl rfl rfl (nb rfl) rfl rfl (by omega) ?_ | refine bC rfl rfl rfl (nb rfl) rfl rfl rfl (by omega) (by omega) ?_ | refine bD rfl rfl rfl (nb rfl) rfl rfl rfl (by omega) (by omega) ?_ | refine bB tabOk rfl rfl rfl (nb rfl) rfl rfl rfl rfl rfl rfl rfl rfl rfl ?_ | refine aT tabOk rfl rfl (nb rfl) rfl ?_ | refine aN tabOk rfl rfl rfl (nb rfl) rfl rfl rfl rfl rfl rfl ?_ | refine aO tabOk rfl rfl rfl (nb rfl) rfl rfl rfl rfl ?_ | refine aK tabOk rfl rfl rfl rfl rfl rfl rfl rfl rfl rfl rfl ?_ | refine aP tabOk rfl rfl rfl (nb rfl) rfl rfl rfl rfl (by first | assumption | omega) ?_ | refine aH tabOk rfl rfl rfl (nb rfl) rfl rfl rfl rfl (by first | rfl | omega) (by first | omega | simp) ?_ | refine aB tabOk rfl rfl rfl (nb rfl) rfl rfl rfl (by assumption) ?_ | refine aB tabOk rfl rfl rfl (nb rfl) rfl rfl rfl (bM _ _ (by first | assumption | omega)) ?_ | refine aD rfl rfl rfl (nb rfl) rfl rfl (by omega) ?_ | ((fail_if_success (refine aE (b := true) rfl rfl rfl ?_)); (fail_if_success (refine aE (b := false) rfl rfl rfl ?_)); refine aQ rfl rfl rfl (fun hq => ?_) (fun hq => ?_) <;> first | subst hq | (first | (simp only [sD, sE, sB, sC, sN, sM, sT, sF] at hq; try (exfalso; omega)) | skip)) | fail) | (refine bQ ?_; first | refine bH ?_ | refine bN ?_ | refine aL ?_ | refine aX ?_ | refine bO ?_ | refine bF ?_ | refine bE ?_ | refine aA (b := true) rfl (fun _ => ?_) nTf | refine aA (b := false) rfl nFt (fun _ => ?_) | refine aY ?_ | refine aW ?_ | refine aU mixed (by kernel_rfl) ?_ | refine aC mixed (by kernel_rfl) ?_ | (refine aA rfl (fun hq => ?_) (fun hq => ?_) <;> first | subst hq | (first | (simp only [sD, sE, sB, sC, sN, sM, sT, sF] at hq; try (exfalso; omega)) | skip)) | fail) | (refine bK ?_; first | refine bT ?_ | refine aI ?_ | refine aM ?_ | fail) | (refine bA ?_; first | refine bP ?_ | refine aF ?_ | refine aG (by decide) ?_ | refine aJ ?_ | fail) | refine bL (aV (by kernel_rfl)) ?_ | fail)
        all_goals first
          | exact absurd rfl (by assumption)
          | (refine bV (by first | exact .inl rfl | exact .inr rfl) (bX rfl (aS rfl) (aS rfl)) rfl ?_; rfl)
      refine bR Try.func60 rfl rfl (nb rfl) rfl ?_
      repeat' (first | refine bG ?_ | (refine bJ ?_; first | refine aR tabOk rfl rfl rfl (nb rfl) rfl ?_ | refine aZ rfl rfl (nb rfl) ?_ | (refine bI rfl rfl rfl (nb rfl) rfl rfl rfl (fun hq => ?_) (fun hq => ?_) <;> (first | (simp only [sD, sE, sB, sC, sN, sM, sT, sF] at hq; try (exfalso; omega)) | skip))| refine bS rfl rfl (nb rfl) rfl rfl rfl rfl (c0) ?_ | refine aD rfl rfl rfl (nb rfl) rfl rfl (by omega) ?_ | refine bC rfl rfl rfl (nb rfl) rfl rfl rfl (by omega) (by omega) ?_ | refine bD rfl rfl rfl (nb rfl) rfl rfl rfl (by omega) (by omega) ?_ | refine bB tabOk rfl rfl rfl (nb rfl) rfl rfl rfl rfl rfl rfl rfl rfl rfl ?_ | refine aT tabOk rfl rfl (nb rfl) rfl ?_ | refine aN tabOk rfl rfl rfl (nb rfl) rfl rfl rfl rfl rfl rfl ?_ | refine aO tabOk rfl rfl rfl (nb rfl) rfl rfl rfl rfl ?_ | refine aK tabOk rfl rfl rfl rfl rfl rfl rfl rfl rfl rfl rfl ?_ | refine aP tabOk rfl rfl rfl (nb rfl) rfl rfl rfl rfl (by first | assumption | omega) ?_ | refine aH tabOk rfl rfl rfl (nb rfl) rfl rfl rfl rfl (by first | rfl | omega) (by first | omega | simp) ?_ | refine aB tabOk rfl rfl rfl (nb rfl) rfl rfl rfl (by assumption) ?_ | refine aB tabOk rfl rfl rfl (nb rfl) rfl rfl rfl (bM _ _ (by first | assumption | omega)) ?_ | refine aD rfl rfl rfl (nb rfl) rfl rfl (by omega) ?_ | ((fail_if_success (refine aE (b := true) rfl rfl rfl ?_)); (fail_if_success (refine aE (b := false) rfl rfl rfl ?_)); refine aQ rfl rfl rfl (fun hq => ?_) (fun hq => ?_) <;> first | subst hq | (first | (simp only [sD, sE, sB, sC, sN, sM, sT, sF] at hq; try (exfalso; omega)) | skip)) | fail) | (refine bQ ?_; first | refine bH ?_ | refine bN ?_ | refine aL ?_ | refine aX ?_ | refine bO ?_ | refine bF ?_ | refine bE ?_ | refine aA (b := true) rfl (fun _ => ?_) nTf | refine aA (b := false) rfl nFt (fun _ => ?_) | refine aY ?_ | refine aW ?_ | refine aU mixed (by kernel_rfl) ?_ | refine aC mixed (by kernel_rfl) ?_ | (refine aA rfl (fun hq => ?_) (fun hq => ?_) <;> first | subst hq | (first | (simp only [sD, sE, sB, sC, sN, sM, sT, sF] at hq; try (exfalso; omega)) | skip)) | fail) | (refine bK ?_; first | refine bT ?_ | refine aI ?_ | refine aM ?_ | fail) | (refine bA ?_; first | refine bP ?_ | refine aF ?_ | refine aG (by decide) ?_ | refine aJ ?_ | fail) | refine bL (aV (by kernel_rfl)) ?_ | fail)
      all_goals first
        | exact absurd rfl (by assumption)
        | (refine bV (by first | exact .inl rfl | exact .inr rfl) (bU rfl (aS rfl)) rfl ?_; rfl)
    rw [show checkP sformP .nil = 1 from rfl]
    refine bR Try.func52 rfl rfl (nb rfl) rfl ?_
    repeat' (first | refine bG ?_ | (refine bJ ?_; first | refine aR tabOk rfl rfl rfl (nb rfl) rfl ?_ | refine aZ rfl rfl (nb rfl) ?_ | (refine bI rfl rfl rfl (nb rfl) rfl rfl rfl (fun hq => ?_) (fun hq => ?_) <;> (first | (simp only [sD, sE, sB, sC, sN, sM, sT, sF] at hq; try (exfalso; omega)) | skip))| refine bS rfl rfl (nb rfl) rfl rfl rfl rfl (c1) ?_ | refine aD rfl rfl rfl (nb rfl) rfl rfl (by omega) ?_ | refine bC rfl rfl rfl (nb rfl) rfl rfl rfl (by omega) (by omega) ?_ | refine bD rfl rfl rfl (nb rfl) rfl rfl rfl (by omega) (by omega) ?_ | refine bB tabOk rfl rfl rfl (nb rfl) rfl rfl rfl rfl rfl rfl rfl rfl rfl ?_ | refine aT tabOk rfl rfl (nb rfl) rfl ?_ | refine aN tabOk rfl rfl rfl (nb rfl) rfl rfl rfl rfl rfl rfl ?_ | refine aO tabOk rfl rfl rfl (nb rfl) rfl rfl rfl rfl ?_ | refine aK tabOk rfl rfl rfl rfl rfl rfl rfl rfl rfl rfl rfl ?_ | refine aP tabOk rfl rfl rfl (nb rfl) rfl rfl rfl rfl (by first | assumption | omega) ?_ | refine aH tabOk rfl rfl rfl (nb rfl) rfl rfl rfl rfl (by first | rfl | omega) (by first | omega | simp) ?_ | refine aB tabOk rfl rfl rfl (nb rfl) rfl rfl rfl (by assumption) ?_ | refine aB tabOk rfl rfl rfl (nb rfl) rfl rfl rfl (bM _ _ (by first | assumption | omega)) ?_ | refine aD rfl rfl rfl (nb rfl) rfl rfl (by omega) ?_ | ((fail_if_success (refine aE (b := true) rfl rfl rfl ?_)); (fail_if_success (refine aE (b := false) rfl rfl rfl ?_)); refine aQ rfl rfl rfl (fun hq => ?_) (fun hq => ?_) <;> first | subst hq | (first | (simp only [sD, sE, sB, sC, sN, sM, sT, sF] at hq; try (exfalso; omega)) | skip)) | fail) | (refine bQ ?_; first | refine bH ?_ | refine bN ?_ | refine aL ?_ | refine aX ?_ | refine bO ?_ | refine bF ?_ | refine bE ?_ | refine aA (b := true) rfl (fun _ => ?_) nTf | refine aA (b := false) rfl nFt (fun _ => ?_) | refine aY ?_ | refine aW ?_ | refine aU mixed (by kernel_rfl) ?_ | refine aC mixed (by kernel_rfl) ?_ | (refine aA rfl (fun hq => ?_) (fun hq => ?_) <;> first | subst hq | (first | (simp only [sD, sE, sB, sC, sN, sM, sT, sF] at hq; try (exfalso; omega)) | skip)) | fail) | (refine bK ?_; first | refine bT ?_ | refine aI ?_ | refine aM ?_ | fail) | (refine bA ?_; first | refine bP ?_ | refine aF ?_ | refine aG (by decide) ?_ | refine aJ ?_ | fail) | refine bL (aV (by kernel_rfl)) ?_ | fail)
    all_goals first
      | exact absurd rfl (by assumption)
      | (refine bV (by first | exact .inl rfl | exact .inr rfl) (bU rfl (aS rfl)) rfl ?_; rfl)
  · have c1 := iH t hw hs
    have c2 := qV t hw hs
    have c3 := wA t hw hs
    rw [fT sformP t hw hs]
    obtain ⟨k, n, a, b, kids, rfl⟩ := cL hw
    have hl : kids.length < 1000000000 := by have := cA kids hw; simp only [Tree.size] at hs; omega
    have c4 := pO k n a b kids 165 2 hl
    unfold sformP
    have hC : (if isConP (.node k n a b kids) = true then (0 : Int) else 16) ≠ 1 ∧ (if isConP (.node k n a b kids) = true then (0 : Int) else 16) ≠ 3 := by split <;> omega
    generalize (if isConP (.node k n a b kids) = true then (0 : Int) else 16) = C at *
    obtain ⟨hC1, hC3⟩ := hC
    by_cases h1 : kids.length = 2
    · obtain ⟨x, y, rfl⟩ := two h1
      have hz := cH (k := k) (n := n) (a := a) (b := b) (kids := [x, y]) (t := x) (by simp)
      have hz2 := cH (k := k) (n := n) (a := a) (b := b) (kids := [x, y]) (t := y) (by simp)
      have c5 := qV x (bY hw (by simp)) (by omega)
      have c6 := wA y (bY hw (by simp)) (by omega)
      rw [show (([x, y].length : Int) == 2) = true from rfl, Bool.and_true] at c4
      rw [isFunP]
      generalize ((k == 165) && sbareP n a b false true) = B at *
      generalize isSigP x = F at *
      generalize isExP y = G at *
      generalize isSigP (.node k n a b [x, y]) = S1 at *
      generalize isExP (.node k n a b [x, y]) = S2 at *
      refine bR Try.func52 rfl rfl (nb rfl) rfl ?_
      repeat' (first | refine bG ?_ | (refine bJ ?_; first | refine aR tabOk rfl rfl rfl (nb rfl) rfl ?_ | refine aZ rfl rfl (nb rfl) ?_ | (refine bI rfl rfl rfl (nb rfl) rfl rfl rfl (fun hq => ?_) (fun hq => ?_) <;> (first | (simp only [sD, sE, sB, sC, sN, sM, sT, sF] at hq; try (exfalso; omega)) | skip))| refine bS rfl rfl (nb rfl) rfl rfl rfl rfl (c1) ?_ | (refine bW rfl rfl rfl (nb rfl) rfl rfl rfl (c2) (fun hq => ?_) (fun hq => ?_)) | (refine bW rfl rfl rfl (nb rfl) rfl rfl rfl (c3) (fun hq => ?_) (fun hq => ?_)) | (refine bW rfl rfl rfl (nb rfl) rfl rfl rfl (c4) (fun hq => ?_) (fun hq => ?_)) | (refine bW rfl rfl rfl (nb rfl) rfl rfl rfl (c5) (fun hq => ?_) (fun hq => ?_)) | (refine bW rfl rfl rfl (nb rfl) rfl rfl rfl (c6) (fun hq => ?_) (fun hq => ?_)) | refine aD rfl rfl rfl (nb rfl) rfl rfl (by omega) ?_ | refine bC rfl rfl rfl (nb rfl) rfl rfl rfl (by omega) (by omega) ?_ | refine bD rfl rfl rfl (nb rfl) rfl rfl rfl (by omega) (by omega) ?_ | refine bB tabOk rfl rfl rfl (nb rfl) rfl rfl rfl rfl rfl rfl rfl rfl rfl ?_ | refine aT tabOk rfl rfl (nb rfl) rfl ?_ | refine aN tabOk rfl rfl rfl (nb rfl) rfl rfl rfl rfl rfl rfl ?_ | refine aO tabOk rfl rfl rfl (nb rfl) rfl rfl rfl rfl ?_ | refine aK tabOk rfl rfl rfl rfl rfl rfl rfl rfl rfl rfl rfl ?_ | refine aP tabOk rfl rfl rfl (nb rfl) rfl rfl rfl rfl (by first | assumption | omega) ?_ | refine aH tabOk rfl rfl rfl (nb rfl) rfl rfl rfl rfl (by first | rfl | omega) (by first | omega | simp) ?_ | refine aB tabOk rfl rfl rfl (nb rfl) rfl rfl rfl (by assumption) ?_ | refine aB tabOk rfl rfl rfl (nb rfl) rfl rfl rfl (bM _ _ (by first | assumption | omega)) ?_ | refine aD rfl rfl rfl (nb rfl) rfl rfl (by omega) ?_ | ((fail_if_success (refine aE (b := true) rfl rfl rfl ?_)); (fail_if_success (refine aE (b := false) rfl rfl rfl ?_)); refine aQ rfl rfl rfl (fun hq => ?_) (fun hq => ?_) <;> first | subst hq | (first | (simp only [sD, sE, sB, sC, sN, sM, sT, sF] at hq; try (exfalso; omega)) | skip)) | fail) | (refine bQ ?_; first | refine bH ?_ | refine bN ?_ | refine aL ?_ | refine aX ?_ | refine bO ?_ | refine bF ?_ | refine bE ?_ | refine aA (b := true) rfl (fun _ => ?_) nTf | refine aA (b := false) rfl nFt (fun _ => ?_) | refine aY ?_ | refine aW ?_ | refine aU mixed (by kernel_rfl) ?_ | refine aC mixed (by kernel_rfl) ?_ | (refine aA rfl (fun hq => ?_) (fun hq => ?_) <;> first | subst hq | (first | (simp only [sD, sE, sB, sC, sN, sM, sT, sF] at hq; try (exfalso; omega)) | skip)) | fail) | (refine bK ?_; first | refine bT ?_ | refine aI ?_ | refine aM ?_ | fail) | (refine bA ?_; first | refine bP ?_ | refine aF ?_ | refine aG (by decide) ?_ | refine aJ ?_ | fail) | refine bL (aV (by kernel_rfl)) ?_ | fail)
      all_goals first
        | exact absurd rfl (by assumption)
        | exact absurd (by assumption) hC1
        | exact absurd (by assumption) hC3
        | (refine bV (by first | exact .inl rfl | exact .inr rfl) (bU rfl (aS rfl)) rfl ?_; refine fE ?_; simp_all)
    · rw [mW h1, Bool.or_false]
      rw [show ((kids.length : Int) == 2) = false from beq_eq_false_iff_ne.2 (by omega), Bool.and_false] at c4
      generalize isSigP (.node k n a b kids) = S1 at *
      generalize isExP (.node k n a b kids) = S2 at *
      refine bR Try.func52 rfl rfl (nb rfl) rfl ?_
      repeat' (first | refine bG ?_ | (refine bJ ?_; first | refine aR tabOk rfl rfl rfl (nb rfl) rfl ?_ | refine aZ rfl rfl (nb rfl) ?_ | (refine bI rfl rfl rfl (nb rfl) rfl rfl rfl (fun hq => ?_) (fun hq => ?_) <;> (first | (simp only [sD, sE, sB, sC, sN, sM, sT, sF] at hq; try (exfalso; omega)) | skip))| refine bS rfl rfl (nb rfl) rfl rfl rfl rfl (c1) ?_ | (refine bW rfl rfl rfl (nb rfl) rfl rfl rfl (c2) (fun hq => ?_) (fun hq => ?_)) | (refine bW rfl rfl rfl (nb rfl) rfl rfl rfl (c3) (fun hq => ?_) (fun hq => ?_)) | refine bS rfl rfl (nb rfl) rfl rfl rfl rfl (c4) ?_ | refine aD rfl rfl rfl (nb rfl) rfl rfl (by omega) ?_ | refine bC rfl rfl rfl (nb rfl) rfl rfl rfl (by omega) (by omega) ?_ | refine bD rfl rfl rfl (nb rfl) rfl rfl rfl (by omega) (by omega) ?_ | refine bB tabOk rfl rfl rfl (nb rfl) rfl rfl rfl rfl rfl rfl rfl rfl rfl ?_ | refine aT tabOk rfl rfl (nb rfl) rfl ?_ | refine aN tabOk rfl rfl rfl (nb rfl) rfl rfl rfl rfl rfl rfl ?_ | refine aO tabOk rfl rfl rfl (nb rfl) rfl rfl rfl rfl ?_ | refine aK tabOk rfl rfl rfl rfl rfl rfl rfl rfl rfl rfl rfl ?_ | refine aP tabOk rfl rfl rfl (nb rfl) rfl rfl rfl rfl (by first | assumption | omega) ?_ | refine aH tabOk rfl rfl rfl (nb rfl) rfl rfl rfl rfl (by first | rfl | omega) (by first | omega | simp) ?_ | refine aB tabOk rfl rfl rfl (nb rfl) rfl rfl rfl (by assumption) ?_ | refine aB tabOk rfl rfl rfl (nb rfl) rfl rfl rfl (bM _ _ (by first | assumption | omega)) ?_ | refine aD rfl rfl rfl (nb rfl) rfl rfl (by omega) ?_ | ((fail_if_success (refine aE (b := true) rfl rfl rfl ?_)); (fail_if_success (refine aE (b := false) rfl rfl rfl ?_)); refine aQ rfl rfl rfl (fun hq => ?_) (fun hq => ?_) <;> first | subst hq | (first | (simp only [sD, sE, sB, sC, sN, sM, sT, sF] at hq; try (exfalso; omega)) | skip)) | fail) | (refine bQ ?_; first | refine bH ?_ | refine bN ?_ | refine aL ?_ | refine aX ?_ | refine bO ?_ | refine bF ?_ | refine bE ?_ | refine aA (b := true) rfl (fun _ => ?_) nTf | refine aA (b := false) rfl nFt (fun _ => ?_) | refine aY ?_ | refine aW ?_ | refine aU mixed (by kernel_rfl) ?_ | refine aC mixed (by kernel_rfl) ?_ | (refine aA rfl (fun hq => ?_) (fun hq => ?_) <;> first | subst hq | (first | (simp only [sD, sE, sB, sC, sN, sM, sT, sF] at hq; try (exfalso; omega)) | skip)) | fail) | (refine bK ?_; first | refine bT ?_ | refine aI ?_ | refine aM ?_ | fail) | (refine bA ?_; first | refine bP ?_ | refine aF ?_ | refine aG (by decide) ?_ | refine aJ ?_ | fail) | refine bL (aV (by kernel_rfl)) ?_ | fail)
      all_goals first
        | exact absurd rfl (by assumption)
        | exact absurd (by assumption) hC1
        | exact absurd (by assumption) hC3
        | (refine bV (by first | exact .inl rfl | exact .inr rfl) (bU rfl (aS rfl)) rfl ?_; refine fE ?_; simp_all)
end Go.Proofs.Ytlbemgokilhdnaa.Ab
namespace Go.Proofs.Ytlbemgokilhdnaa.Ab
set_option linter.unusedVariables false
set_option linter.unusedSimpArgs false
open Go.RowKit
attribute [local irreducible] AWP AOps AExit AThen ABlock ANoGoto FeetOk
mutual
/-- What is made of a term, for a signature. -/
def madeP : Tree → Tree → Tree
  | .nil, x => x
  | .node k _ _ _ kids, x => if k = 162 then .node 136 0 emptyB emptyB (madeKs kids x) else x
def madeKs : List Tree → Tree → List Tree
  | [], _ => []
  | t :: ts, x => madeK t x :: madeKs ts x
def madeK : Tree → Tree → Tree
  | .nil, _ => .nil
  | .node _ _ name _ ks, x => .node 137 0 name emptyB (made1 ks (.node 138 0 name emptyB [x]))
def made1 : List Tree → Tree → List Tree
  | [c], p => [madeP c p]
  | _, _ => []
end
theorem iJ (x : Tree) : ∀ l : List Tree, madeKs l x = l.map fun t => madeK t x
  | [] => by simp [madeKs]
  | t :: ts => by simp [madeKs, iJ x ts]
theorem eS (s : Tree) : ∀ x : Tree, isSigP s = true → x.whole = true → (madeP s x).whole = true ∧ (madeP s x).size ≤ s.size * (x.size + s.size) := by
  induction s using Tree.sind with
  | h s ih =>
    intro x hs hx
    cases s with
    | nil => simp [isSigP] at hs
    | node k n a b kids =>
      have hx1 := gJ hx
      rw [madeP]
      by_cases h162 : k = 162
      · rw [if_pos h162]
        have hf : ∀ t ∈ kids, okSField t = true := by
          rcases dH hs with ⟨h, _⟩ | ⟨_, h, _⟩
          · omega
          · exact h
        have hsz : (Tree.node k n a b kids).size = 1 + Tree.sizes kids := by rw [Tree.size]
        have key : ∀ (l : List Tree), (∀ t ∈ l, t ∈ kids) → Tree.wholes (madeKs l x) = true ∧ Tree.sizes (madeKs l x) ≤ Tree.sizes l * (x.size + (Tree.node k n a b kids).size - 1) := by
          intro l
          induction l with
          | nil => intro _; rw [madeKs]; exact ⟨rfl, Nat.zero_le _⟩
          | cons t ts ihl =>
            intro hm
            have ht := hm t (by simp)
            have hz := cH (k := k) (n := n) (a := a) (b := b) ht
            obtain ⟨n', a', b', c, rfl, hc⟩ := dA (hf t ht)
            have hcs : (Tree.node 163 n' a' b' [c]).size = c.size + 1 := by simp only [Tree.size, Tree.sizes]; omega
            have hps : (Tree.node 138 0 a' emptyB [x]).size = x.size + 1 := by simp only [Tree.size, Tree.sizes]; omega
            have h1 := ih c (by omega) (.node 138 0 a' emptyB [x]) hc (by show Tree.wholes [x] = true; rw [Tree.wholes, hx]; rfl)
            have h2 := ihl fun t' h => hm t' (by simp [h])
            rw [madeKs, madeK, made1]
            refine ⟨?_, ?_⟩
            · rw [Tree.wholes, h2.1]
              show (Tree.wholes [_] && true) = true
              rw [Tree.wholes, h1.1]
              rfl
            · have h3 := h1.2
              rw [hps] at h3
              rw [hcs] at hz
              have h4 : c.size * (x.size + 1 + c.size) ≤ c.size * (x.size + (Tree.node k n a b kids).size - 1) := Nat.mul_le_mul_left _ (by omega)
              have h5 : (Tree.node 163 n' a' b' [c]).size * (x.size + (Tree.node k n a b kids).size - 1) = c.size * (x.size + (Tree.node k n a b kids).size - 1) + (x.size + (Tree.node k n a b kids).size - 1) := by rw [hcs, Nat.add_mul, Nat.one_mul]
              simp only [Tree.sizes]
              rw [Nat.add_mul, h5]
              have h6 : (Tree.node 137 0 a' emptyB [madeP c (.node 138 0 a' emptyB [x])]).size = (madeP c (.node 138 0 a' emptyB [x])).size + 1 := by simp only [Tree.size, Tree.sizes]; omega
              rw [h6]
              have h7 := h2.2
              omega
        have := key kids fun _ h => h
        refine ⟨this.1, ?_⟩
        rw [Tree.size, hsz]
        rw [hsz] at this
        have h8 := this.2
        have h9 : x.size + (1 + Tree.sizes kids) - 1 = x.size + Tree.sizes kids := by omega
        rw [h9] at h8
        have h10 : (1 + Tree.sizes kids) * (x.size + (1 + Tree.sizes kids)) = (1 + Tree.sizes kids) + (1 + Tree.sizes kids) * (x.size + Tree.sizes kids) := by
          rw [show x.size + (1 + Tree.sizes kids) = 1 + (x.size + Tree.sizes kids) by omega, Nat.mul_add, Nat.mul_one]
        have h11 : (1 + Tree.sizes kids) * (x.size + Tree.sizes kids) = (x.size + Tree.sizes kids) + Tree.sizes kids * (x.size + Tree.sizes kids) := by rw [Nat.add_mul, Nat.one_mul]
        omega
      · rw [if_neg h162]
        refine ⟨hx, ?_⟩
        have h1 := gJ (t := .node k n a b kids) (by
          rcases dH hs with ⟨_, c, rfl, hc⟩ | ⟨h, _⟩
          · show Tree.wholes [c] = true
            rw [Tree.wholes, (cD hc).1]; rfl
          · exact absurd h h162)
        calc x.size ≤ 1 * (x.size + (Tree.node k n a b kids).size) := by omega
          _ ≤ _ := Nat.mul_le_mul_right _ h1
set_option maxHeartbeats 4000000 in
set_option maxRecDepth 10000 in
theorem vZ (t : Tree) : t.whole = true → t.size ≤ 1000000 → ACalls Try.prog 54 [.imm t.iv] [] (.imm (.lit (.int .i64 (t.size : Int)))) [] := by
  induction t using Tree.ind with
  | h1 => intro h; simp [Tree.whole] at h
  | h2 k n a b kids ih =>
    intro hw hs
    have hl := cA kids hw
    have hsz : (Tree.node k n a b kids).size = 1 + Tree.sizes kids := by rw [Tree.size]
    rw [hsz] at hs ⊢
    have htk : ∀ j (h : j < kids.length), Tree.sizes (kids.take (j + 1)) = Tree.sizes (kids.take j) + kids[j].size := fun j h => by
      rw [List.take_succ_eq_append_getElem h, eC]
      simp only [Tree.sizes]; omega
    have hle : ∀ j, Tree.sizes (kids.take j) ≤ Tree.sizes kids := fun j => by
      have := eC (kids.take j) (kids.drop j)
      rw [List.take_append_drop] at this
      omega
    refine bR Try.func54 rfl rfl (nb rfl) rfl ?_
    repeat' (first | refine bG ?_ | (refine bJ ?_; first | refine aR tabOk rfl rfl rfl (nb rfl) rfl ?_ | refine aZ rfl rfl (nb rfl) ?_ | (refine bI rfl rfl rfl (nb rfl) rfl rfl rfl (fun hq => ?_) (fun hq => ?_) <;> (first | (simp only [sD, sE, sB, sC, sN, sM, sT, sF] at hq; try (exfalso; omega)) | skip)) | refine aD rfl rfl rfl (nb rfl) rfl rfl (by omega) ?_ | refine bC rfl rfl rfl (nb rfl) rfl rfl rfl (by omega) (by omega) ?_ | refine bD rfl rfl rfl (nb rfl) rfl rfl rfl (by omega) (by omega) ?_ | refine bB tabOk rfl rfl rfl (nb rfl) rfl rfl rfl rfl rfl rfl rfl rfl rfl ?_ | refine aT tabOk rfl rfl (nb rfl) rfl ?_ | refine aN tabOk rfl rfl rfl (nb rfl) rfl rfl rfl rfl rfl rfl ?_ | refine aO tabOk rfl rfl rfl (nb rfl) rfl rfl rfl rfl ?_ | refine aK tabOk rfl rfl rfl rfl rfl rfl rfl rfl rfl rfl rfl ?_ | refine aP tabOk rfl rfl rfl (nb rfl) rfl rfl rfl rfl (by first | assumption | omega) ?_ | refine aH tabOk rfl rfl rfl (nb rfl) rfl rfl rfl rfl (by first | rfl | omega) (by first | omega | simp) ?_ | refine aB tabOk rfl rfl rfl (nb rfl) rfl rfl rfl (by assumption) ?_ | refine aB tabOk rfl rfl rfl (nb rfl) rfl rfl rfl (bM _ _ (by first | assumption | omega)) ?_ | refine aD rfl rfl rfl (nb rfl) rfl rfl (by omega) ?_ | ((fail_if_success (refine aE (b := true) rfl rfl rfl ?_)); (fail_if_success (refine aE (b := false) rfl rfl rfl ?_)); refine aQ rfl rfl rfl (fun hq => ?_) (fun hq => ?_) <;> first | subst hq | (first | (simp only [sD, sE, sB, sC, sN, sM, sT, sF] at hq; try (exfalso; omega)) | skip)) | fail) | (refine bQ ?_; first | refine bH ?_ | refine bN ?_ | refine aL ?_ | refine aX ?_ | refine bO ?_ | refine bF ?_ | refine bE ?_ | refine aA (b := true) rfl (fun _ => ?_) nTf | refine aA (b := false) rfl nFt (fun _ => ?_) | refine aY ?_ | refine aW ?_ | refine aU mixed (by kernel_rfl) ?_ | refine aC mixed (by kernel_rfl) ?_ | (refine aA rfl (fun hq => ?_) (fun hq => ?_) <;> first | subst hq | (first | (simp only [sD, sE, sB, sC, sN, sM, sT, sF] at hq; try (exfalso; omega)) | skip)) | fail) | (refine bK ?_; first | refine bT ?_ | refine aI ?_ | refine aM ?_ | fail) | (refine bA ?_; first | refine bP ?_ | refine aF ?_ | refine aG (by decide) ?_ | refine aJ ?_ | fail) | refine bL (aV (by kernel_rfl)) ?_ | fail)
    refine cJ (ι := {j : Nat // j ≤ kids.length}) (fun j => S.f ⟨[(4, .imm (.lit (.int .i64 (j.1 : Int)))), (0, .imm (Tree.iv (.node k n a b kids))), (3, .imm (.lit (.int .i64 ((1 + Tree.sizes (kids.take j.1) : Nat) : Int))))], []⟩) (fun j => kids.length - j.1) ⟨0, Nat.zero_le _⟩ (cB (by repeat' first | exact trivial | refine ⟨rfl, ?_⟩) (by repeat' first | exact trivial | refine ⟨rfl, ?_⟩)) ?_
    rintro ⟨j, hj⟩
    dsimp only
    by_cases hlt : j < kids.length
    · have hm := List.getElem_mem hlt
      have hget := bM kids j hlt
      have h1 := htk j hlt
      have h2 := hle j
      have h3 := hle (j + 1)
      have hc := ih _ hm (bY hw hm) (by omega)
      repeat' (first | refine bG ?_ | (refine bJ ?_; first | refine aR tabOk rfl rfl rfl (nb rfl) rfl ?_ | refine aZ rfl rfl (nb rfl) ?_ | (refine bI rfl rfl rfl (nb rfl) rfl rfl rfl (fun hq => ?_) (fun hq => ?_) <;> (first | (simp only [sD, sE, sB, sC, sN, sM, sT, sF] at hq; try (exfalso; omega)) | skip))| refine aB tabOk rfl rfl rfl (nb rfl) rfl rfl rfl hget ?_ | refine bS rfl rfl (nb rfl) rfl rfl rfl rfl (hc) ?_ | refine bC (z := ((1 + Tree.sizes (kids.take (j + 1)) : Nat) : Int)) rfl rfl rfl (nb rfl) rfl rfl (by omega) (by omega) (by omega) ?_ | refine aD rfl rfl rfl (nb rfl) rfl rfl (by omega) ?_ | refine bC rfl rfl rfl (nb rfl) rfl rfl rfl (by omega) (by omega) ?_ | refine bD rfl rfl rfl (nb rfl) rfl rfl rfl (by omega) (by omega) ?_ | refine bB tabOk rfl rfl rfl (nb rfl) rfl rfl rfl rfl rfl rfl rfl rfl rfl ?_ | refine aT tabOk rfl rfl (nb rfl) rfl ?_ | refine aN tabOk rfl rfl rfl (nb rfl) rfl rfl rfl rfl rfl rfl ?_ | refine aO tabOk rfl rfl rfl (nb rfl) rfl rfl rfl rfl ?_ | refine aK tabOk rfl rfl rfl rfl rfl rfl rfl rfl rfl rfl rfl ?_ | refine aP tabOk rfl rfl rfl (nb rfl) rfl rfl rfl rfl (by first | assumption | omega) ?_ | refine aH tabOk rfl rfl rfl (nb rfl) rfl rfl rfl rfl (by first | rfl | omega) (by first | omega | simp) ?_ | refine aB tabOk rfl rfl rfl (nb rfl) rfl rfl rfl (by assumption) ?_ | refine aB tabOk rfl rfl rfl (nb rfl) rfl rfl rfl (bM _ _ (by first | assumption | omega)) ?_ | refine aD rfl rfl rfl (nb rfl) rfl rfl (by omega) ?_ | ((fail_if_success (refine aE (b := true) rfl rfl rfl ?_)); (fail_if_success (refine aE (b := false) rfl rfl rfl ?_)); refine aQ rfl rfl rfl (fun hq => ?_) (fun hq => ?_) <;> first | subst hq | (first | (simp only [sD, sE, sB, sC, sN, sM, sT, sF] at hq; try (exfalso; omega)) | skip)) | fail) | (refine bQ ?_; first | refine bH ?_ | refine bN ?_ | refine aL ?_ | refine aX ?_ | refine bO ?_ | refine bF ?_ | refine bE ?_ | refine aA (b := true) rfl (fun _ => ?_) nTf | refine aA (b := false) rfl nFt (fun _ => ?_) | refine aY ?_ | refine aW ?_ | refine aU mixed (by kernel_rfl) ?_ | refine aC mixed (by kernel_rfl) ?_ | (refine aA rfl (fun hq => ?_) (fun hq => ?_) <;> first | subst hq | (first | (simp only [sD, sE, sB, sC, sN, sM, sT, sF] at hq; try (exfalso; omega)) | skip)) | fail) | (refine bK ?_; first | refine bT ?_ | refine aI ?_ | refine aM ?_ | fail) | (refine bA ?_; first | refine bP ?_ | refine aF ?_ | refine aG (by decide) ?_ | refine aJ ?_ | fail) | refine bL (aV (by kernel_rfl)) ?_ | fail)
      all_goals first
        | (exfalso; omega)
        | exact ⟨⟨j + 1, hlt⟩, (by show kids.length - (j + 1) < kids.length - j; omega), (cB (by repeat' first | exact trivial | refine ⟨rfl, ?_⟩) (by repeat' first | exact trivial | refine ⟨rfl, ?_⟩))⟩
    · have ej : j = kids.length := by omega
      subst ej
      rw [List.take_length]
      repeat' (first | refine bG ?_ | (refine bJ ?_; first | refine aR tabOk rfl rfl rfl (nb rfl) rfl ?_ | refine aZ rfl rfl (nb rfl) ?_ | (refine bI rfl rfl rfl (nb rfl) rfl rfl rfl (fun hq => ?_) (fun hq => ?_) <;> (first | (simp only [sD, sE, sB, sC, sN, sM, sT, sF] at hq; try (exfalso; omega)) | skip)) | refine aD rfl rfl rfl (nb rfl) rfl rfl (by omega) ?_ | refine bC rfl rfl rfl (nb rfl) rfl rfl rfl (by omega) (by omega) ?_ | refine bD rfl rfl rfl (nb rfl) rfl rfl rfl (by omega) (by omega) ?_ | refine bB tabOk rfl rfl rfl (nb rfl) rfl rfl rfl rfl rfl rfl rfl rfl rfl ?_ | refine aT tabOk rfl rfl (nb rfl) rfl ?_ | refine aN tabOk rfl rfl rfl (nb rfl) rfl rfl rfl rfl rfl rfl ?_ | refine aO tabOk rfl rfl rfl (nb rfl) rfl rfl rfl rfl ?_ | refine aK tabOk rfl rfl rfl rfl rfl rfl rfl rfl rfl rfl rfl ?_ | refine aP tabOk rfl rfl rfl (nb rfl) rfl rfl rfl rfl (by first | assumption | omega) ?_ | refine aH tabOk rfl rfl rfl (nb rfl) rfl rfl rfl rfl (by first | rfl | omega) (by first | omega | simp) ?_ | refine aB tabOk rfl rfl rfl (nb rfl) rfl rfl rfl (by assumption) ?_ | refine aB tabOk rfl rfl rfl (nb rfl) rfl rfl rfl (bM _ _ (by first | assumption | omega)) ?_ | refine aD rfl rfl rfl (nb rfl) rfl rfl (by omega) ?_ | ((fail_if_success (refine aE (b := true) rfl rfl rfl ?_)); (fail_if_success (refine aE (b := false) rfl rfl rfl ?_)); refine aQ rfl rfl rfl (fun hq => ?_) (fun hq => ?_) <;> first | subst hq | (first | (simp only [sD, sE, sB, sC, sN, sM, sT, sF] at hq; try (exfalso; omega)) | skip)) | fail) | (refine bQ ?_; first | refine bH ?_ | refine bN ?_ | refine aL ?_ | refine aX ?_ | refine bO ?_ | refine bF ?_ | refine bE ?_ | refine aA (b := true) rfl (fun _ => ?_) nTf | refine aA (b := false) rfl nFt (fun _ => ?_) | refine aY ?_ | refine aW ?_ | refine aU mixed (by kernel_rfl) ?_ | refine aC mixed (by kernel_rfl) ?_ | (refine aA rfl (fun hq => ?_) (fun hq => ?_) <;> first | subst hq | (first | (simp only [sD, sE, sB, sC, sN, sM, sT, sF] at hq; try (exfalso; omega)) | skip)) | fail) | (refine bK ?_; first | refine bT ?_ | refine aI ?_ | refine aM ?_ | fail) | (refine bA ?_; first | refine bP ?_ | refine aF ?_ | refine aG (by decide) ?_ | refine aJ ?_ | fail) | refine bL (aV (by kernel_rfl)) ?_ | fail)
      all_goals first
        | (exfalso; omega)
        | (refine bV (by first | exact .inl rfl | exact .inr rfl) (bU rfl (aS rfl)) rfl ?_; rfl)
set_option maxHeartbeats 16000000 in
set_option maxRecDepth 10000 in
theorem wG (s : Tree) : ∀ x : Tree, isSigP s = true → s.whole = true → x.whole = true → s.size ≤ 1000000 → ACalls Try.prog 53 [.imm x.iv, .imm s.iv] [] (.imm (madeP s x).iv) [] := by
  induction s using Tree.sind with
  | h s ih =>
    intro x hsg hw hx hsz
    obtain ⟨k, n, a, b, kids, rfl⟩ := cL hw
    have hl := cA kids hw
    have hl2 : kids.length ≤ 1000000 := by simp only [Tree.size] at hsz; omega
    obtain ⟨Q, hQ⟩ : ∃ Q, madeP (.node k n a b kids) x = Q := ⟨_, rfl⟩
    rw [hQ]
    rw [madeP] at hQ
    obtain ⟨px, hpx⟩ := dU (dF hx)
    by_cases h162 : k = 162
    · subst h162
      rw [if_pos rfl] at hQ
      have hf : ∀ t ∈ kids, okSField t = true := by
        rcases dH hsg with ⟨h, _⟩ | ⟨_, h, _⟩
        · omega
        · exact h
      refine dD Try.func53 rfl rfl (nb rfl) rfl ?_
      repeat' (first | refine bG ?_ | (refine bJ ?_; first | refine aR tabOk rfl rfl rfl (nb rfl) rfl ?_ | refine aZ rfl rfl (nb rfl) ?_ | (refine bI rfl rfl rfl (nb rfl) rfl rfl rfl (fun hq => ?_) (fun hq => ?_) <;> (first | (simp only [sD, sE, sB, sC, sN, sM, sT, sF] at hq; try (exfalso; omega)) | skip))| refine eZ (d := 15) tabOk rfl rfl rfl (nb rfl) rfl rfl rfl rfl rfl ?_ | refine gZ (d := 16) (t := 38) rfl rfl rfl (nb rfl) rfl rfl rfl rfl rfl rfl rfl ?_ | refine aD rfl rfl rfl (nb rfl) rfl rfl (by omega) ?_ | refine bC rfl rfl rfl (nb rfl) rfl rfl rfl (by omega) (by omega) ?_ | refine bD rfl rfl rfl (nb rfl) rfl rfl rfl (by omega) (by omega) ?_ | refine bB tabOk rfl rfl rfl (nb rfl) rfl rfl rfl rfl rfl rfl rfl rfl rfl ?_ | refine aT tabOk rfl rfl (nb rfl) rfl ?_ | refine aN tabOk rfl rfl rfl (nb rfl) rfl rfl rfl rfl rfl rfl ?_ | refine aO tabOk rfl rfl rfl (nb rfl) rfl rfl rfl rfl ?_ | refine aK tabOk rfl rfl rfl rfl rfl rfl rfl rfl rfl rfl rfl ?_ | refine aP tabOk rfl rfl rfl (nb rfl) rfl rfl rfl rfl (by first | assumption | omega) ?_ | refine aH tabOk rfl rfl rfl (nb rfl) rfl rfl rfl rfl (by first | rfl | omega) (by first | omega | simp) ?_ | refine aB tabOk rfl rfl rfl (nb rfl) rfl rfl rfl (by assumption) ?_ | refine aB tabOk rfl rfl rfl (nb rfl) rfl rfl rfl (bM _ _ (by first | assumption | omega)) ?_ | refine aD rfl rfl rfl (nb rfl) rfl rfl (by omega) ?_ | ((fail_if_success (refine aE (b := true) rfl rfl rfl ?_)); (fail_if_success (refine aE (b := false) rfl rfl rfl ?_)); refine aQ rfl rfl rfl (fun hq => ?_) (fun hq => ?_) <;> first | subst hq | (first | (simp only [sD, sE, sB, sC, sN, sM, sT, sF] at hq; try (exfalso; omega)) | skip)) | fail) | (refine bQ ?_; first | refine bH ?_ | refine bN ?_ | refine aL ?_ | refine aX ?_ | refine bO ?_ | refine bF ?_ | refine bE ?_ | refine aA (b := true) rfl (fun _ => ?_) nTf | refine aA (b := false) rfl nFt (fun _ => ?_) | refine aY ?_ | refine aW ?_ | refine aU mixed (by kernel_rfl) ?_ | refine aC mixed (by kernel_rfl) ?_ | (refine aA rfl (fun hq => ?_) (fun hq => ?_) <;> first | subst hq | (first | (simp only [sD, sE, sB, sC, sN, sM, sT, sF] at hq; try (exfalso; omega)) | skip)) | fail) | (refine bK ?_; first | refine bT ?_ | refine aI ?_ | refine aM ?_ | fail) | (refine bA ?_; first | refine bP ?_ | refine aF ?_ | refine aG (by decide) ?_ | refine aJ ?_ | fail) | refine bL (aV (by kernel_rfl)) ?_ | fail)
      all_goals first
        | exact absurd rfl (by assumption)
        | (exfalso; omega)
        | skip
      refine dQ (dW (h0 := 16) (k0 := 4) 500 25 1 rfl rfl (by simp) rfl rfl) ?_
      refine cJ (ι := {j : Nat // j ≤ kids.length}) (fun j => S.f ⟨[(6, .imm (.lit (.int .i64 (j.1 : Int)))), (5, .obj 16 0), (0, .imm x.iv), (1, .imm (Tree.iv (.node 162 n a b kids)))], [(500, .arr 25 1 j.1 (Tree.ivs ((kids.take j.1).map fun t => madeK t x))), (16, .cells [.imm (.lit (.int .i64 136)), .imm (.lit (.int .i64 0)), .imm (.lit (.string ⟨#[]⟩)), .imm (.lit (.string ⟨#[]⟩)), .ref 500 j.1])]⟩) (fun j => kids.length - j.1) ⟨0, Nat.zero_le _⟩ (cB (by repeat' first | exact trivial | refine ⟨rfl, ?_⟩) (by repeat' first | exact trivial | refine ⟨rfl, ?_⟩)) ?_
      rintro ⟨j, hj⟩
      dsimp only
      by_cases hlt : j < kids.length
      · have hm := List.getElem_mem hlt
        have hz := cH (k := 162) (n := n) (a := a) (b := b) hm
        have hwk := bY hw hm
        have hget := bM kids j hlt
        have hnx : Tree.ivs ((kids.take (j + 1)).map fun t => madeK t x) = Tree.ivs ((kids.take j).map fun t => madeK t x) ++ [(madeK kids[j] x).iv] := by
          rw [List.take_succ_eq_append_getElem hlt, List.map_append, cT, cT, List.map_append]; rfl
        obtain ⟨n1, a1, b1, c, e, hc⟩ := dA (hf _ hm)
        rw [e] at hz hwk hget hnx
        have hz2 := cH (k := 163) (n := n1) (a := a1) (b := b1) (kids := [c]) (t := c) (by simp)
        have hpw : (Tree.node 138 0 a1 emptyB [x]).whole = true := by show Tree.wholes [x] = true; rw [Tree.wholes, hx]; rfl
        have hcall := ih c (by omega) (.node 138 0 a1 emptyB [x]) hc (bY hwk (List.mem_singleton.2 rfl)) hpw (by omega)
        have hfn := (eS c (.node 138 0 a1 emptyB [x]) hc hpw).1
        obtain ⟨pm, hpm⟩ := dU (dF hfn)
        have hpiv : (Tree.node 138 0 a1 emptyB [x]).iv = .ptr [.lit (.int .i64 138), .lit (.int .i64 0), .lit (.string a1), .lit (.string ⟨#[]⟩), .sl false 1 [.ptr px 0]] 0 := by rw [Tree.iv, Tree.ivs, Tree.ivs, hpx]; rfl
        have hkiv : (madeK (.node 163 n1 a1 b1 [c]) x).iv = .ptr [.lit (.int .i64 137), .lit (.int .i64 0), .lit (.string a1), .lit (.string ⟨#[]⟩), .sl false 1 [.ptr pm 0]] 0 := by
          rw [madeK, made1, Tree.iv, Tree.ivs, Tree.ivs, hpm]; rfl
        have hil := dN ((kids.take j).map fun t => madeK t x)
        rw [List.length_map, List.length_take, Nat.min_eq_left hj] at hil
        rw [hkiv] at hnx
        rw [hpiv, hpm] at hcall
        rw [hpx]
        clear ih e hpiv hkiv hfn hQ
        generalize Tree.ivs ((kids.take j).map fun t => madeK t x) = ZI at *
        repeat' (first | refine bG ?_ | (refine bJ ?_; first | refine aR tabOk rfl rfl rfl (nb rfl) rfl ?_ | refine aZ rfl rfl (nb rfl) ?_ | (refine bI rfl rfl rfl (nb rfl) rfl rfl rfl (fun hq => ?_) (fun hq => ?_) <;> (first | (simp only [sD, sE, sB, sC, sN, sM, sT, sF] at hq; try (exfalso; omega)) | skip))| refine aB tabOk rfl rfl rfl (nb rfl) rfl rfl rfl hget ?_ | refine bS rfl rfl (nb rfl) rfl rfl rfl rfl (hcall) ?_ | refine cR tabOk rfl rfl rfl (nb rfl) rfl rfl rfl rfl rfl rfl rfl (by first | omega | decide) rfl (by first | omega | (dsimp only; omega)) (by first | omega | (dsimp only; omega)) ?_ | refine aD rfl rfl rfl (nb rfl) rfl rfl (by omega) ?_ | refine bC rfl rfl rfl (nb rfl) rfl rfl rfl (by omega) (by omega) ?_ | refine bD rfl rfl rfl (nb rfl) rfl rfl rfl (by omega) (by omega) ?_ | refine bB tabOk rfl rfl rfl (nb rfl) rfl rfl rfl rfl rfl rfl rfl rfl rfl ?_ | refine aT tabOk rfl rfl (nb rfl) rfl ?_ | refine aN tabOk rfl rfl rfl (nb rfl) rfl rfl rfl rfl rfl rfl ?_ | refine aO tabOk rfl rfl rfl (nb rfl) rfl rfl rfl rfl ?_ | refine aK tabOk rfl rfl rfl rfl rfl rfl rfl rfl rfl rfl rfl ?_ | refine aP tabOk rfl rfl rfl (nb rfl) rfl rfl rfl rfl (by first | assumption | omega) ?_ | refine aH tabOk rfl rfl rfl (nb rfl) rfl rfl rfl rfl (by first | rfl | omega) (by first | omega | simp) ?_ | refine aB tabOk rfl rfl rfl (nb rfl) rfl rfl rfl (by assumption) ?_ | refine aB tabOk rfl rfl rfl (nb rfl) rfl rfl rfl (bM _ _ (by first | assumption | omega)) ?_ | refine aD rfl rfl rfl (nb rfl) rfl rfl (by omega) ?_ | ((fail_if_success (refine aE (b := true) rfl rfl rfl ?_)); (fail_if_success (refine aE (b := false) rfl rfl rfl ?_)); refine aQ rfl rfl rfl (fun hq => ?_) (fun hq => ?_) <;> first | subst hq | (first | (simp only [sD, sE, sB, sC, sN, sM, sT, sF] at hq; try (exfalso; omega)) | skip)) | fail) | (refine bQ ?_; first | refine bH ?_ | refine bN ?_ | refine aL ?_ | refine aX ?_ | refine bO ?_ | refine bF ?_ | refine bE ?_ | refine aA (b := true) rfl (fun _ => ?_) nTf | refine aA (b := false) rfl nFt (fun _ => ?_) | refine aY ?_ | refine aW ?_ | refine aU mixed (by kernel_rfl) ?_ | refine aC mixed (by kernel_rfl) ?_ | (refine aA rfl (fun hq => ?_) (fun hq => ?_) <;> first | subst hq | (first | (simp only [sD, sE, sB, sC, sN, sM, sT, sF] at hq; try (exfalso; omega)) | skip)) | fail) | (refine bK ?_; first | refine bT ?_ | refine aI ?_ | refine aM ?_ | fail) | (refine bA ?_; first | refine bP ?_ | refine aF ?_ | refine aG (by decide) ?_ | refine aJ ?_ | fail) | refine bL (aV (by kernel_rfl)) ?_ | fail)
        all_goals first
          | (exfalso; omega)
          | (refine ⟨⟨j + 1, hlt⟩, (by show kids.length - (j + 1) < kids.length - j; omega), ?_⟩; dsimp only; rw [hnx]; exact (cB (by repeat' first | exact trivial | refine ⟨rfl, ?_⟩) (by repeat' first | exact trivial | refine ⟨rfl, ?_⟩)))
      · have ej : j = kids.length := by omega
        subst ej
        rw [List.take_length]
        rw [iJ] at hQ
        have hll : (kids.map fun t => madeK t x).length = kids.length := List.length_map ..
        have hiv : Q.iv = .ptr [.lit (.int .i64 136), .lit (.int .i64 0), .lit (.string ⟨#[]⟩), .lit (.string ⟨#[]⟩), .sl false kids.length (Tree.ivs (kids.map fun t => madeK t x))] 0 := by rw [← hQ, Tree.iv, hll]; rfl
        rw [hiv]
        generalize Tree.ivs (kids.map fun t => madeK t x) = ZI at *
        repeat' (first | refine bG ?_ | (refine bJ ?_; first | refine aR tabOk rfl rfl rfl (nb rfl) rfl ?_ | refine aZ rfl rfl (nb rfl) ?_ | (refine bI rfl rfl rfl (nb rfl) rfl rfl rfl (fun hq => ?_) (fun hq => ?_) <;> (first | (simp only [sD, sE, sB, sC, sN, sM, sT, sF] at hq; try (exfalso; omega)) | skip)) | refine aD rfl rfl rfl (nb rfl) rfl rfl (by omega) ?_ | refine bC rfl rfl rfl (nb rfl) rfl rfl rfl (by omega) (by omega) ?_ | refine bD rfl rfl rfl (nb rfl) rfl rfl rfl (by omega) (by omega) ?_ | refine bB tabOk rfl rfl rfl (nb rfl) rfl rfl rfl rfl rfl rfl rfl rfl rfl ?_ | refine aT tabOk rfl rfl (nb rfl) rfl ?_ | refine aN tabOk rfl rfl rfl (nb rfl) rfl rfl rfl rfl rfl rfl ?_ | refine aO tabOk rfl rfl rfl (nb rfl) rfl rfl rfl rfl ?_ | refine aK tabOk rfl rfl rfl rfl rfl rfl rfl rfl rfl rfl rfl ?_ | refine aP tabOk rfl rfl rfl (nb rfl) rfl rfl rfl rfl (by first | assumption | omega) ?_ | refine aH tabOk rfl rfl rfl (nb rfl) rfl rfl rfl rfl (by first | rfl | omega) (by first | omega | simp) ?_ | refine aB tabOk rfl rfl rfl (nb rfl) rfl rfl rfl (by assumption) ?_ | refine aB tabOk rfl rfl rfl (nb rfl) rfl rfl rfl (bM _ _ (by first | assumption | omega)) ?_ | refine aD rfl rfl rfl (nb rfl) rfl rfl (by omega) ?_ | ((fail_if_success (refine aE (b := true) rfl rfl rfl ?_)); (fail_if_success (refine aE (b := false) rfl rfl rfl ?_)); refine aQ rfl rfl rfl (fun hq => ?_) (fun hq => ?_) <;> first | subst hq | (first | (simp only [sD, sE, sB, sC, sN, sM, sT, sF] at hq; try (exfalso; omega)) | skip)) | fail) | (refine bQ ?_; first | refine bH ?_ | refine bN ?_ | refine aL ?_ | refine aX ?_ | refine bO ?_ | refine bF ?_ | refine bE ?_ | refine aA (b := true) rfl (fun _ => ?_) nTf | refine aA (b := false) rfl nFt (fun _ => ?_) | refine aY ?_ | refine aW ?_ | refine aU mixed (by kernel_rfl) ?_ | refine aC mixed (by kernel_rfl) ?_ | (refine aA rfl (fun hq => ?_) (fun hq => ?_) <;> first | subst hq | (first | (simp only [sD, sE, sB, sC, sN, sM, sT, sF] at hq; try (exfalso; omega)) | skip)) | fail) | (refine bK ?_; first | refine bT ?_ | refine aI ?_ | refine aM ?_ | fail) | (refine bA ?_; first | refine bP ?_ | refine aF ?_ | refine aG (by decide) ?_ | refine aJ ?_ | fail) | refine bL (aV (by kernel_rfl)) ?_ | fail)
        all_goals first
          | (exfalso; omega)
          | (refine jH ((Imp.of_le (σ' := S.f ⟨[(4, .obj 16 0)], [(500, .arr 25 1 kids.length ZI), (16, .cells [.imm (.lit (.int .i64 136)), .imm (.lit (.int .i64 0)), .imm (.lit (.string ⟨#[]⟩)), .imm (.lit (.string ⟨#[]⟩)), .ref 500 kids.length])]⟩) (cB (by repeat' first | exact trivial | refine ⟨rfl, ?_⟩) (by repeat' first | exact trivial | refine ⟨rfl, ?_⟩))).trans ((cZ (g := 500) rfl (by repeat' first | exact trivial | exact fun _ => rfl | refine ⟨?_, ?_⟩) (by repeat' first | exact trivial | exact fun _ => rfl | refine ⟨?_, ?_⟩)).trans (dJ (g := 16) rfl rfl))) ?_
             refine bV (by first | exact .inl rfl | exact .inr rfl) (bU rfl (aS rfl)) rfl ?_; rfl)
    · rw [if_neg h162] at hQ
      subst hQ
      clear ih
      refine dD Try.func53 rfl rfl (nb rfl) rfl ?_
      repeat' (first | refine bG ?_ | (refine bJ ?_; first | refine aR tabOk rfl rfl rfl (nb rfl) rfl ?_ | refine aZ rfl rfl (nb rfl) ?_ | (refine bI rfl rfl rfl (nb rfl) rfl rfl rfl (fun hq => ?_) (fun hq => ?_) <;> (first | (simp only [sD, sE, sB, sC, sN, sM, sT, sF] at hq; try (exfalso; omega)) | skip)) | refine aD rfl rfl rfl (nb rfl) rfl rfl (by omega) ?_ | refine bC rfl rfl rfl (nb rfl) rfl rfl rfl (by omega) (by omega) ?_ | refine bD rfl rfl rfl (nb rfl) rfl rfl rfl (by omega) (by omega) ?_ | refine bB tabOk rfl rfl rfl (nb rfl) rfl rfl rfl rfl rfl rfl rfl rfl rfl ?_ | refine aT tabOk rfl rfl (nb rfl) rfl ?_ | refine aN tabOk rfl rfl rfl (nb rfl) rfl rfl rfl rfl rfl rfl ?_ | refine aO tabOk rfl rfl rfl (nb rfl) rfl rfl rfl rfl ?_ | refine aK tabOk rfl rfl rfl rfl rfl rfl rfl rfl rfl rfl rfl ?_ | refine aP tabOk rfl rfl rfl (nb rfl) rfl rfl rfl rfl (by first | assumption | omega) ?_ | refine aH tabOk rfl rfl rfl (nb rfl) rfl rfl rfl rfl (by first | rfl | omega) (by first | omega | simp) ?_ | refine aB tabOk rfl rfl rfl (nb rfl) rfl rfl rfl (by assumption) ?_ | refine aB tabOk rfl rfl rfl (nb rfl) rfl rfl rfl (bM _ _ (by first | assumption | omega)) ?_ | refine aD rfl rfl rfl (nb rfl) rfl rfl (by omega) ?_ | ((fail_if_success (refine aE (b := true) rfl rfl rfl ?_)); (fail_if_success (refine aE (b := false) rfl rfl rfl ?_)); refine aQ rfl rfl rfl (fun hq => ?_) (fun hq => ?_) <;> first | subst hq | (first | (simp only [sD, sE, sB, sC, sN, sM, sT, sF] at hq; try (exfalso; omega)) | skip)) | fail) | (refine bQ ?_; first | refine bH ?_ | refine bN ?_ | refine aL ?_ | refine aX ?_ | refine bO ?_ | refine bF ?_ | refine bE ?_ | refine aA (b := true) rfl (fun _ => ?_) nTf | refine aA (b := false) rfl nFt (fun _ => ?_) | refine aY ?_ | refine aW ?_ | refine aU mixed (by kernel_rfl) ?_ | refine aC mixed (by kernel_rfl) ?_ | (refine aA rfl (fun hq => ?_) (fun hq => ?_) <;> first | subst hq | (first | (simp only [sD, sE, sB, sC, sN, sM, sT, sF] at hq; try (exfalso; omega)) | skip)) | fail) | (refine bK ?_; first | refine bT ?_ | refine aI ?_ | refine aM ?_ | fail) | (refine bA ?_; first | refine bP ?_ | refine aF ?_ | refine aG (by decide) ?_ | refine aJ ?_ | fail) | refine bL (aV (by kernel_rfl)) ?_ | fail)
      all_goals first
        | exact absurd (by assumption) h162
        | (refine dM ?_; refine bV (by first | exact .inl rfl | exact .inr rfl) (bU rfl (aS rfl)) rfl ?_; rfl)
end Go.Proofs.Ytlbemgokilhdnaa.Ab
