/- Words, walks and laws under the claim's statement: what it uses of them. No condition of its own. -/
import Derived.Test.YtlbemgokilhdnaaYL3
import Derived.Test.YtlbemgokilhdnaaYL1
import Derived.Test.YtlbemgokilhdnaaYL2
namespace Go.Proofs.Ytlbemgokilhdnaa.Ab
set_option linter.unusedVariables false
set_option linter.unusedSimpArgs false
open Go.RowKit
attribute [local irreducible] AWP AOps AExit AThen ABlock ANoGoto FeetOk
theorem nN {t : Tree} {i : Int} {y : Tree} (h : (substP t i y).2 ≠ 0) : (substP t i y).1 = .nil := by
  unfold substP at h ⊢
  split
  · rfl
  · split
    · rfl
    · split
      · rfl
      · split
        · rfl
        · rename_i h1 h2 h3 h4
          rw [if_neg h1, if_neg h2, if_neg h3, if_neg h4] at h
          exact absurd rfl h
/-- What a step makes at a path. -/
def stepAt (p : List Nat) (t : Tree) (S : Tree × Int) : Tree × Bool × Int := if S.2 ≠ 0 then (.nil, false, S.2) else (withP p t S.1, true, 0)
def redexAt (q : Tree) (bd y : Tree) : Prop := ∃ n a b n' a' b' u, q = .node 120 n a b [.node 119 n' a' b' [u, bd], y]
theorem uJ (t : Tree) : okStep t = true → (rdxP t = none → stepP t = (.nil, false, 0)) ∧ (∀ p, rdxP t = some p → okPath p t ∧ ∃ bd y, redexAt (atP p t) bd y ∧ stepP t = stepAt p t (substP bd 0 y)) := by
  induction t using Tree.ind with
  | h1 => intro h; simp [okStep] at h
  | h2 k n a b kids ih =>
    intro ho
    have hks := lC ho
    cases hr : redexP (.node k n a b kids) with
    | some q =>
      obtain ⟨bd, y⟩ := q
      have e : rdxP (.node k n a b kids) = some [] := by rw [rdxP, hr]
      rw [e]
      refine ⟨fun h => (by cases h), fun p h => ?_⟩
      cases h
      refine ⟨trivial, bd, y, fL hr, ?_⟩
      rw [stepP, hr]
      dsimp only
      unfold stepAt
      by_cases h : (substP bd 0 y).2 = 0
      · rw [if_neg (by simpa using h), h]; rfl
      · rw [if_pos h, nN h, decide_eq_false h]
    | none =>
      have e : rdxP (.node k n a b kids) = rdxPs kids := by rw [rdxP, hr]
      rw [e]
      have key : ∀ l : List Tree, (∀ t ∈ l, t ∈ kids) → (rdxPs l = none → (stepPs l).2 = (.nil, false, 0)) ∧
          (∀ p, rdxPs l = some p → ∃ j q, p = j :: q ∧ ∃ h : j < l.length, okPath q l[j] ∧ ∃ bd y, redexAt (atP q l[j]) bd y ∧
            (stepPs l).2 = stepAt q l[j] (substP bd 0 y) ∧ ((substP bd 0 y).2 = 0 → (stepPs l).1 = j)) := by
        intro l
        induction l with
        | nil =>
          intro _
          refine ⟨fun _ => by rw [stepPs], fun p h => by rw [rdxPs] at h; cases h⟩
        | cons t ts ih2 =>
          intro hm
          obtain ⟨g1, g2⟩ := ih t (hm t (by simp)) (hks _ (hm t (by simp)))
          obtain ⟨f1, f2⟩ := ih2 fun t' h' => hm t' (by simp [h'])
          rw [rdxPs]
          cases hf : rdxP t with
          | some p =>
            refine ⟨fun h => (by cases h), fun p' h => ?_⟩
            cases h
            obtain ⟨hp, bd, y, hrd, hst⟩ := g2 p hf
            refine ⟨0, p, rfl, Nat.succ_pos _, hp, bd, y, hrd, ?_⟩
            rw [List.getElem_cons_zero]
            by_cases h : (substP bd 0 y).2 = 0
            · have e4 : stepAt p t (substP bd 0 y) = (withP p t (substP bd 0 y).1, true, 0) := by unfold stepAt; rw [if_neg (by simpa using h)]
              rw [stepPs, hst, e4, if_neg (by simp), if_pos rfl]
              exact ⟨rfl, fun _ => rfl⟩
            · have e4 : stepAt p t (substP bd 0 y) = (.nil, false, (substP bd 0 y).2) := by unfold stepAt; rw [if_pos h]
              rw [stepPs, hst, e4, if_pos h]
              exact ⟨rfl, fun h' => absurd h' h⟩
          | none =>
            have h0 := g1 hf
            have e2 : stepPs (t :: ts) = ((stepPs ts).1 + 1, (stepPs ts).2) := by rw [stepPs, h0, if_neg (by simp), if_neg (by simp)]
            rw [e2]
            cases h2 : rdxPs ts with
            | none => exact ⟨fun _ => f1 h2, fun p h => (by cases h)⟩
            | some q =>
              obtain ⟨j, q', rfl, hj, hp, bd, y, hrd, hst, hix⟩ := f2 q h2
              refine ⟨fun h => (by cases h), fun p h => ?_⟩
              cases h
              refine ⟨j + 1, q', rfl, by simpa using hj, ?_⟩
              rw [List.getElem_cons_succ]
              exact ⟨hp, bd, y, hrd, hst, fun h => by rw [hix h]⟩
      obtain ⟨k1, k2⟩ := key kids fun _ h => h
      refine ⟨fun h => ?_, fun p h => ?_⟩
      · have h1 := k1 h
        rw [stepP, hr]
        dsimp only
        rw [h1, if_neg (by simp), if_neg (by simp)]
      · obtain ⟨j, q, rfl, hj, hp, bd, y, hrd, hst, hix⟩ := k2 p h
        have e3 := fN hj
        refine ⟨⟨hj, by rw [e3]; exact hp⟩, bd, y, by rw [atP, e3]; exact hrd, ?_⟩
        rw [stepP, hr]
        dsimp only
        by_cases h : (substP bd 0 y).2 = 0
        · have e4 : stepAt q kids[j] (substP bd 0 y) = (withP q kids[j] (substP bd 0 y).1, true, 0) := by unfold stepAt; rw [if_neg (by simpa using h)]
          have e5 : stepAt (j :: q) (.node k n a b kids) (substP bd 0 y) = (withP (j :: q) (.node k n a b kids) (substP bd 0 y).1, true, 0) := by unfold stepAt; rw [if_neg (by simpa using h)]
          rw [hst, e4, e5, if_neg (by simp), if_pos rfl, hix h, withP, e3]
        · have e4 : stepAt q kids[j] (substP bd 0 y) = (.nil, false, (substP bd 0 y).2) := by unfold stepAt; rw [if_pos h]
          have e5 : stepAt (j :: q) (.node k n a b kids) (substP bd 0 y) = (.nil, false, (substP bd 0 y).2) := by unfold stepAt; rw [if_pos h]
          rw [hst, e4, e5, if_pos h]
set_option maxHeartbeats 8000000 in
set_option maxRecDepth 10000 in
theorem zT (t : Tree) (hs : t.size ≤ 1000000) : ACalls Try.prog 74 [.imm t.iv] [] (.imm (.tup [(StepP t).1.iv, .lit (.bool (StepP t).2.1), .lit (.int .i64 (StepP t).2.2)])) [] := by
  have c1 := gS t hs
  unfold StepP
  by_cases hc : checkP isConP t = 0
  · rw [if_pos hc]
    rw [hc] at c1
    obtain ⟨hw, hz, hf⟩ := cQ hc
    have ho := mL t hf
    have c2 := yQ t hw ho hs
    obtain ⟨g1, g2⟩ := uJ t ho
    cases hr : rdxP t with
    | none =>
      rw [hr] at c2
      rw [g1 hr]
      unfold pathIV at c2
      refine bY Try.func74 rfl rfl (nb rfl) rfl ?_
      repeat' (first | refine bM ?_ | (refine bP ?_; first | refine aX tabOk rfl rfl rfl (nb rfl) rfl ?_ | refine bF rfl rfl (nb rfl) ?_ | (refine bO rfl rfl rfl (nb rfl) rfl rfl rfl (fun hq => ?_) (fun hq => ?_) <;> (first | (simp only [sD, sE, sB, sC, sN, sM, sT, sF] at hq; try (exfalso; omega)) | skip))| refine bX rfl rfl (nb rfl) rfl rfl rfl rfl (c1) ?_ | refine bX rfl rfl (nb rfl) rfl rfl rfl rfl (c2) ?_ | refine aE rfl rfl rfl (nb rfl) rfl rfl (by omega) ?_ | refine bI rfl rfl rfl (nb rfl) rfl rfl rfl (by omega) (by omega) ?_ | refine bJ rfl rfl rfl (nb rfl) rfl rfl rfl (by omega) (by omega) ?_ | refine bH tabOk rfl rfl rfl (nb rfl) rfl rfl rfl rfl rfl rfl rfl rfl rfl ?_ | refine aZ tabOk rfl rfl (nb rfl) rfl ?_ | refine aU tabOk rfl rfl rfl (nb rfl) rfl rfl rfl rfl rfl rfl ?_ | refine aV tabOk rfl rfl rfl (nb rfl) rfl rfl rfl rfl ?_ | refine aN tabOk rfl rfl rfl rfl rfl rfl rfl rfl rfl rfl rfl ?_ | refine aR tabOk rfl rfl rfl (nb rfl) rfl rfl rfl rfl (by first | assumption | omega) ?_ | refine aJ tabOk rfl rfl rfl (nb rfl) rfl rfl rfl rfl (by first | rfl | omega) (by first | omega | simp) ?_ | refine aC tabOk rfl rfl rfl (nb rfl) rfl rfl rfl (by assumption) ?_ | refine aC tabOk rfl rfl rfl (nb rfl) rfl rfl rfl (bS _ _ (by first | assumption | omega)) ?_ | refine aE rfl rfl rfl (nb rfl) rfl rfl (by omega) ?_ | ((fail_if_success (refine aG (b := true) rfl rfl rfl ?_)); (fail_if_success (refine aG (b := false) rfl rfl rfl ?_)); refine aW rfl rfl rfl (fun hq => ?_) (fun hq => ?_) <;> first | subst hq | (first | (simp only [sD, sE, sB, sC, sN, sM, sT, sF] at hq; try (exfalso; omega)) | skip)) | fail) | (refine bW ?_; first | refine bN ?_ | refine bT ?_ | refine aQ ?_ | refine bD ?_ | refine bU ?_ | refine bL ?_ | refine bK ?_ | refine aA (b := true) rfl (fun _ => ?_) nTf | refine aA (b := false) rfl nFt (fun _ => ?_) | refine bE ?_ | refine bC ?_ | refine bA mixed (by kernel_rfl) ?_ | refine aD mixed (by kernel_rfl) ?_ | (refine aA rfl (fun hq => ?_) (fun hq => ?_) <;> first | subst hq | (first | (simp only [sD, sE, sB, sC, sN, sM, sT, sF] at hq; try (exfalso; omega)) | skip)) | fail) | (refine bQ ?_; first | refine bZ ?_ | refine aK ?_ | refine aT ?_ | fail) | (refine bG ?_; first | refine bV ?_ | refine aH ?_ | refine aI (by decide) ?_ | refine aM ?_ | fail) | refine bR (bB (by kernel_rfl)) ?_ | fail)
      all_goals first
        | exact absurd rfl (by assumption)
        | (refine cA (by first | exact .inl rfl | exact .inr rfl) (dM rfl (aY rfl) (aY rfl) (aY rfl)) rfl ?_; rfl)
    | some p =>
      obtain ⟨hp, bd, y, ⟨n, a, b, n', a', b', u, hrd⟩, hst⟩ := g2 p hr
      have hpl := nL t p hr
      have hfa := sI p t hw hp
      rw [hr] at c2
      have c3 := aAD t p hw hp (by omega)
      rw [hrd] at c3 hfa
      have hbz : bd.size ≤ 65536 ∧ y.size ≤ 65536 := by
        have := hfa.2
        simp only [Tree.size, Tree.sizes] at this
        omega
      have c4 := yP bd 0 y (by omega) (by omega)
      rw [hst]
      unfold stepAt
      have hfs := @kS bd 0 y
      have hse := @nN bd 0 y
      generalize substP bd 0 y = S at *
      obtain ⟨S1, S2⟩ := S
      dsimp only at hse hfs c4 ⊢
      have c2' : ACalls Try.prog 108 [.imm t.iv] [] (.imm (.tup [pathIV p, .lit (.bool true)])) [] := c2
      obtain ⟨kk, nn, aa, bb, kkids, et⟩ := cZ hw
      by_cases h0 : S2 = 0
      · rw [if_neg (by simpa using h0)]
        subst h0
        have c5 := vB S1 (hfs rfl).1 p t hw hs hp (by omega)
        clear hrd hst g1 g2 c2 hse hfs
        generalize withP p t S1 = Z at *
        unfold pathIV at *
        refine bY Try.func74 rfl rfl (nb rfl) rfl ?_
        repeat' (first | refine bM ?_ | (refine bP ?_; first | refine aX tabOk rfl rfl rfl (nb rfl) rfl ?_ | refine bF rfl rfl (nb rfl) ?_ | (refine bO rfl rfl rfl (nb rfl) rfl rfl rfl (fun hq => ?_) (fun hq => ?_) <;> (first | (simp only [sD, sE, sB, sC, sN, sM, sT, sF] at hq; try (exfalso; omega)) | skip))| refine bX rfl rfl (nb rfl) rfl rfl rfl rfl (c1) ?_ | refine bX rfl rfl (nb rfl) rfl rfl rfl rfl (c2') ?_ | refine bX rfl rfl (nb rfl) rfl rfl rfl rfl (c3) ?_ | refine bX rfl rfl (nb rfl) rfl rfl rfl rfl (c4) ?_ | refine bX rfl rfl (nb rfl) rfl rfl rfl rfl (c5) ?_ | refine aE rfl rfl rfl (nb rfl) rfl rfl (by omega) ?_ | refine bI rfl rfl rfl (nb rfl) rfl rfl rfl (by omega) (by omega) ?_ | refine bJ rfl rfl rfl (nb rfl) rfl rfl rfl (by omega) (by omega) ?_ | refine bH tabOk rfl rfl rfl (nb rfl) rfl rfl rfl rfl rfl rfl rfl rfl rfl ?_ | refine aZ tabOk rfl rfl (nb rfl) rfl ?_ | refine aU tabOk rfl rfl rfl (nb rfl) rfl rfl rfl rfl rfl rfl ?_ | refine aV tabOk rfl rfl rfl (nb rfl) rfl rfl rfl rfl ?_ | refine aN tabOk rfl rfl rfl rfl rfl rfl rfl rfl rfl rfl rfl ?_ | refine aR tabOk rfl rfl rfl (nb rfl) rfl rfl rfl rfl (by first | assumption | omega) ?_ | refine aJ tabOk rfl rfl rfl (nb rfl) rfl rfl rfl rfl (by first | rfl | omega) (by first | omega | simp) ?_ | refine aC tabOk rfl rfl rfl (nb rfl) rfl rfl rfl (by assumption) ?_ | refine aC tabOk rfl rfl rfl (nb rfl) rfl rfl rfl (bS _ _ (by first | assumption | omega)) ?_ | refine aE rfl rfl rfl (nb rfl) rfl rfl (by omega) ?_ | ((fail_if_success (refine aG (b := true) rfl rfl rfl ?_)); (fail_if_success (refine aG (b := false) rfl rfl rfl ?_)); refine aW rfl rfl rfl (fun hq => ?_) (fun hq => ?_) <;> first | subst hq | (first | (simp only [sD, sE, sB, sC, sN, sM, sT, sF] at hq; try (exfalso; omega)) | skip)) | fail) | (refine bW ?_; first | refine bN ?_ | refine bT ?_ | refine aQ ?_ | refine bD ?_ | refine bU ?_ | refine bL ?_ | refine bK ?_ | refine aA (b := true) rfl (fun _ => ?_) nTf | refine aA (b := false) rfl nFt (fun _ => ?_) | refine bE ?_ | refine bC ?_ | refine bA mixed (by kernel_rfl) ?_ | refine aD mixed (by kernel_rfl) ?_ | (refine aA rfl (fun hq => ?_) (fun hq => ?_) <;> first | subst hq | (first | (simp only [sD, sE, sB, sC, sN, sM, sT, sF] at hq; try (exfalso; omega)) | skip)) | fail) | (refine bQ ?_; first | refine bZ ?_ | refine aK ?_ | refine aT ?_ | fail) | (refine bG ?_; first | refine bV ?_ | refine aH ?_ | refine aI (by decide) ?_ | refine aM ?_ | fail) | refine bR (bB (by kernel_rfl)) ?_ | fail)
        all_goals first
          | exact absurd rfl (by assumption)
          | (refine cA (by first | exact .inl rfl | exact .inr rfl) (dM rfl (aY rfl) (aY rfl) (aY rfl)) rfl ?_; rfl)
      · rw [if_pos h0]
        have e1 := hse h0
        subst e1
        clear hrd hst g1 g2 c2 hse hfs
        unfold pathIV at *
        refine bY Try.func74 rfl rfl (nb rfl) rfl ?_
        repeat' (first | refine bM ?_ | (refine bP ?_; first | refine aX tabOk rfl rfl rfl (nb rfl) rfl ?_ | refine bF rfl rfl (nb rfl) ?_ | (refine bO rfl rfl rfl (nb rfl) rfl rfl rfl (fun hq => ?_) (fun hq => ?_) <;> (first | (simp only [sD, sE, sB, sC, sN, sM, sT, sF] at hq; try (exfalso; omega)) | skip))| refine bX rfl rfl (nb rfl) rfl rfl rfl rfl (c1) ?_ | refine bX rfl rfl (nb rfl) rfl rfl rfl rfl (c2') ?_ | refine bX rfl rfl (nb rfl) rfl rfl rfl rfl (c3) ?_ | refine bX rfl rfl (nb rfl) rfl rfl rfl rfl (c4) ?_ | refine aE rfl rfl rfl (nb rfl) rfl rfl (by omega) ?_ | refine bI rfl rfl rfl (nb rfl) rfl rfl rfl (by omega) (by omega) ?_ | refine bJ rfl rfl rfl (nb rfl) rfl rfl rfl (by omega) (by omega) ?_ | refine bH tabOk rfl rfl rfl (nb rfl) rfl rfl rfl rfl rfl rfl rfl rfl rfl ?_ | refine aZ tabOk rfl rfl (nb rfl) rfl ?_ | refine aU tabOk rfl rfl rfl (nb rfl) rfl rfl rfl rfl rfl rfl ?_ | refine aV tabOk rfl rfl rfl (nb rfl) rfl rfl rfl rfl ?_ | refine aN tabOk rfl rfl rfl rfl rfl rfl rfl rfl rfl rfl rfl ?_ | refine aR tabOk rfl rfl rfl (nb rfl) rfl rfl rfl rfl (by first | assumption | omega) ?_ | refine aJ tabOk rfl rfl rfl (nb rfl) rfl rfl rfl rfl (by first | rfl | omega) (by first | omega | simp) ?_ | refine aC tabOk rfl rfl rfl (nb rfl) rfl rfl rfl (by assumption) ?_ | refine aC tabOk rfl rfl rfl (nb rfl) rfl rfl rfl (bS _ _ (by first | assumption | omega)) ?_ | refine aE rfl rfl rfl (nb rfl) rfl rfl (by omega) ?_ | ((fail_if_success (refine aG (b := true) rfl rfl rfl ?_)); (fail_if_success (refine aG (b := false) rfl rfl rfl ?_)); refine aW rfl rfl rfl (fun hq => ?_) (fun hq => ?_) <;> first | subst hq | (first | (simp only [sD, sE, sB, sC, sN, sM, sT, sF] at hq; try (exfalso; omega)) | skip)) | fail) | (refine bW ?_; first | refine bN ?_ | refine bT ?_ | refine aQ ?_ | refine bD ?_ | refine bU ?_ | refine bL ?_ | refine bK ?_ | refine aA (b := true) rfl (fun _ => ?_) nTf | refine aA (b := false) rfl nFt (fun _ => ?_) | refine bE ?_ | refine bC ?_ | refine bA mixed (by kernel_rfl) ?_ | refine aD mixed (by kernel_rfl) ?_ | (refine aA rfl (fun hq => ?_) (fun hq => ?_) <;> first | subst hq | (first | (simp only [sD, sE, sB, sC, sN, sM, sT, sF] at hq; try (exfalso; omega)) | skip)) | fail) | (refine bQ ?_; first | refine bZ ?_ | refine aK ?_ | refine aT ?_ | fail) | (refine bG ?_; first | refine bV ?_ | refine aH ?_ | refine aI (by decide) ?_ | refine aM ?_ | fail) | refine bR (bB (by kernel_rfl)) ?_ | fail)
        all_goals first
          | exact absurd rfl (by assumption)
          | exact absurd (by assumption) h0
          | (refine cA (by first | exact .inl rfl | exact .inr rfl) (dM rfl (aY rfl) (aY rfl) (aY rfl)) rfl ?_; rfl)
  · rw [if_neg hc]
    generalize checkP isConP t = C at *
    refine bY Try.func74 rfl rfl (nb rfl) rfl ?_
    repeat' (first | refine bM ?_ | (refine bP ?_; first | refine aX tabOk rfl rfl rfl (nb rfl) rfl ?_ | refine bF rfl rfl (nb rfl) ?_ | (refine bO rfl rfl rfl (nb rfl) rfl rfl rfl (fun hq => ?_) (fun hq => ?_) <;> (first | (simp only [sD, sE, sB, sC, sN, sM, sT, sF] at hq; try (exfalso; omega)) | skip))| refine bX rfl rfl (nb rfl) rfl rfl rfl rfl (c1) ?_ | refine aE rfl rfl rfl (nb rfl) rfl rfl (by omega) ?_ | refine bI rfl rfl rfl (nb rfl) rfl rfl rfl (by omega) (by omega) ?_ | refine bJ rfl rfl rfl (nb rfl) rfl rfl rfl (by omega) (by omega) ?_ | refine bH tabOk rfl rfl rfl (nb rfl) rfl rfl rfl rfl rfl rfl rfl rfl rfl ?_ | refine aZ tabOk rfl rfl (nb rfl) rfl ?_ | refine aU tabOk rfl rfl rfl (nb rfl) rfl rfl rfl rfl rfl rfl ?_ | refine aV tabOk rfl rfl rfl (nb rfl) rfl rfl rfl rfl ?_ | refine aN tabOk rfl rfl rfl rfl rfl rfl rfl rfl rfl rfl rfl ?_ | refine aR tabOk rfl rfl rfl (nb rfl) rfl rfl rfl rfl (by first | assumption | omega) ?_ | refine aJ tabOk rfl rfl rfl (nb rfl) rfl rfl rfl rfl (by first | rfl | omega) (by first | omega | simp) ?_ | refine aC tabOk rfl rfl rfl (nb rfl) rfl rfl rfl (by assumption) ?_ | refine aC tabOk rfl rfl rfl (nb rfl) rfl rfl rfl (bS _ _ (by first | assumption | omega)) ?_ | refine aE rfl rfl rfl (nb rfl) rfl rfl (by omega) ?_ | ((fail_if_success (refine aG (b := true) rfl rfl rfl ?_)); (fail_if_success (refine aG (b := false) rfl rfl rfl ?_)); refine aW rfl rfl rfl (fun hq => ?_) (fun hq => ?_) <;> first | subst hq | (first | (simp only [sD, sE, sB, sC, sN, sM, sT, sF] at hq; try (exfalso; omega)) | skip)) | fail) | (refine bW ?_; first | refine bN ?_ | refine bT ?_ | refine aQ ?_ | refine bD ?_ | refine bU ?_ | refine bL ?_ | refine bK ?_ | refine aA (b := true) rfl (fun _ => ?_) nTf | refine aA (b := false) rfl nFt (fun _ => ?_) | refine bE ?_ | refine bC ?_ | refine bA mixed (by kernel_rfl) ?_ | refine aD mixed (by kernel_rfl) ?_ | (refine aA rfl (fun hq => ?_) (fun hq => ?_) <;> first | subst hq | (first | (simp only [sD, sE, sB, sC, sN, sM, sT, sF] at hq; try (exfalso; omega)) | skip)) | fail) | (refine bQ ?_; first | refine bZ ?_ | refine aK ?_ | refine aT ?_ | fail) | (refine bG ?_; first | refine bV ?_ | refine aH ?_ | refine aI (by decide) ?_ | refine aM ?_ | fail) | refine bR (bB (by kernel_rfl)) ?_ | fail)
    all_goals first
      | exact absurd (by assumption) hc
      | (refine cA (by first | exact .inl rfl | exact .inr rfl) (dM rfl (aY rfl) (aY rfl) (aY rfl)) rfl ?_; rfl)
end Go.Proofs.Ytlbemgokilhdnaa.Ab
namespace Go.Proofs.Ytlbemgokilhdnaa.Ab
set_option linter.unusedVariables false
set_option linter.unusedSimpArgs false
open Go.RowKit
attribute [local irreducible] AWP AOps AExit AThen ABlock ANoGoto FeetOk
set_option maxHeartbeats 8000000 in
set_option maxRecDepth 10000 in
theorem wY (t : Tree) (hs : t.size ≤ 1000000) : ACalls Try.prog 45 [.imm t.iv] [] (.imm (.tup [(normalP 1000 t).1.iv, .lit (.int .i64 (normalP 1000 t).2)])) [] := by
  generalize hR : normalP 1000 t = R
  refine bY Try.func45 rfl rfl (nb rfl) rfl ?_
  repeat' (first | refine bM ?_ | (refine bP ?_; first | refine aX tabOk rfl rfl rfl (nb rfl) rfl ?_ | refine bF rfl rfl (nb rfl) ?_ | (refine bO rfl rfl rfl (nb rfl) rfl rfl rfl (fun hq => ?_) (fun hq => ?_) <;> (first | (simp only [sD, sE, sB, sC, sN, sM, sT, sF] at hq; try (exfalso; omega)) | skip)) | refine aE rfl rfl rfl (nb rfl) rfl rfl (by omega) ?_ | refine bI rfl rfl rfl (nb rfl) rfl rfl rfl (by omega) (by omega) ?_ | refine bJ rfl rfl rfl (nb rfl) rfl rfl rfl (by omega) (by omega) ?_ | refine bH tabOk rfl rfl rfl (nb rfl) rfl rfl rfl rfl rfl rfl rfl rfl rfl ?_ | refine aZ tabOk rfl rfl (nb rfl) rfl ?_ | refine aU tabOk rfl rfl rfl (nb rfl) rfl rfl rfl rfl rfl rfl ?_ | refine aV tabOk rfl rfl rfl (nb rfl) rfl rfl rfl rfl ?_ | refine aN tabOk rfl rfl rfl rfl rfl rfl rfl rfl rfl rfl rfl ?_ | refine aR tabOk rfl rfl rfl (nb rfl) rfl rfl rfl rfl (by first | assumption | omega) ?_ | refine aJ tabOk rfl rfl rfl (nb rfl) rfl rfl rfl rfl (by first | rfl | omega) (by first | omega | simp) ?_ | refine aC tabOk rfl rfl rfl (nb rfl) rfl rfl rfl (by assumption) ?_ | refine aC tabOk rfl rfl rfl (nb rfl) rfl rfl rfl (bS _ _ (by first | assumption | omega)) ?_ | refine aE rfl rfl rfl (nb rfl) rfl rfl (by omega) ?_ | ((fail_if_success (refine aG (b := true) rfl rfl rfl ?_)); (fail_if_success (refine aG (b := false) rfl rfl rfl ?_)); refine aW rfl rfl rfl (fun hq => ?_) (fun hq => ?_) <;> first | subst hq | (first | (simp only [sD, sE, sB, sC, sN, sM, sT, sF] at hq; try (exfalso; omega)) | skip)) | fail) | (refine bW ?_; first | refine bN ?_ | refine bT ?_ | refine aQ ?_ | refine bD ?_ | refine bU ?_ | refine bL ?_ | refine bK ?_ | refine aA (b := true) rfl (fun _ => ?_) nTf | refine aA (b := false) rfl nFt (fun _ => ?_) | refine bE ?_ | refine bC ?_ | refine bA mixed (by kernel_rfl) ?_ | refine aD mixed (by kernel_rfl) ?_ | (refine aA rfl (fun hq => ?_) (fun hq => ?_) <;> first | subst hq | (first | (simp only [sD, sE, sB, sC, sN, sM, sT, sF] at hq; try (exfalso; omega)) | skip)) | fail) | (refine bQ ?_; first | refine bZ ?_ | refine aK ?_ | refine aT ?_ | fail) | (refine bG ?_; first | refine bV ?_ | refine aH ?_ | refine aI (by decide) ?_ | refine aM ?_ | fail) | refine bR (bB (by kernel_rfl)) ?_ | fail)
  refine cH (ι := {x : Nat × Nat × Tree // x.1 + x.2.1 = 1000 ∧ x.2.2.size ≤ 1000000 ∧ normalP x.2.1 x.2.2 = R}) (fun x => S.f ⟨[(4, .imm (.lit (.int .i64 (x.1.1 : Int)))), (0, .imm x.1.2.2.iv)], []⟩) (fun x => 1000 - x.1.1) ⟨(0, 1000, t), rfl, hs, hR⟩ (cF (by repeat' first | exact trivial | refine ⟨rfl, ?_⟩) (by repeat' first | exact trivial | refine ⟨rfl, ?_⟩)) ?_
  clear hR hs
  rintro ⟨⟨i, f, t⟩, hif, hs, hR⟩
  have hif : i + f = 1000 := hif
  have hs : t.size ≤ 1000000 := hs
  have hR : normalP f t = R := hR
  dsimp only
  have c1 := zT t hs
  have hfn := mN t
  by_cases hlt : i < 1000
  · obtain ⟨f, rfl⟩ : ∃ f', f = f' + 1 := ⟨f - 1, by omega⟩
    rw [normalP] at hR
    generalize StepP t = S at *
    obtain ⟨S1, S2, S3⟩ := S
    dsimp only at *
    by_cases h0 : S3 = 0
    · subst h0
      rw [if_neg (by simp)] at hR
      cases S2 with
      | true =>
        rw [if_pos rfl] at hR
        have h1 := hfn rfl rfl
        repeat' (first | refine bM ?_ | (refine bP ?_; first | refine aX tabOk rfl rfl rfl (nb rfl) rfl ?_ | refine bF rfl rfl (nb rfl) ?_ | (refine bO rfl rfl rfl (nb rfl) rfl rfl rfl (fun hq => ?_) (fun hq => ?_) <;> (first | (simp only [sD, sE, sB, sC, sN, sM, sT, sF] at hq; try (exfalso; omega)) | skip))| refine bX rfl rfl (nb rfl) rfl rfl rfl rfl (c1) ?_ | refine aE rfl rfl rfl (nb rfl) rfl rfl (by omega) ?_ | refine bI rfl rfl rfl (nb rfl) rfl rfl rfl (by omega) (by omega) ?_ | refine bJ rfl rfl rfl (nb rfl) rfl rfl rfl (by omega) (by omega) ?_ | refine bH tabOk rfl rfl rfl (nb rfl) rfl rfl rfl rfl rfl rfl rfl rfl rfl ?_ | refine aZ tabOk rfl rfl (nb rfl) rfl ?_ | refine aU tabOk rfl rfl rfl (nb rfl) rfl rfl rfl rfl rfl rfl ?_ | refine aV tabOk rfl rfl rfl (nb rfl) rfl rfl rfl rfl ?_ | refine aN tabOk rfl rfl rfl rfl rfl rfl rfl rfl rfl rfl rfl ?_ | refine aR tabOk rfl rfl rfl (nb rfl) rfl rfl rfl rfl (by first | assumption | omega) ?_ | refine aJ tabOk rfl rfl rfl (nb rfl) rfl rfl rfl rfl (by first | rfl | omega) (by first | omega | simp) ?_ | refine aC tabOk rfl rfl rfl (nb rfl) rfl rfl rfl (by assumption) ?_ | refine aC tabOk rfl rfl rfl (nb rfl) rfl rfl rfl (bS _ _ (by first | assumption | omega)) ?_ | refine aE rfl rfl rfl (nb rfl) rfl rfl (by omega) ?_ | ((fail_if_success (refine aG (b := true) rfl rfl rfl ?_)); (fail_if_success (refine aG (b := false) rfl rfl rfl ?_)); refine aW rfl rfl rfl (fun hq => ?_) (fun hq => ?_) <;> first | subst hq | (first | (simp only [sD, sE, sB, sC, sN, sM, sT, sF] at hq; try (exfalso; omega)) | skip)) | fail) | (refine bW ?_; first | refine bN ?_ | refine bT ?_ | refine aQ ?_ | refine bD ?_ | refine bU ?_ | refine bL ?_ | refine bK ?_ | refine aA (b := true) rfl (fun _ => ?_) nTf | refine aA (b := false) rfl nFt (fun _ => ?_) | refine bE ?_ | refine bC ?_ | refine bA mixed (by kernel_rfl) ?_ | refine aD mixed (by kernel_rfl) ?_ | (refine aA rfl (fun hq => ?_) (fun hq => ?_) <;> first | subst hq | (first | (simp only [sD, sE, sB, sC, sN, sM, sT, sF] at hq; try (exfalso; omega)) | skip)) | fail) | (refine bQ ?_; first | refine bZ ?_ | refine aK ?_ | refine aT ?_ | fail) | (refine bG ?_; first | refine bV ?_ | refine aH ?_ | refine aI (by decide) ?_ | refine aM ?_ | fail) | refine bR (bB (by kernel_rfl)) ?_ | fail)
        all_goals first
          | exact absurd rfl (by assumption)
          | (exfalso; omega)
          | exact ⟨⟨(i + 1, f, S1), by dsimp only; omega, by dsimp only; omega, hR⟩, (by show 1000 - (i + 1) < 1000 - i; omega), (cF (by repeat' first | exact trivial | refine ⟨rfl, ?_⟩) (by repeat' first | exact trivial | refine ⟨rfl, ?_⟩))⟩
      | false =>
        rw [if_neg (by simp)] at hR
        subst hR
        repeat' (first | refine bM ?_ | (refine bP ?_; first | refine aX tabOk rfl rfl rfl (nb rfl) rfl ?_ | refine bF rfl rfl (nb rfl) ?_ | (refine bO rfl rfl rfl (nb rfl) rfl rfl rfl (fun hq => ?_) (fun hq => ?_) <;> (first | (simp only [sD, sE, sB, sC, sN, sM, sT, sF] at hq; try (exfalso; omega)) | skip))| refine bX rfl rfl (nb rfl) rfl rfl rfl rfl (c1) ?_ | refine aE rfl rfl rfl (nb rfl) rfl rfl (by omega) ?_ | refine bI rfl rfl rfl (nb rfl) rfl rfl rfl (by omega) (by omega) ?_ | refine bJ rfl rfl rfl (nb rfl) rfl rfl rfl (by omega) (by omega) ?_ | refine bH tabOk rfl rfl rfl (nb rfl) rfl rfl rfl rfl rfl rfl rfl rfl rfl ?_ | refine aZ tabOk rfl rfl (nb rfl) rfl ?_ | refine aU tabOk rfl rfl rfl (nb rfl) rfl rfl rfl rfl rfl rfl ?_ | refine aV tabOk rfl rfl rfl (nb rfl) rfl rfl rfl rfl ?_ | refine aN tabOk rfl rfl rfl rfl rfl rfl rfl rfl rfl rfl rfl ?_ | refine aR tabOk rfl rfl rfl (nb rfl) rfl rfl rfl rfl (by first | assumption | omega) ?_ | refine aJ tabOk rfl rfl rfl (nb rfl) rfl rfl rfl rfl (by first | rfl | omega) (by first | omega | simp) ?_ | refine aC tabOk rfl rfl rfl (nb rfl) rfl rfl rfl (by assumption) ?_ | refine aC tabOk rfl rfl rfl (nb rfl) rfl rfl rfl (bS _ _ (by first | assumption | omega)) ?_ | refine aE rfl rfl rfl (nb rfl) rfl rfl (by omega) ?_ | ((fail_if_success (refine aG (b := true) rfl rfl rfl ?_)); (fail_if_success (refine aG (b := false) rfl rfl rfl ?_)); refine aW rfl rfl rfl (fun hq => ?_) (fun hq => ?_) <;> first | subst hq | (first | (simp only [sD, sE, sB, sC, sN, sM, sT, sF] at hq; try (exfalso; omega)) | skip)) | fail) | (refine bW ?_; first | refine bN ?_ | refine bT ?_ | refine aQ ?_ | refine bD ?_ | refine bU ?_ | refine bL ?_ | refine bK ?_ | refine aA (b := true) rfl (fun _ => ?_) nTf | refine aA (b := false) rfl nFt (fun _ => ?_) | refine bE ?_ | refine bC ?_ | refine bA mixed (by kernel_rfl) ?_ | refine aD mixed (by kernel_rfl) ?_ | (refine aA rfl (fun hq => ?_) (fun hq => ?_) <;> first | subst hq | (first | (simp only [sD, sE, sB, sC, sN, sM, sT, sF] at hq; try (exfalso; omega)) | skip)) | fail) | (refine bQ ?_; first | refine bZ ?_ | refine aK ?_ | refine aT ?_ | fail) | (refine bG ?_; first | refine bV ?_ | refine aH ?_ | refine aI (by decide) ?_ | refine aM ?_ | fail) | refine bR (bB (by kernel_rfl)) ?_ | fail)
        all_goals first
          | exact absurd rfl (by assumption)
          | (exfalso; omega)
          | (refine cA (by first | exact .inl rfl | exact .inr rfl) (cC rfl (aY rfl) (aY rfl)) rfl ?_; rfl)
    · rw [if_pos h0] at hR
      subst hR
      repeat' (first | refine bM ?_ | (refine bP ?_; first | refine aX tabOk rfl rfl rfl (nb rfl) rfl ?_ | refine bF rfl rfl (nb rfl) ?_ | (refine bO rfl rfl rfl (nb rfl) rfl rfl rfl (fun hq => ?_) (fun hq => ?_) <;> (first | (simp only [sD, sE, sB, sC, sN, sM, sT, sF] at hq; try (exfalso; omega)) | skip))| refine bX rfl rfl (nb rfl) rfl rfl rfl rfl (c1) ?_ | refine aE rfl rfl rfl (nb rfl) rfl rfl (by omega) ?_ | refine bI rfl rfl rfl (nb rfl) rfl rfl rfl (by omega) (by omega) ?_ | refine bJ rfl rfl rfl (nb rfl) rfl rfl rfl (by omega) (by omega) ?_ | refine bH tabOk rfl rfl rfl (nb rfl) rfl rfl rfl rfl rfl rfl rfl rfl rfl ?_ | refine aZ tabOk rfl rfl (nb rfl) rfl ?_ | refine aU tabOk rfl rfl rfl (nb rfl) rfl rfl rfl rfl rfl rfl ?_ | refine aV tabOk rfl rfl rfl (nb rfl) rfl rfl rfl rfl ?_ | refine aN tabOk rfl rfl rfl rfl rfl rfl rfl rfl rfl rfl rfl ?_ | refine aR tabOk rfl rfl rfl (nb rfl) rfl rfl rfl rfl (by first | assumption | omega) ?_ | refine aJ tabOk rfl rfl rfl (nb rfl) rfl rfl rfl rfl (by first | rfl | omega) (by first | omega | simp) ?_ | refine aC tabOk rfl rfl rfl (nb rfl) rfl rfl rfl (by assumption) ?_ | refine aC tabOk rfl rfl rfl (nb rfl) rfl rfl rfl (bS _ _ (by first | assumption | omega)) ?_ | refine aE rfl rfl rfl (nb rfl) rfl rfl (by omega) ?_ | ((fail_if_success (refine aG (b := true) rfl rfl rfl ?_)); (fail_if_success (refine aG (b := false) rfl rfl rfl ?_)); refine aW rfl rfl rfl (fun hq => ?_) (fun hq => ?_) <;> first | subst hq | (first | (simp only [sD, sE, sB, sC, sN, sM, sT, sF] at hq; try (exfalso; omega)) | skip)) | fail) | (refine bW ?_; first | refine bN ?_ | refine bT ?_ | refine aQ ?_ | refine bD ?_ | refine bU ?_ | refine bL ?_ | refine bK ?_ | refine aA (b := true) rfl (fun _ => ?_) nTf | refine aA (b := false) rfl nFt (fun _ => ?_) | refine bE ?_ | refine bC ?_ | refine bA mixed (by kernel_rfl) ?_ | refine aD mixed (by kernel_rfl) ?_ | (refine aA rfl (fun hq => ?_) (fun hq => ?_) <;> first | subst hq | (first | (simp only [sD, sE, sB, sC, sN, sM, sT, sF] at hq; try (exfalso; omega)) | skip)) | fail) | (refine bQ ?_; first | refine bZ ?_ | refine aK ?_ | refine aT ?_ | fail) | (refine bG ?_; first | refine bV ?_ | refine aH ?_ | refine aI (by decide) ?_ | refine aM ?_ | fail) | refine bR (bB (by kernel_rfl)) ?_ | fail)
      all_goals first
        | exact absurd (by assumption) h0
        | exact absurd rfl (by assumption)
        | (exfalso; omega)
        | (refine cA (by first | exact .inl rfl | exact .inr rfl) (cC rfl (aY rfl) (aY rfl)) rfl ?_; rfl)
  · have e0 : f = 0 := by omega
    subst e0
    rw [normalP] at hR
    generalize StepP t = S at *
    obtain ⟨S1, S2, S3⟩ := S
    dsimp only at *
    by_cases h0 : S3 = 0
    · subst h0
      rw [if_neg (by simp)] at hR
      cases S2 with
      | true =>
        rw [if_pos rfl] at hR
        subst hR
        repeat' (first | refine bM ?_ | (refine bP ?_; first | refine aX tabOk rfl rfl rfl (nb rfl) rfl ?_ | refine bF rfl rfl (nb rfl) ?_ | (refine bO rfl rfl rfl (nb rfl) rfl rfl rfl (fun hq => ?_) (fun hq => ?_) <;> (first | (simp only [sD, sE, sB, sC, sN, sM, sT, sF] at hq; try (exfalso; omega)) | skip))| refine bX rfl rfl (nb rfl) rfl rfl rfl rfl (c1) ?_ | refine aE rfl rfl rfl (nb rfl) rfl rfl (by omega) ?_ | refine bI rfl rfl rfl (nb rfl) rfl rfl rfl (by omega) (by omega) ?_ | refine bJ rfl rfl rfl (nb rfl) rfl rfl rfl (by omega) (by omega) ?_ | refine bH tabOk rfl rfl rfl (nb rfl) rfl rfl rfl rfl rfl rfl rfl rfl rfl ?_ | refine aZ tabOk rfl rfl (nb rfl) rfl ?_ | refine aU tabOk rfl rfl rfl (nb rfl) rfl rfl rfl rfl rfl rfl ?_ | refine aV tabOk rfl rfl rfl (nb rfl) rfl rfl rfl rfl ?_ | refine aN tabOk rfl rfl rfl rfl rfl rfl rfl rfl rfl rfl rfl ?_ | refine aR tabOk rfl rfl rfl (nb rfl) rfl rfl rfl rfl (by first | assumption | omega) ?_ | refine aJ tabOk rfl rfl rfl (nb rfl) rfl rfl rfl rfl (by first | rfl | omega) (by first | omega | simp) ?_ | refine aC tabOk rfl rfl rfl (nb rfl) rfl rfl rfl (by assumption) ?_ | refine aC tabOk rfl rfl rfl (nb rfl) rfl rfl rfl (bS _ _ (by first | assumption | omega)) ?_ | refine aE rfl rfl rfl (nb rfl) rfl rfl (by omega) ?_ | ((fail_if_success (refine aG (b := true) rfl rfl rfl ?_)); (fail_if_success (refine aG (b := false) rfl rfl rfl ?_)); refine aW rfl rfl rfl (fun hq => ?_) (fun hq => ?_) <;> first | subst hq | (first | (simp only [sD, sE, sB, sC, sN, sM, sT, sF] at hq; try (exfalso; omega)) | skip)) | fail) | (refine bW ?_; first | refine bN ?_ | refine bT ?_ | refine aQ ?_ | refine bD ?_ | refine bU ?_ | refine bL ?_ | refine bK ?_ | refine aA (b := true) rfl (fun _ => ?_) nTf | refine aA (b := false) rfl nFt (fun _ => ?_) | refine bE ?_ | refine bC ?_ | refine bA mixed (by kernel_rfl) ?_ | refine aD mixed (by kernel_rfl) ?_ | (refine aA rfl (fun hq => ?_) (fun hq => ?_) <;> first | subst hq | (first | (simp only [sD, sE, sB, sC, sN, sM, sT, sF] at hq; try (exfalso; omega)) | skip)) | fail) | (refine bQ ?_; first | refine bZ ?_ | refine aK ?_ | refine aT ?_ | fail) | (refine bG ?_; first | refine bV ?_ | refine aH ?_ | refine aI (by decide) ?_ | refine aM ?_ | fail) | refine bR (bB (by kernel_rfl)) ?_ | fail)
        all_goals first
          | exact absurd rfl (by assumption)
          | (exfalso; omega)
          | (refine cA (by first | exact .inl rfl | exact .inr rfl) (cC rfl (aY rfl) (aY rfl)) rfl ?_; rfl)
      | false =>
        rw [if_neg (by simp)] at hR
        subst hR
        repeat' (first | refine bM ?_ | (refine bP ?_; first | refine aX tabOk rfl rfl rfl (nb rfl) rfl ?_ | refine bF rfl rfl (nb rfl) ?_ | (refine bO rfl rfl rfl (nb rfl) rfl rfl rfl (fun hq => ?_) (fun hq => ?_) <;> (first | (simp only [sD, sE, sB, sC, sN, sM, sT, sF] at hq; try (exfalso; omega)) | skip))| refine bX rfl rfl (nb rfl) rfl rfl rfl rfl (c1) ?_ | refine aE rfl rfl rfl (nb rfl) rfl rfl (by omega) ?_ | refine bI rfl rfl rfl (nb rfl) rfl rfl rfl (by omega) (by omega) ?_ | refine bJ rfl rfl rfl (nb rfl) rfl rfl rfl (by omega) (by omega) ?_ | refine bH tabOk rfl rfl rfl (nb rfl) rfl rfl rfl rfl rfl rfl rfl rfl rfl ?_ | refine aZ tabOk rfl rfl (nb rfl) rfl ?_ | refine aU tabOk rfl rfl rfl (nb rfl) rfl rfl rfl rfl rfl rfl ?_ | refine aV tabOk rfl rfl rfl (nb rfl) rfl rfl rfl rfl ?_ | refine aN tabOk rfl rfl rfl rfl rfl rfl rfl rfl rfl rfl rfl ?_ | refine aR tabOk rfl rfl rfl (nb rfl) rfl rfl rfl rfl (by first | assumption | omega) ?_ | refine aJ tabOk rfl rfl rfl (nb rfl) rfl rfl rfl rfl (by first | rfl | omega) (by first | omega | simp) ?_ | refine aC tabOk rfl rfl rfl (nb rfl) rfl rfl rfl (by assumption) ?_ | refine aC tabOk rfl rfl rfl (nb rfl) rfl rfl rfl (bS _ _ (by first | assumption | omega)) ?_ | refine aE rfl rfl rfl (nb rfl) rfl rfl (by omega) ?_ | ((fail_if_success (refine aG (b := true) rfl rfl rfl ?_)); (fail_if_success (refine aG (b := false) rfl rfl rfl ?_)); refine aW rfl rfl rfl (fun hq => ?_) (fun hq => ?_) <;> first | subst hq | (first | (simp only [sD, sE, sB, sC, sN, sM, sT, sF] at hq; try (exfalso; omega)) | skip)) | fail) | (refine bW ?_; first | refine bN ?_ | refine bT ?_ | refine aQ ?_ | refine bD ?_ | refine bU ?_ | refine bL ?_ | refine bK ?_ | refine aA (b := true) rfl (fun _ => ?_) nTf | refine aA (b := false) rfl nFt (fun _ => ?_) | refine bE ?_ | refine bC ?_ | refine bA mixed (by kernel_rfl) ?_ | refine aD mixed (by kernel_rfl) ?_ | (refine aA rfl (fun hq => ?_) (fun hq => ?_) <;> first | subst hq | (first | (simp only [sD, sE, sB, sC, sN, sM, sT, sF] at hq; try (exfalso; omega)) | skip)) | fail) | (refine bQ ?_; first | refine bZ ?_ | refine aK ?_ | refine aT ?_ | fail) | (refine bG ?_; first | refine bV ?_ | refine aH ?_ | refine aI (by decide) ?_ | refine aM ?_ | fail) | refine bR (bB (by kernel_rfl)) ?_ | fail)
        all_goals first
          | exact absurd rfl (by assumption)
          | (exfalso; omega)
          | (refine cA (by first | exact .inl rfl | exact .inr rfl) (cC rfl (aY rfl) (aY rfl)) rfl ?_; rfl)
    · rw [if_pos h0] at hR
      subst hR
      repeat' (first | refine bM ?_ | (refine bP ?_; first | refine aX tabOk rfl rfl rfl (nb rfl) rfl ?_ | refine bF rfl rfl (nb rfl) ?_ | (refine bO rfl rfl rfl (nb rfl) rfl rfl rfl (fun hq => ?_) (fun hq => ?_) <;> (first | (simp only [sD, sE, sB, sC, sN, sM, sT, sF] at hq; try (exfalso; omega)) | skip))| refine bX rfl rfl (nb rfl) rfl rfl rfl rfl (c1) ?_ | refine aE rfl rfl rfl (nb rfl) rfl rfl (by omega) ?_ | refine bI rfl rfl rfl (nb rfl) rfl rfl rfl (by omega) (by omega) ?_ | refine bJ rfl rfl rfl (nb rfl) rfl rfl rfl (by omega) (by omega) ?_ | refine bH tabOk rfl rfl rfl (nb rfl) rfl rfl rfl rfl rfl rfl rfl rfl rfl ?_ | refine aZ tabOk rfl rfl (nb rfl) rfl ?_ | refine aU tabOk rfl rfl rfl (nb rfl) rfl rfl rfl rfl rfl rfl ?_ | refine aV tabOk rfl rfl rfl (nb rfl) rfl rfl rfl rfl ?_ | refine aN tabOk rfl rfl rfl rfl rfl rfl rfl rfl rfl rfl rfl ?_ | refine aR tabOk rfl rfl rfl (nb rfl) rfl rfl rfl rfl (by first | assumption | omega) ?_ | refine aJ tabOk rfl rfl rfl (nb rfl) rfl rfl rfl rfl (by first | rfl | omega) (by first | omega | simp) ?_ | refine aC tabOk rfl rfl rfl (nb rfl) rfl rfl rfl (by assumption) ?_ | refine aC tabOk rfl rfl rfl (nb rfl) rfl rfl rfl (bS _ _ (by first | assumption | omega)) ?_ | refine aE rfl rfl rfl (nb rfl) rfl rfl (by omega) ?_ | ((fail_if_success (refine aG (b := true) rfl rfl rfl ?_)); (fail_if_success (refine aG (b := false) rfl rfl rfl ?_)); refine aW rfl rfl rfl (fun hq => ?_) (fun hq => ?_) <;> first | subst hq | (first | (simp only [sD, sE, sB, sC, sN, sM, sT, sF] at hq; try (exfalso; omega)) | skip)) | fail) | (refine bW ?_; first | refine bN ?_ | refine bT ?_ | refine aQ ?_ | refine bD ?_ | refine bU ?_ | refine bL ?_ | refine bK ?_ | refine aA (b := true) rfl (fun _ => ?_) nTf | refine aA (b := false) rfl nFt (fun _ => ?_) | refine bE ?_ | refine bC ?_ | refine bA mixed (by kernel_rfl) ?_ | refine aD mixed (by kernel_rfl) ?_ | (refine aA rfl (fun hq => ?_) (fun hq => ?_) <;> first | subst hq | (first | (simp only [sD, sE, sB, sC, sN, sM, sT, sF] at hq; try (exfalso; omega)) | skip)) | fail) | (refine bQ ?_; first | refine bZ ?_ | refine aK ?_ | refine aT ?_ | fail) | (refine bG ?_; first | refine bV ?_ | refine aH ?_ | refine aI (by decide) ?_ | refine aM ?_ | fail) | refine bR (bB (by kernel_rfl)) ?_ | fail)
      all_goals first
        | exact absurd (by assumption) h0
        | exact absurd rfl (by assumption)
        | (exfalso; omega)
        | (refine cA (by first | exact .inl rfl | exact .inr rfl) (cC rfl (aY rfl) (aY rfl)) rfl ?_; rfl)
theorem jB (s : Int) : ∀ (l : List Tree), groundKs l s = l.all fun t => groundK t s
  | [] => by rw [groundKs]; rfl
  | t :: ts => by rw [groundKs, jB s ts]; rfl
set_option maxHeartbeats 8000000 in
set_option maxRecDepth 10000 in
theorem zU (t : Tree) : isConP t = true → t.whole = true → ∀ s : Int, 0 ≤ s → s + t.size ≤ 1000000 → ACalls Try.prog 46 [.imm t.iv, .imm (.lit (.int .i64 s))] [] (.imm (.lit (.bool (groundP t s)))) [] := by
  induction t using Tree.sind with
  | h t ih =>
    intro hf hw s hs0 hs
    obtain ⟨k, n, a, b, kids, rfl⟩ := cZ hw
    have hl := cI kids hw
    have hsz : (Tree.node k n a b kids).size = 1 + Tree.sizes kids := by rw [Tree.size]
    have hE : k = 115 ∨ k = 121 → ∀ j (h : j < kids.length), ∃ k' n' a' b' c, kids[j] = .node k' n' a' b' [c] ∧ ∀ s : Int, 0 ≤ s → s + (Tree.node k n a b kids).size ≤ 1000001 → ACalls Try.prog 46 [.imm c.iv, .imm (.lit (.int .i64 s))] [] (.imm (.lit (.bool (groundP c s)))) [] := by
      intro hk j h
      obtain ⟨kind, hn⟩ : ∃ kind, namedPs kids kind = true := by
        rw [isConP, Bool.and_eq_true] at hf
        have h := hf.2
        rcases hk with e | e
        · subst e
          rw [if_neg (by decide), if_neg (by decide), if_neg (by decide), if_pos rfl, Bool.and_eq_true] at h
          exact ⟨_, h.1⟩
        · subst e
          rw [if_neg (by decide), if_neg (by decide), if_neg (by decide), if_neg (by decide), if_neg (by decide), if_pos rfl, Bool.and_eq_true, Bool.and_eq_true] at h
          exact ⟨_, h.1.2⟩
      have hm := List.getElem_mem h
      rw [dC] at hn
      have hj := List.all_eq_true.1 hn _ hm
      have hz := cG (k := k) (n := n) (a := a) (b := b) hm
      have hwj := cD hw hm
      generalize kids[j] = u at *
      cases u with
      | nil => simp [okNamed] at hj
      | node k' n' a' b' ks =>
        simp only [okNamed, Bool.and_eq_true] at hj
        by_cases h1 : ks.length = 1
        · obtain ⟨c, rfl⟩ := one_of h1
          have hz2 := cG (k := k') (n := n') (a := a') (b := b') (kids := [c]) (t := c) (by simp)
          exact ⟨k', n', a', b', c, rfl, fun s hs0 hs => ih c (by omega) (by simpa [isCon1] using hj.2) (cD hwj (by simp)) s hs0 (by omega)⟩
        · rw [fA h1] at hj; cases hj.2
    clear ih
    by_cases hk : k = 115 ∨ k = 121
    · obtain ⟨s', hs', hgp, hk2⟩ : ∃ s' : Int, (0 ≤ s' ∧ s' + (Tree.node k n a b kids).size ≤ 1000001) ∧ groundP (.node k n a b kids) s = groundKs kids s' ∧ ((k = 115 ∧ s' = s) ∨ (k = 121 ∧ s' = s + 1)) := by
        rcases hk with e | e
        · subst e
          exact ⟨s, ⟨hs0, by omega⟩, by rw [groundP, if_neg (by decide), if_neg (by decide), if_pos rfl], .inl ⟨rfl, rfl⟩⟩
        · subst e
          exact ⟨s + 1, ⟨by omega, by omega⟩, by rw [groundP, if_neg (by decide), if_neg (by decide), if_neg (by decide), if_pos rfl], .inr ⟨rfl, rfl⟩⟩
      have hE := hE hk
      rw [hgp, jB]
      clear hgp
      refine bY Try.func46 rfl rfl (nb rfl) rfl ?_
      repeat' (first | refine bM ?_ | (refine bP ?_; first | refine aX tabOk rfl rfl rfl (nb rfl) rfl ?_ | refine bF rfl rfl (nb rfl) ?_ | (refine bO rfl rfl rfl (nb rfl) rfl rfl rfl (fun hq => ?_) (fun hq => ?_) <;> (first | (simp only [sD, sE, sB, sC, sN, sM, sT, sF] at hq; try (exfalso; omega)) | skip))| refine bI (z := s + 1) rfl rfl rfl (nb rfl) rfl rfl rfl (by omega) (by omega) ?_ | refine aE rfl rfl rfl (nb rfl) rfl rfl (by omega) ?_ | refine bI rfl rfl rfl (nb rfl) rfl rfl rfl (by omega) (by omega) ?_ | refine bJ rfl rfl rfl (nb rfl) rfl rfl rfl (by omega) (by omega) ?_ | refine bH tabOk rfl rfl rfl (nb rfl) rfl rfl rfl rfl rfl rfl rfl rfl rfl ?_ | refine aZ tabOk rfl rfl (nb rfl) rfl ?_ | refine aU tabOk rfl rfl rfl (nb rfl) rfl rfl rfl rfl rfl rfl ?_ | refine aV tabOk rfl rfl rfl (nb rfl) rfl rfl rfl rfl ?_ | refine aN tabOk rfl rfl rfl rfl rfl rfl rfl rfl rfl rfl rfl ?_ | refine aR tabOk rfl rfl rfl (nb rfl) rfl rfl rfl rfl (by first | assumption | omega) ?_ | refine aJ tabOk rfl rfl rfl (nb rfl) rfl rfl rfl rfl (by first | rfl | omega) (by first | omega | simp) ?_ | refine aC tabOk rfl rfl rfl (nb rfl) rfl rfl rfl (by assumption) ?_ | refine aC tabOk rfl rfl rfl (nb rfl) rfl rfl rfl (bS _ _ (by first | assumption | omega)) ?_ | refine aE rfl rfl rfl (nb rfl) rfl rfl (by omega) ?_ | ((fail_if_success (refine aG (b := true) rfl rfl rfl ?_)); (fail_if_success (refine aG (b := false) rfl rfl rfl ?_)); refine aW rfl rfl rfl (fun hq => ?_) (fun hq => ?_) <;> first | subst hq | (first | (simp only [sD, sE, sB, sC, sN, sM, sT, sF] at hq; try (exfalso; omega)) | skip)) | fail) | (refine bW ?_; first | refine bN ?_ | refine bT ?_ | refine aQ ?_ | refine bD ?_ | refine bU ?_ | refine bL ?_ | refine bK ?_ | refine aA (b := true) rfl (fun _ => ?_) nTf | refine aA (b := false) rfl nFt (fun _ => ?_) | refine bE ?_ | refine bC ?_ | refine bA mixed (by kernel_rfl) ?_ | refine aD mixed (by kernel_rfl) ?_ | (refine aA rfl (fun hq => ?_) (fun hq => ?_) <;> first | subst hq | (first | (simp only [sD, sE, sB, sC, sN, sM, sT, sF] at hq; try (exfalso; omega)) | skip)) | fail) | (refine bQ ?_; first | refine bZ ?_ | refine aK ?_ | refine aT ?_ | fail) | (refine bG ?_; first | refine bV ?_ | refine aH ?_ | refine aI (by decide) ?_ | refine aM ?_ | fail) | refine bR (bB (by kernel_rfl)) ?_ | fail)
      all_goals first
        | (exfalso; omega)
        | skip
      all_goals (
        refine cH (ι := {j : Nat // j ≤ kids.length ∧ (kids.take j).all (fun t => groundK t s') = true}) (fun j => S.f ⟨[(5, .imm (.lit (.int .i64 (j.1 : Int)))), (0, .imm (Tree.iv (.node k n a b kids))), (1, .imm (.lit (.int .i64 s')))], []⟩) (fun j => kids.length - j.1) ⟨0, Nat.zero_le _, rfl⟩ (by
          rcases hk2 with ⟨_, e2⟩ | ⟨_, e2⟩
          · first
              | (exfalso; omega)
              | (rw [e2]; exact (cF (by repeat' first | exact trivial | refine ⟨rfl, ?_⟩) (by repeat' first | exact trivial | refine ⟨rfl, ?_⟩)))
          · first
              | (exfalso; omega)
              | (rw [e2]; exact (cF (by repeat' first | exact trivial | refine ⟨rfl, ?_⟩) (by repeat' first | exact trivial | refine ⟨rfl, ?_⟩)))) ?_
        rintro ⟨j, hj, hok⟩
        dsimp only
        by_cases hlt : j < kids.length
        · have hm := List.getElem_mem hlt
          have hget := bS kids j hlt
          obtain ⟨k', n', a', b', c, e, hcc⟩ := hE j hlt
          have hc := hcc s' hs'.1 hs'.2
          have eg : groundK kids[j] s' = groundP c s' := by rw [e, groundK, ground1]
          rw [e] at hget
          cases hg : groundP c s' with
          | true =>
            rw [hg] at hc
            have hok2 : (kids.take (j + 1)).all (fun t => groundK t s') = true := by
              rw [List.take_succ_eq_append_getElem hlt, List.all_append, hok, List.all_cons, eg, hg]; rfl
            clear hE hcc
            repeat' (first | refine bM ?_ | (refine bP ?_; first | refine aX tabOk rfl rfl rfl (nb rfl) rfl ?_ | refine bF rfl rfl (nb rfl) ?_ | (refine bO rfl rfl rfl (nb rfl) rfl rfl rfl (fun hq => ?_) (fun hq => ?_) <;> (first | (simp only [sD, sE, sB, sC, sN, sM, sT, sF] at hq; try (exfalso; omega)) | skip))| refine aC tabOk rfl rfl rfl (nb rfl) rfl rfl rfl hget ?_ | refine bX rfl rfl (nb rfl) rfl rfl rfl rfl (hc) ?_ | refine aE rfl rfl rfl (nb rfl) rfl rfl (by omega) ?_ | refine bI rfl rfl rfl (nb rfl) rfl rfl rfl (by omega) (by omega) ?_ | refine bJ rfl rfl rfl (nb rfl) rfl rfl rfl (by omega) (by omega) ?_ | refine bH tabOk rfl rfl rfl (nb rfl) rfl rfl rfl rfl rfl rfl rfl rfl rfl ?_ | refine aZ tabOk rfl rfl (nb rfl) rfl ?_ | refine aU tabOk rfl rfl rfl (nb rfl) rfl rfl rfl rfl rfl rfl ?_ | refine aV tabOk rfl rfl rfl (nb rfl) rfl rfl rfl rfl ?_ | refine aN tabOk rfl rfl rfl rfl rfl rfl rfl rfl rfl rfl rfl ?_ | refine aR tabOk rfl rfl rfl (nb rfl) rfl rfl rfl rfl (by first | assumption | omega) ?_ | refine aJ tabOk rfl rfl rfl (nb rfl) rfl rfl rfl rfl (by first | rfl | omega) (by first | omega | simp) ?_ | refine aC tabOk rfl rfl rfl (nb rfl) rfl rfl rfl (by assumption) ?_ | refine aC tabOk rfl rfl rfl (nb rfl) rfl rfl rfl (bS _ _ (by first | assumption | omega)) ?_ | refine aE rfl rfl rfl (nb rfl) rfl rfl (by omega) ?_ | ((fail_if_success (refine aG (b := true) rfl rfl rfl ?_)); (fail_if_success (refine aG (b := false) rfl rfl rfl ?_)); refine aW rfl rfl rfl (fun hq => ?_) (fun hq => ?_) <;> first | subst hq | (first | (simp only [sD, sE, sB, sC, sN, sM, sT, sF] at hq; try (exfalso; omega)) | skip)) | fail) | (refine bW ?_; first | refine bN ?_ | refine bT ?_ | refine aQ ?_ | refine bD ?_ | refine bU ?_ | refine bL ?_ | refine bK ?_ | refine aA (b := true) rfl (fun _ => ?_) nTf | refine aA (b := false) rfl nFt (fun _ => ?_) | refine bE ?_ | refine bC ?_ | refine bA mixed (by kernel_rfl) ?_ | refine aD mixed (by kernel_rfl) ?_ | (refine aA rfl (fun hq => ?_) (fun hq => ?_) <;> first | subst hq | (first | (simp only [sD, sE, sB, sC, sN, sM, sT, sF] at hq; try (exfalso; omega)) | skip)) | fail) | (refine bQ ?_; first | refine bZ ?_ | refine aK ?_ | refine aT ?_ | fail) | (refine bG ?_; first | refine bV ?_ | refine aH ?_ | refine aI (by decide) ?_ | refine aM ?_ | fail) | refine bR (bB (by kernel_rfl)) ?_ | fail)
            all_goals first
              | exact absurd rfl (by assumption)
              | (exfalso; omega)
              | exact ⟨⟨j + 1, hlt, hok2⟩, (by show kids.length - (j + 1) < kids.length - j; omega), (cF (by repeat' first | exact trivial | refine ⟨rfl, ?_⟩) (by repeat' first | exact trivial | refine ⟨rfl, ?_⟩))⟩
          | false =>
            rw [hg] at hc
            have hall : kids.all (fun t => groundK t s') = false := hP hlt (by rw [eg, hg])
            rw [hall]
            clear hE hcc
            repeat' (first | refine bM ?_ | (refine bP ?_; first | refine aX tabOk rfl rfl rfl (nb rfl) rfl ?_ | refine bF rfl rfl (nb rfl) ?_ | (refine bO rfl rfl rfl (nb rfl) rfl rfl rfl (fun hq => ?_) (fun hq => ?_) <;> (first | (simp only [sD, sE, sB, sC, sN, sM, sT, sF] at hq; try (exfalso; omega)) | skip))| refine aC tabOk rfl rfl rfl (nb rfl) rfl rfl rfl hget ?_ | refine bX rfl rfl (nb rfl) rfl rfl rfl rfl (hc) ?_ | refine aE rfl rfl rfl (nb rfl) rfl rfl (by omega) ?_ | refine bI rfl rfl rfl (nb rfl) rfl rfl rfl (by omega) (by omega) ?_ | refine bJ rfl rfl rfl (nb rfl) rfl rfl rfl (by omega) (by omega) ?_ | refine bH tabOk rfl rfl rfl (nb rfl) rfl rfl rfl rfl rfl rfl rfl rfl rfl ?_ | refine aZ tabOk rfl rfl (nb rfl) rfl ?_ | refine aU tabOk rfl rfl rfl (nb rfl) rfl rfl rfl rfl rfl rfl ?_ | refine aV tabOk rfl rfl rfl (nb rfl) rfl rfl rfl rfl ?_ | refine aN tabOk rfl rfl rfl rfl rfl rfl rfl rfl rfl rfl rfl ?_ | refine aR tabOk rfl rfl rfl (nb rfl) rfl rfl rfl rfl (by first | assumption | omega) ?_ | refine aJ tabOk rfl rfl rfl (nb rfl) rfl rfl rfl rfl (by first | rfl | omega) (by first | omega | simp) ?_ | refine aC tabOk rfl rfl rfl (nb rfl) rfl rfl rfl (by assumption) ?_ | refine aC tabOk rfl rfl rfl (nb rfl) rfl rfl rfl (bS _ _ (by first | assumption | omega)) ?_ | refine aE rfl rfl rfl (nb rfl) rfl rfl (by omega) ?_ | ((fail_if_success (refine aG (b := true) rfl rfl rfl ?_)); (fail_if_success (refine aG (b := false) rfl rfl rfl ?_)); refine aW rfl rfl rfl (fun hq => ?_) (fun hq => ?_) <;> first | subst hq | (first | (simp only [sD, sE, sB, sC, sN, sM, sT, sF] at hq; try (exfalso; omega)) | skip)) | fail) | (refine bW ?_; first | refine bN ?_ | refine bT ?_ | refine aQ ?_ | refine bD ?_ | refine bU ?_ | refine bL ?_ | refine bK ?_ | refine aA (b := true) rfl (fun _ => ?_) nTf | refine aA (b := false) rfl nFt (fun _ => ?_) | refine bE ?_ | refine bC ?_ | refine bA mixed (by kernel_rfl) ?_ | refine aD mixed (by kernel_rfl) ?_ | (refine aA rfl (fun hq => ?_) (fun hq => ?_) <;> first | subst hq | (first | (simp only [sD, sE, sB, sC, sN, sM, sT, sF] at hq; try (exfalso; omega)) | skip)) | fail) | (refine bQ ?_; first | refine bZ ?_ | refine aK ?_ | refine aT ?_ | fail) | (refine bG ?_; first | refine bV ?_ | refine aH ?_ | refine aI (by decide) ?_ | refine aM ?_ | fail) | refine bR (bB (by kernel_rfl)) ?_ | fail)
            all_goals first
              | exact absurd rfl (by assumption)
              | (exfalso; omega)
              | (refine cA (by first | exact .inl rfl | exact .inr rfl) (cB rfl (aY rfl)) rfl ?_; rfl)
        · have ej : j = kids.length := by omega
          subst ej
          rw [List.take_length] at hok
          rw [hok]
          clear hE
          repeat' (first | refine bM ?_ | (refine bP ?_; first | refine aX tabOk rfl rfl rfl (nb rfl) rfl ?_ | refine bF rfl rfl (nb rfl) ?_ | (refine bO rfl rfl rfl (nb rfl) rfl rfl rfl (fun hq => ?_) (fun hq => ?_) <;> (first | (simp only [sD, sE, sB, sC, sN, sM, sT, sF] at hq; try (exfalso; omega)) | skip)) | refine aE rfl rfl rfl (nb rfl) rfl rfl (by omega) ?_ | refine bI rfl rfl rfl (nb rfl) rfl rfl rfl (by omega) (by omega) ?_ | refine bJ rfl rfl rfl (nb rfl) rfl rfl rfl (by omega) (by omega) ?_ | refine bH tabOk rfl rfl rfl (nb rfl) rfl rfl rfl rfl rfl rfl rfl rfl rfl ?_ | refine aZ tabOk rfl rfl (nb rfl) rfl ?_ | refine aU tabOk rfl rfl rfl (nb rfl) rfl rfl rfl rfl rfl rfl ?_ | refine aV tabOk rfl rfl rfl (nb rfl) rfl rfl rfl rfl ?_ | refine aN tabOk rfl rfl rfl rfl rfl rfl rfl rfl rfl rfl rfl ?_ | refine aR tabOk rfl rfl rfl (nb rfl) rfl rfl rfl rfl (by first | assumption | omega) ?_ | refine aJ tabOk rfl rfl rfl (nb rfl) rfl rfl rfl rfl (by first | rfl | omega) (by first | omega | simp) ?_ | refine aC tabOk rfl rfl rfl (nb rfl) rfl rfl rfl (by assumption) ?_ | refine aC tabOk rfl rfl rfl (nb rfl) rfl rfl rfl (bS _ _ (by first | assumption | omega)) ?_ | refine aE rfl rfl rfl (nb rfl) rfl rfl (by omega) ?_ | ((fail_if_success (refine aG (b := true) rfl rfl rfl ?_)); (fail_if_success (refine aG (b := false) rfl rfl rfl ?_)); refine aW rfl rfl rfl (fun hq => ?_) (fun hq => ?_) <;> first | subst hq | (first | (simp only [sD, sE, sB, sC, sN, sM, sT, sF] at hq; try (exfalso; omega)) | skip)) | fail) | (refine bW ?_; first | refine bN ?_ | refine bT ?_ | refine aQ ?_ | refine bD ?_ | refine bU ?_ | refine bL ?_ | refine bK ?_ | refine aA (b := true) rfl (fun _ => ?_) nTf | refine aA (b := false) rfl nFt (fun _ => ?_) | refine bE ?_ | refine bC ?_ | refine bA mixed (by kernel_rfl) ?_ | refine aD mixed (by kernel_rfl) ?_ | (refine aA rfl (fun hq => ?_) (fun hq => ?_) <;> first | subst hq | (first | (simp only [sD, sE, sB, sC, sN, sM, sT, sF] at hq; try (exfalso; omega)) | skip)) | fail) | (refine bQ ?_; first | refine bZ ?_ | refine aK ?_ | refine aT ?_ | fail) | (refine bG ?_; first | refine bV ?_ | refine aH ?_ | refine aI (by decide) ?_ | refine aM ?_ | fail) | refine bR (bB (by kernel_rfl)) ?_ | fail)
          all_goals first
            | exact absurd rfl (by assumption)
            | (exfalso; omega)
            | (refine cA (by first | exact .inl rfl | exact .inr rfl) (cB rfl (aY rfl)) rfl ?_; rfl))
    · clear hE
      obtain ⟨q, hq0⟩ : ∃ q, groundP (.node k n a b kids) s = q := ⟨_, rfl⟩
      rw [hq0]
      rw [groundP] at hq0
      refine bY Try.func46 rfl rfl (nb rfl) rfl ?_
      repeat' (first | refine bM ?_ | (refine bP ?_; first | refine aX tabOk rfl rfl rfl (nb rfl) rfl ?_ | refine bF rfl rfl (nb rfl) ?_ | (refine bO rfl rfl rfl (nb rfl) rfl rfl rfl (fun hq => ?_) (fun hq => ?_) <;> (first | (simp only [sD, sE, sB, sC, sN, sM, sT, sF] at hq; try (exfalso; omega)) | skip)) | refine aE rfl rfl rfl (nb rfl) rfl rfl (by omega) ?_ | refine bI rfl rfl rfl (nb rfl) rfl rfl rfl (by omega) (by omega) ?_ | refine bJ rfl rfl rfl (nb rfl) rfl rfl rfl (by omega) (by omega) ?_ | refine bH tabOk rfl rfl rfl (nb rfl) rfl rfl rfl rfl rfl rfl rfl rfl rfl ?_ | refine aZ tabOk rfl rfl (nb rfl) rfl ?_ | refine aU tabOk rfl rfl rfl (nb rfl) rfl rfl rfl rfl rfl rfl ?_ | refine aV tabOk rfl rfl rfl (nb rfl) rfl rfl rfl rfl ?_ | refine aN tabOk rfl rfl rfl rfl rfl rfl rfl rfl rfl rfl rfl ?_ | refine aR tabOk rfl rfl rfl (nb rfl) rfl rfl rfl rfl (by first | assumption | omega) ?_ | refine aJ tabOk rfl rfl rfl (nb rfl) rfl rfl rfl rfl (by first | rfl | omega) (by first | omega | simp) ?_ | refine aC tabOk rfl rfl rfl (nb rfl) rfl rfl rfl (by assumption) ?_ | refine aC tabOk rfl rfl rfl (nb rfl) rfl rfl rfl (bS _ _ (by first | assumption | omega)) ?_ | refine aE rfl rfl rfl (nb rfl) rfl rfl (by omega) ?_ | ((fail_if_success (refine aG (b := true) rfl rfl rfl ?_)); (fail_if_success (refine aG (b := false) rfl rfl rfl ?_)); refine aW rfl rfl rfl (fun hq => ?_) (fun hq => ?_) <;> first | subst hq | (first | (simp only [sD, sE, sB, sC, sN, sM, sT, sF] at hq; try (exfalso; omega)) | skip)) | fail) | (refine bW ?_; first | refine bN ?_ | refine bT ?_ | refine aQ ?_ | refine bD ?_ | refine bU ?_ | refine bL ?_ | refine bK ?_ | refine aA (b := true) rfl (fun _ => ?_) nTf | refine aA (b := false) rfl nFt (fun _ => ?_) | refine bE ?_ | refine bC ?_ | refine bA mixed (by kernel_rfl) ?_ | refine aD mixed (by kernel_rfl) ?_ | (refine aA rfl (fun hq => ?_) (fun hq => ?_) <;> first | subst hq | (first | (simp only [sD, sE, sB, sC, sN, sM, sT, sF] at hq; try (exfalso; omega)) | skip)) | fail) | (refine bQ ?_; first | refine bZ ?_ | refine aK ?_ | refine aT ?_ | fail) | (refine bG ?_; first | refine bV ?_ | refine aH ?_ | refine aI (by decide) ?_ | refine aM ?_ | fail) | refine bR (bB (by kernel_rfl)) ?_ | fail)
      all_goals first
        | (exfalso; omega)
        | (refine cA (by first | exact .inl rfl | exact .inr rfl) (cB rfl (aY rfl)) rfl ?_; refine cK ?_; subst hq0; simp_all; try omega)
end Go.Proofs.Ytlbemgokilhdnaa.Ab
namespace Go.Proofs.Ytlbemgokilhdnaa.Ab
set_option linter.unusedVariables false
set_option linter.unusedSimpArgs false
open Go.RowKit Go.Lib Go.Proofs.Ytlbemgokilhdnaa.RP
attribute [local irreducible] AWP AOps AExit AThen ABlock ANoGoto FeetOk
set_option maxHeartbeats 4000000 in
set_option maxRecDepth 10000 in
theorem wZ (t : Tree) (hs : t.size ≤ 1000000) : ACalls Try.prog 20 [.imm t.iv] [] (.imm (.lit (.int .i64 (typeP t)))) [] := by
  have c1 := wY t hs
  unfold typeP
  have hn := @mY t
  generalize normalP 1000 t = N at *
  obtain ⟨m, e⟩ := N
  dsimp only at *
  by_cases he : e = 0
  · subst he
    obtain ⟨h1, h2, h3, _⟩ := hn rfl
    have c2 := zU m h3 h1 0 (Int.le_refl _) (by omega)
    rw [if_pos rfl]
    cases hg : groundP m 0 with
    | true =>
      rw [hg] at c2
      refine bY Try.func20 rfl rfl (nb rfl) rfl ?_
      repeat' (first | refine bM ?_ | (refine bP ?_; first | refine aX tabOk rfl rfl rfl (nb rfl) rfl ?_ | refine bF rfl rfl (nb rfl) ?_ | (refine bO rfl rfl rfl (nb rfl) rfl rfl rfl (fun hq => ?_) (fun hq => ?_) <;> (first | (simp only [sD, sE, sB, sC, sN, sM, sT, sF] at hq; try (exfalso; omega)) | skip))| refine bX rfl rfl (nb rfl) rfl rfl rfl rfl (c1) ?_ | refine bX rfl rfl (nb rfl) rfl rfl rfl rfl (c2) ?_ | refine aE rfl rfl rfl (nb rfl) rfl rfl (by omega) ?_ | refine bI rfl rfl rfl (nb rfl) rfl rfl rfl (by omega) (by omega) ?_ | refine bJ rfl rfl rfl (nb rfl) rfl rfl rfl (by omega) (by omega) ?_ | refine bH tabOk rfl rfl rfl (nb rfl) rfl rfl rfl rfl rfl rfl rfl rfl rfl ?_ | refine aZ tabOk rfl rfl (nb rfl) rfl ?_ | refine aU tabOk rfl rfl rfl (nb rfl) rfl rfl rfl rfl rfl rfl ?_ | refine aV tabOk rfl rfl rfl (nb rfl) rfl rfl rfl rfl ?_ | refine aN tabOk rfl rfl rfl rfl rfl rfl rfl rfl rfl rfl rfl ?_ | refine aR tabOk rfl rfl rfl (nb rfl) rfl rfl rfl rfl (by first | assumption | omega) ?_ | refine aJ tabOk rfl rfl rfl (nb rfl) rfl rfl rfl rfl (by first | rfl | omega) (by first | omega | simp) ?_ | refine aC tabOk rfl rfl rfl (nb rfl) rfl rfl rfl (by assumption) ?_ | refine aC tabOk rfl rfl rfl (nb rfl) rfl rfl rfl (bS _ _ (by first | assumption | omega)) ?_ | refine aE rfl rfl rfl (nb rfl) rfl rfl (by omega) ?_ | ((fail_if_success (refine aG (b := true) rfl rfl rfl ?_)); (fail_if_success (refine aG (b := false) rfl rfl rfl ?_)); refine aW rfl rfl rfl (fun hq => ?_) (fun hq => ?_) <;> first | subst hq | (first | (simp only [sD, sE, sB, sC, sN, sM, sT, sF] at hq; try (exfalso; omega)) | skip)) | fail) | (refine bW ?_; first | refine bN ?_ | refine bT ?_ | refine aQ ?_ | refine bD ?_ | refine bU ?_ | refine bL ?_ | refine bK ?_ | refine aA (b := true) rfl (fun _ => ?_) nTf | refine aA (b := false) rfl nFt (fun _ => ?_) | refine bE ?_ | refine bC ?_ | refine bA mixed (by kernel_rfl) ?_ | refine aD mixed (by kernel_rfl) ?_ | (refine aA rfl (fun hq => ?_) (fun hq => ?_) <;> first | subst hq | (first | (simp only [sD, sE, sB, sC, sN, sM, sT, sF] at hq; try (exfalso; omega)) | skip)) | fail) | (refine bQ ?_; first | refine bZ ?_ | refine aK ?_ | refine aT ?_ | fail) | (refine bG ?_; first | refine bV ?_ | refine aH ?_ | refine aI (by decide) ?_ | refine aM ?_ | fail) | refine bR (bB (by kernel_rfl)) ?_ | fail)
      all_goals first
        | exact absurd rfl (by assumption)
        | (refine cA (by first | exact .inl rfl | exact .inr rfl) (cB rfl (aY rfl)) rfl ?_; rfl)
    | false =>
      rw [hg] at c2
      refine bY Try.func20 rfl rfl (nb rfl) rfl ?_
      repeat' (first | refine bM ?_ | (refine bP ?_; first | refine aX tabOk rfl rfl rfl (nb rfl) rfl ?_ | refine bF rfl rfl (nb rfl) ?_ | (refine bO rfl rfl rfl (nb rfl) rfl rfl rfl (fun hq => ?_) (fun hq => ?_) <;> (first | (simp only [sD, sE, sB, sC, sN, sM, sT, sF] at hq; try (exfalso; omega)) | skip))| refine bX rfl rfl (nb rfl) rfl rfl rfl rfl (c1) ?_ | refine bX rfl rfl (nb rfl) rfl rfl rfl rfl (c2) ?_ | refine aE rfl rfl rfl (nb rfl) rfl rfl (by omega) ?_ | refine bI rfl rfl rfl (nb rfl) rfl rfl rfl (by omega) (by omega) ?_ | refine bJ rfl rfl rfl (nb rfl) rfl rfl rfl (by omega) (by omega) ?_ | refine bH tabOk rfl rfl rfl (nb rfl) rfl rfl rfl rfl rfl rfl rfl rfl rfl ?_ | refine aZ tabOk rfl rfl (nb rfl) rfl ?_ | refine aU tabOk rfl rfl rfl (nb rfl) rfl rfl rfl rfl rfl rfl ?_ | refine aV tabOk rfl rfl rfl (nb rfl) rfl rfl rfl rfl ?_ | refine aN tabOk rfl rfl rfl rfl rfl rfl rfl rfl rfl rfl rfl ?_ | refine aR tabOk rfl rfl rfl (nb rfl) rfl rfl rfl rfl (by first | assumption | omega) ?_ | refine aJ tabOk rfl rfl rfl (nb rfl) rfl rfl rfl rfl (by first | rfl | omega) (by first | omega | simp) ?_ | refine aC tabOk rfl rfl rfl (nb rfl) rfl rfl rfl (by assumption) ?_ | refine aC tabOk rfl rfl rfl (nb rfl) rfl rfl rfl (bS _ _ (by first | assumption | omega)) ?_ | refine aE rfl rfl rfl (nb rfl) rfl rfl (by omega) ?_ | ((fail_if_success (refine aG (b := true) rfl rfl rfl ?_)); (fail_if_success (refine aG (b := false) rfl rfl rfl ?_)); refine aW rfl rfl rfl (fun hq => ?_) (fun hq => ?_) <;> first | subst hq | (first | (simp only [sD, sE, sB, sC, sN, sM, sT, sF] at hq; try (exfalso; omega)) | skip)) | fail) | (refine bW ?_; first | refine bN ?_ | refine bT ?_ | refine aQ ?_ | refine bD ?_ | refine bU ?_ | refine bL ?_ | refine bK ?_ | refine aA (b := true) rfl (fun _ => ?_) nTf | refine aA (b := false) rfl nFt (fun _ => ?_) | refine bE ?_ | refine bC ?_ | refine bA mixed (by kernel_rfl) ?_ | refine aD mixed (by kernel_rfl) ?_ | (refine aA rfl (fun hq => ?_) (fun hq => ?_) <;> first | subst hq | (first | (simp only [sD, sE, sB, sC, sN, sM, sT, sF] at hq; try (exfalso; omega)) | skip)) | fail) | (refine bQ ?_; first | refine bZ ?_ | refine aK ?_ | refine aT ?_ | fail) | (refine bG ?_; first | refine bV ?_ | refine aH ?_ | refine aI (by decide) ?_ | refine aM ?_ | fail) | refine bR (bB (by kernel_rfl)) ?_ | fail)
      all_goals first
        | exact absurd rfl (by assumption)
        | (refine cA (by first | exact .inl rfl | exact .inr rfl) (cB rfl (aY rfl)) rfl ?_; rfl)
  · rw [if_neg he]
    refine bY Try.func20 rfl rfl (nb rfl) rfl ?_
    repeat' (first | refine bM ?_ | (refine bP ?_; first | refine aX tabOk rfl rfl rfl (nb rfl) rfl ?_ | refine bF rfl rfl (nb rfl) ?_ | (refine bO rfl rfl rfl (nb rfl) rfl rfl rfl (fun hq => ?_) (fun hq => ?_) <;> (first | (simp only [sD, sE, sB, sC, sN, sM, sT, sF] at hq; try (exfalso; omega)) | skip))| refine bX rfl rfl (nb rfl) rfl rfl rfl rfl (c1) ?_ | refine aE rfl rfl rfl (nb rfl) rfl rfl (by omega) ?_ | refine bI rfl rfl rfl (nb rfl) rfl rfl rfl (by omega) (by omega) ?_ | refine bJ rfl rfl rfl (nb rfl) rfl rfl rfl (by omega) (by omega) ?_ | refine bH tabOk rfl rfl rfl (nb rfl) rfl rfl rfl rfl rfl rfl rfl rfl rfl ?_ | refine aZ tabOk rfl rfl (nb rfl) rfl ?_ | refine aU tabOk rfl rfl rfl (nb rfl) rfl rfl rfl rfl rfl rfl ?_ | refine aV tabOk rfl rfl rfl (nb rfl) rfl rfl rfl rfl ?_ | refine aN tabOk rfl rfl rfl rfl rfl rfl rfl rfl rfl rfl rfl ?_ | refine aR tabOk rfl rfl rfl (nb rfl) rfl rfl rfl rfl (by first | assumption | omega) ?_ | refine aJ tabOk rfl rfl rfl (nb rfl) rfl rfl rfl rfl (by first | rfl | omega) (by first | omega | simp) ?_ | refine aC tabOk rfl rfl rfl (nb rfl) rfl rfl rfl (by assumption) ?_ | refine aC tabOk rfl rfl rfl (nb rfl) rfl rfl rfl (bS _ _ (by first | assumption | omega)) ?_ | refine aE rfl rfl rfl (nb rfl) rfl rfl (by omega) ?_ | ((fail_if_success (refine aG (b := true) rfl rfl rfl ?_)); (fail_if_success (refine aG (b := false) rfl rfl rfl ?_)); refine aW rfl rfl rfl (fun hq => ?_) (fun hq => ?_) <;> first | subst hq | (first | (simp only [sD, sE, sB, sC, sN, sM, sT, sF] at hq; try (exfalso; omega)) | skip)) | fail) | (refine bW ?_; first | refine bN ?_ | refine bT ?_ | refine aQ ?_ | refine bD ?_ | refine bU ?_ | refine bL ?_ | refine bK ?_ | refine aA (b := true) rfl (fun _ => ?_) nTf | refine aA (b := false) rfl nFt (fun _ => ?_) | refine bE ?_ | refine bC ?_ | refine bA mixed (by kernel_rfl) ?_ | refine aD mixed (by kernel_rfl) ?_ | (refine aA rfl (fun hq => ?_) (fun hq => ?_) <;> first | subst hq | (first | (simp only [sD, sE, sB, sC, sN, sM, sT, sF] at hq; try (exfalso; omega)) | skip)) | fail) | (refine bQ ?_; first | refine bZ ?_ | refine aK ?_ | refine aT ?_ | fail) | (refine bG ?_; first | refine bV ?_ | refine aH ?_ | refine aI (by decide) ?_ | refine aM ?_ | fail) | refine bR (bB (by kernel_rfl)) ?_ | fail)
    all_goals first
      | exact absurd (by assumption) he
      | exact absurd rfl (by assumption)
      | (refine cA (by first | exact .inl rfl | exact .inr rfl) (cB rfl (aY rfl)) rfl ?_; rfl)
set_option maxHeartbeats 4000000 in
set_option maxRecDepth 10000 in
theorem nX (l : List CellD) (hl : ∀ c ∈ l, c.f = false) : ACalls Try.prog 6 [.imm (.agg [.sl false l.length (cellIVs l)])] [] (.imm (.lit (.bool true))) [] := by
  obtain ⟨n, s1, s2, _, d1⟩ := rT l hl
  have c1 := aAn n (by omega)
  have c2 := wZ n (by omega)
  generalize typeP n = T at *
  refine bY Try.func6 rfl rfl (nb rfl) rfl ?_
  repeat' (first | refine bM ?_ | (refine bP ?_; first | refine aX tabOk rfl rfl rfl (nb rfl) rfl ?_ | refine bF rfl rfl (nb rfl) ?_ | (refine bO rfl rfl rfl (nb rfl) rfl rfl rfl (fun hq => ?_) (fun hq => ?_) <;> (first | (simp only [sD, sE, sB, sC, sN, sM, sT, sF] at hq; try (exfalso; omega)) | skip))| refine bX rfl rfl (nb rfl) rfl rfl rfl rfl (d1) ?_ | refine bX rfl rfl (nb rfl) rfl rfl rfl rfl (c1) ?_ | refine bX rfl rfl (nb rfl) rfl rfl rfl rfl (c2) ?_ | refine bX rfl rfl (nb rfl) rfl rfl rfl rfl (wS) ?_ | refine aE rfl rfl rfl (nb rfl) rfl rfl (by omega) ?_ | refine bI rfl rfl rfl (nb rfl) rfl rfl rfl (by omega) (by omega) ?_ | refine bJ rfl rfl rfl (nb rfl) rfl rfl rfl (by omega) (by omega) ?_ | refine bH tabOk rfl rfl rfl (nb rfl) rfl rfl rfl rfl rfl rfl rfl rfl rfl ?_ | refine aZ tabOk rfl rfl (nb rfl) rfl ?_ | refine aU tabOk rfl rfl rfl (nb rfl) rfl rfl rfl rfl rfl rfl ?_ | refine aV tabOk rfl rfl rfl (nb rfl) rfl rfl rfl rfl ?_ | refine aN tabOk rfl rfl rfl rfl rfl rfl rfl rfl rfl rfl rfl ?_ | refine aR tabOk rfl rfl rfl (nb rfl) rfl rfl rfl rfl (by first | assumption | omega) ?_ | refine aJ tabOk rfl rfl rfl (nb rfl) rfl rfl rfl rfl (by first | rfl | omega) (by first | omega | simp) ?_ | refine aC tabOk rfl rfl rfl (nb rfl) rfl rfl rfl (by assumption) ?_ | refine aC tabOk rfl rfl rfl (nb rfl) rfl rfl rfl (bS _ _ (by first | assumption | omega)) ?_ | refine aE rfl rfl rfl (nb rfl) rfl rfl (by omega) ?_ | ((fail_if_success (refine aG (b := true) rfl rfl rfl ?_)); (fail_if_success (refine aG (b := false) rfl rfl rfl ?_)); refine aW rfl rfl rfl (fun hq => ?_) (fun hq => ?_) <;> first | subst hq | (first | (simp only [sD, sE, sB, sC, sN, sM, sT, sF] at hq; try (exfalso; omega)) | skip)) | fail) | (refine bW ?_; first | refine bN ?_ | refine bT ?_ | refine aQ ?_ | refine bD ?_ | refine bU ?_ | refine bL ?_ | refine bK ?_ | refine aA (b := true) rfl (fun _ => ?_) nTf | refine aA (b := false) rfl nFt (fun _ => ?_) | refine bE ?_ | refine bC ?_ | refine bA mixed (by kernel_rfl) ?_ | refine aD mixed (by kernel_rfl) ?_ | (refine aA rfl (fun hq => ?_) (fun hq => ?_) <;> first | subst hq | (first | (simp only [sD, sE, sB, sC, sN, sM, sT, sF] at hq; try (exfalso; omega)) | skip)) | fail) | (refine bQ ?_; first | refine bZ ?_ | refine aK ?_ | refine aT ?_ | fail) | (refine bG ?_; first | refine bV ?_ | refine aH ?_ | refine aI (by decide) ?_ | refine aM ?_ | fail) | refine bR (bB (by kernel_rfl)) ?_ | fail)
  all_goals first
    | exact dJ (by first | exact .inl rfl | exact .inr rfl) (cB rfl (aY rfl)) rfl
    | exact absurd rfl (by assumption)
    | (exfalso; omega)
theorem GroundTypes_law (xs : List IV) (h : FitsAll [tyTree] xs) : ACalls Try.prog 6 (xs.map .imm) [] (.imm (.lit (.bool true))) [] := by
  cases h with
  | cons h1 h =>
    cases h
    obtain ⟨l, rfl, hl⟩ := wQ h1
    exact nX l hl
end Go.Proofs.Ytlbemgokilhdnaa.Ab
