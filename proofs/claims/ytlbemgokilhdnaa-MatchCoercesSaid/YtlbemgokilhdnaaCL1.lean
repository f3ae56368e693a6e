/- Words, walks and laws under the claim's statement: what it uses of them. No condition of its own. -/
import Derived.Test.YtlbemgokilhdnaaCL0
import Derived.Test.YtlbemgokilhdnaaCAb1
namespace Go.Proofs.Ytlbemgokilhdnaa.Ab
set_option linter.unusedVariables false
set_option linter.unusedSimpArgs false
attribute [local irreducible] AWP AOps AExit AThen ABlock ANoGoto FeetOk
/-- What Subst makes of a variable; how much was put in, and the error so far. -/
def substV (i own : Int) (by_ : Tree) (n d : Int) (s : Int × Int) : Tree × (Int × Int) :=
  if s.2 ≠ 0 ∨ n < d ∨ n - d < i then (varT n, s)
  else if n - d > i then (varT (n - 1), s)
  else if s.1 + own > 65536 ∨ (shiftP by_ d 0).2 ≠ 0 then (varT n, (s.1 + own, 3))
  else ((shiftP by_ d 0).1, (s.1 + own, s.2))
set_option maxHeartbeats 16000000 in
set_option maxRecDepth 10000 in
theorem tP (i own : Int) (by_ : Tree) (pb : List IV) (hpb : by_.iv = .ptr pb 0) (hbs : by_.size ≤ 1000000) (n d : Int) (sz e : Int) (hi : 0 ≤ i) (ho0 : 0 ≤ own) (ho : own ≤ 65536) (hs0 : 0 ≤ sz) (hs : sz ≤ 131072) (hn0 : 0 ≤ n) (hn : n ≤ 65536) (hd0 : 0 ≤ d) (hd : d ≤ 1000000) :
    ACalls Try.prog 133 [.imm (varT n).iv, .imm (.lit (.int .i64 d)), .obj 1000 0, .obj 1001 0, .obj 1002 0, .obj 1003 0, .obj 1004 0] [(1000, .cells [.imm (.lit (.int .i64 e))]), (1001, .cells [.imm (.lit (.int .i64 i))]), (1002, .cells [.imm (.lit (.int .i64 sz))]), (1003, .cells [.imm (.lit (.int .i64 own))]), (1004, .cells [.imm (.ptr pb 0)])]
      (.imm (substV i own by_ n d (sz, e)).1.iv) [(1000, .cells [.imm (.lit (.int .i64 (substV i own by_ n d (sz, e)).2.2))]), (1001, .cells [.imm (.lit (.int .i64 i))]), (1002, .cells [.imm (.lit (.int .i64 (substV i own by_ n d (sz, e)).2.1))]), (1003, .cells [.imm (.lit (.int .i64 own))]), (1004, .cells [.imm (.ptr pb 0)])] := by
  by_cases h1 : e ≠ 0 ∨ n < d ∨ n - d < i
  · have er : substV i own by_ n d (sz, e) = (varT n, (sz, e)) := if_pos h1
    rw [er]
    unfold varT
    refine cG [1000, 1001, 1002, 1003, 1004] Try.func133 rfl rfl (nb rfl) rfl rfl ?_
    repeat' (first | refine bG ?_ | (refine bJ ?_; first | refine aR tabOk rfl rfl rfl (nb rfl) rfl ?_ | refine aZ rfl rfl (nb rfl) ?_ | (refine bI rfl rfl rfl (nb rfl) rfl rfl rfl (fun hq => ?_) (fun hq => ?_) <;> (first | (simp only [sD, sE, sB, sC, sN, sM, sT, sF] at hq; try (exfalso; omega)) | skip)) | refine aD rfl rfl rfl (nb rfl) rfl rfl (by omega) ?_ | refine bC rfl rfl rfl (nb rfl) rfl rfl rfl (by omega) (by omega) ?_ | refine bD rfl rfl rfl (nb rfl) rfl rfl rfl (by omega) (by omega) ?_ | refine bB tabOk rfl rfl rfl (nb rfl) rfl rfl rfl rfl rfl rfl rfl rfl rfl ?_ | refine aT tabOk rfl rfl (nb rfl) rfl ?_ | refine aN tabOk rfl rfl rfl (nb rfl) rfl rfl rfl rfl rfl rfl ?_ | refine aO tabOk rfl rfl rfl (nb rfl) rfl rfl rfl rfl ?_ | refine aK tabOk rfl rfl rfl rfl rfl rfl rfl rfl rfl rfl rfl ?_ | refine aP tabOk rfl rfl rfl (nb rfl) rfl rfl rfl rfl (by first | assumption | omega) ?_ | refine aH tabOk rfl rfl rfl (nb rfl) rfl rfl rfl rfl (by first | rfl | omega) (by first | omega | simp) ?_ | refine aB tabOk rfl rfl rfl (nb rfl) rfl rfl rfl (by assumption) ?_ | refine aB tabOk rfl rfl rfl (nb rfl) rfl rfl rfl (bM _ _ (by first | assumption | omega)) ?_ | refine aD rfl rfl rfl (nb rfl) rfl rfl (by omega) ?_ | ((fail_if_success (refine aE (b := true) rfl rfl rfl ?_)); (fail_if_success (refine aE (b := false) rfl rfl rfl ?_)); refine aQ rfl rfl rfl (fun hq => ?_) (fun hq => ?_) <;> first | subst hq | (first | (simp only [sD, sE, sB, sC, sN, sM, sT, sF] at hq; try (exfalso; omega)) | skip)) | fail) | (refine bQ ?_; first | refine bH ?_ | refine bN ?_ | refine aL ?_ | refine aX ?_ | refine bO ?_ | refine bF ?_ | refine bE ?_ | refine aA (b := true) rfl (fun _ => ?_) nTf | refine aA (b := false) rfl nFt (fun _ => ?_) | refine aY ?_ | refine aW ?_ | refine aU mixed (by kernel_rfl) ?_ | refine aC mixed (by kernel_rfl) ?_ | (refine aA rfl (fun hq => ?_) (fun hq => ?_) <;> first | subst hq | (first | (simp only [sD, sE, sB, sC, sN, sM, sT, sF] at hq; try (exfalso; omega)) | skip)) | fail) | (refine bK ?_; first | refine bT ?_ | refine aI ?_ | refine aM ?_ | fail) | (refine bA ?_; first | refine bP ?_ | refine aF ?_ | refine aG (by decide) ?_ | refine aJ ?_ | fail) | refine bL (aV (by kernel_rfl)) ?_ | fail)
    all_goals first
      | exact absurd rfl (by assumption)
      | (exfalso; omega)
      | (refine cK (cF (by first | exact .inl rfl | exact .inr rfl) (bU rfl (aS rfl)) rfl (by repeat' first | exact trivial | refine ⟨rfl, ?_⟩) rfl ?_); rfl)
  · have he : e = 0 := by omega
    subst he
    by_cases h2 : n - d > i
    · have er : substV i own by_ n d (sz, 0) = (varT (n - 1), (sz, 0)) := by unfold substV; rw [if_neg h1, if_pos h2]
      rw [er]
      have cm := qZ 110 n emptyB emptyB [] (-1) (by omega) (by omega)
      rw [show n + -1 = n - 1 by omega] at cm
      generalize varT (n - 1) = Z at *
      unfold varT
      refine cG [1000, 1001, 1002, 1003, 1004] Try.func133 rfl rfl (nb rfl) rfl rfl ?_
      repeat' (first | refine bG ?_ | (refine bJ ?_; first | refine aR tabOk rfl rfl rfl (nb rfl) rfl ?_ | refine aZ rfl rfl (nb rfl) ?_ | (refine bI rfl rfl rfl (nb rfl) rfl rfl rfl (fun hq => ?_) (fun hq => ?_) <;> (first | (simp only [sD, sE, sB, sC, sN, sM, sT, sF] at hq; try (exfalso; omega)) | skip))| refine bS rfl rfl (nb rfl) rfl rfl rfl rfl (cm) ?_ | refine aD rfl rfl rfl (nb rfl) rfl rfl (by omega) ?_ | refine bC rfl rfl rfl (nb rfl) rfl rfl rfl (by omega) (by omega) ?_ | refine bD rfl rfl rfl (nb rfl) rfl rfl rfl (by omega) (by omega) ?_ | refine bB tabOk rfl rfl rfl (nb rfl) rfl rfl rfl rfl rfl rfl rfl rfl rfl ?_ | refine aT tabOk rfl rfl (nb rfl) rfl ?_ | refine aN tabOk rfl rfl rfl (nb rfl) rfl rfl rfl rfl rfl rfl ?_ | refine aO tabOk rfl rfl rfl (nb rfl) rfl rfl rfl rfl ?_ | refine aK tabOk rfl rfl rfl rfl rfl rfl rfl rfl rfl rfl rfl ?_ | refine aP tabOk rfl rfl rfl (nb rfl) rfl rfl rfl rfl (by first | assumption | omega) ?_ | refine aH tabOk rfl rfl rfl (nb rfl) rfl rfl rfl rfl (by first | rfl | omega) (by first | omega | simp) ?_ | refine aB tabOk rfl rfl rfl (nb rfl) rfl rfl rfl (by assumption) ?_ | refine aB tabOk rfl rfl rfl (nb rfl) rfl rfl rfl (bM _ _ (by first | assumption | omega)) ?_ | refine aD rfl rfl rfl (nb rfl) rfl rfl (by omega) ?_ | ((fail_if_success (refine aE (b := true) rfl rfl rfl ?_)); (fail_if_success (refine aE (b := false) rfl rfl rfl ?_)); refine aQ rfl rfl rfl (fun hq => ?_) (fun hq => ?_) <;> first | subst hq | (first | (simp only [sD, sE, sB, sC, sN, sM, sT, sF] at hq; try (exfalso; omega)) | skip)) | fail) | (refine bQ ?_; first | refine bH ?_ | refine bN ?_ | refine aL ?_ | refine aX ?_ | refine bO ?_ | refine bF ?_ | refine bE ?_ | refine aA (b := true) rfl (fun _ => ?_) nTf | refine aA (b := false) rfl nFt (fun _ => ?_) | refine aY ?_ | refine aW ?_ | refine aU mixed (by kernel_rfl) ?_ | refine aC mixed (by kernel_rfl) ?_ | (refine aA rfl (fun hq => ?_) (fun hq => ?_) <;> first | subst hq | (first | (simp only [sD, sE, sB, sC, sN, sM, sT, sF] at hq; try (exfalso; omega)) | skip)) | fail) | (refine bK ?_; first | refine bT ?_ | refine aI ?_ | refine aM ?_ | fail) | (refine bA ?_; first | refine bP ?_ | refine aF ?_ | refine aG (by decide) ?_ | refine aJ ?_ | fail) | refine bL (aV (by kernel_rfl)) ?_ | fail)
      all_goals first
        | exact absurd rfl (by assumption)
        | (exfalso; omega)
        | (refine cK (cF (by first | exact .inl rfl | exact .inr rfl) (bU rfl (aS rfl)) rfl (by repeat' first | exact trivial | refine ⟨rfl, ?_⟩) rfl ?_); rfl)
    · have cs := nR by_ d 0 hbs
      rw [hpb] at cs
      by_cases h3 : sz + own > 65536
      · have er : substV i own by_ n d (sz, 0) = (varT n, (sz + own, 3)) := by unfold substV; rw [if_neg h1, if_neg h2, if_pos (.inl h3)]
        rw [er]
        unfold varT
        refine cG [1000, 1001, 1002, 1003, 1004] Try.func133 rfl rfl (nb rfl) rfl rfl ?_
        repeat' (first | refine bG ?_ | (refine bJ ?_; first | refine aR tabOk rfl rfl rfl (nb rfl) rfl ?_ | refine aZ rfl rfl (nb rfl) ?_ | (refine bI rfl rfl rfl (nb rfl) rfl rfl rfl (fun hq => ?_) (fun hq => ?_) <;> (first | (simp only [sD, sE, sB, sC, sN, sM, sT, sF] at hq; try (exfalso; omega)) | skip))| refine bC (z := sz + own) rfl rfl rfl (nb rfl) rfl rfl rfl (by omega) (by omega) ?_ | refine aD rfl rfl rfl (nb rfl) rfl rfl (by omega) ?_ | refine bC rfl rfl rfl (nb rfl) rfl rfl rfl (by omega) (by omega) ?_ | refine bD rfl rfl rfl (nb rfl) rfl rfl rfl (by omega) (by omega) ?_ | refine bB tabOk rfl rfl rfl (nb rfl) rfl rfl rfl rfl rfl rfl rfl rfl rfl ?_ | refine aT tabOk rfl rfl (nb rfl) rfl ?_ | refine aN tabOk rfl rfl rfl (nb rfl) rfl rfl rfl rfl rfl rfl ?_ | refine aO tabOk rfl rfl rfl (nb rfl) rfl rfl rfl rfl ?_ | refine aK tabOk rfl rfl rfl rfl rfl rfl rfl rfl rfl rfl rfl ?_ | refine aP tabOk rfl rfl rfl (nb rfl) rfl rfl rfl rfl (by first | assumption | omega) ?_ | refine aH tabOk rfl rfl rfl (nb rfl) rfl rfl rfl rfl (by first | rfl | omega) (by first | omega | simp) ?_ | refine aB tabOk rfl rfl rfl (nb rfl) rfl rfl rfl (by assumption) ?_ | refine aB tabOk rfl rfl rfl (nb rfl) rfl rfl rfl (bM _ _ (by first | assumption | omega)) ?_ | refine aD rfl rfl rfl (nb rfl) rfl rfl (by omega) ?_ | ((fail_if_success (refine aE (b := true) rfl rfl rfl ?_)); (fail_if_success (refine aE (b := false) rfl rfl rfl ?_)); refine aQ rfl rfl rfl (fun hq => ?_) (fun hq => ?_) <;> first | subst hq | (first | (simp only [sD, sE, sB, sC, sN, sM, sT, sF] at hq; try (exfalso; omega)) | skip)) | fail) | (refine bQ ?_; first | refine bH ?_ | refine bN ?_ | refine aL ?_ | refine aX ?_ | refine bO ?_ | refine bF ?_ | refine bE ?_ | refine aA (b := true) rfl (fun _ => ?_) nTf | refine aA (b := false) rfl nFt (fun _ => ?_) | refine aY ?_ | refine aW ?_ | refine aU mixed (by kernel_rfl) ?_ | refine aC mixed (by kernel_rfl) ?_ | (refine aA rfl (fun hq => ?_) (fun hq => ?_) <;> first | subst hq | (first | (simp only [sD, sE, sB, sC, sN, sM, sT, sF] at hq; try (exfalso; omega)) | skip)) | fail) | (refine bK ?_; first | refine bT ?_ | refine aI ?_ | refine aM ?_ | fail) | (refine bA ?_; first | refine bP ?_ | refine aF ?_ | refine aG (by decide) ?_ | refine aJ ?_ | fail) | refine bL (aV (by kernel_rfl)) ?_ | fail)
        all_goals first
          | exact absurd rfl (by assumption)
          | (exfalso; omega)
          | (refine cK (cF (by first | exact .inl rfl | exact .inr rfl) (bU rfl (aS rfl)) rfl (by repeat' first | exact trivial | refine ⟨rfl, ?_⟩) rfl ?_); rfl)
      · by_cases h4 : (shiftP by_ d 0).2 = 0
        · have er : substV i own by_ n d (sz, 0) = ((shiftP by_ d 0).1, (sz + own, 0)) := by unfold substV; rw [if_neg h1, if_neg h2, if_neg (fun h => h.elim h3 (fun h => h h4))]
          rw [er]
          rw [h4] at cs
          clear er h4 hpb
          generalize (shiftP by_ d 0).1 = Z at *
          unfold varT
          refine cG [1000, 1001, 1002, 1003, 1004] Try.func133 rfl rfl (nb rfl) rfl rfl ?_
          repeat' (first | refine bG ?_ | (refine bJ ?_; first | refine aR tabOk rfl rfl rfl (nb rfl) rfl ?_ | refine aZ rfl rfl (nb rfl) ?_ | (refine bI rfl rfl rfl (nb rfl) rfl rfl rfl (fun hq => ?_) (fun hq => ?_) <;> (first | (simp only [sD, sE, sB, sC, sN, sM, sT, sF] at hq; try (exfalso; omega)) | skip))| refine bS rfl rfl (nb rfl) rfl rfl rfl rfl (cs) ?_ | refine bC (z := sz + own) rfl rfl rfl (nb rfl) rfl rfl rfl (by omega) (by omega) ?_ | refine aD rfl rfl rfl (nb rfl) rfl rfl (by omega) ?_ | refine bC rfl rfl rfl (nb rfl) rfl rfl rfl (by omega) (by omega) ?_ | refine bD rfl rfl rfl (nb rfl) rfl rfl rfl (by omega) (by omega) ?_ | refine bB tabOk rfl rfl rfl (nb rfl) rfl rfl rfl rfl rfl rfl rfl rfl rfl ?_ | refine aT tabOk rfl rfl (nb rfl) rfl ?_ | refine aN tabOk rfl rfl rfl (nb rfl) rfl rfl rfl rfl rfl rfl ?_ | refine aO tabOk rfl rfl rfl (nb rfl) rfl rfl rfl rfl ?_ | refine aK tabOk rfl rfl rfl rfl rfl rfl rfl rfl rfl rfl rfl ?_ | refine aP tabOk rfl rfl rfl (nb rfl) rfl rfl rfl rfl (by first | assumption | omega) ?_ | refine aH tabOk rfl rfl rfl (nb rfl) rfl rfl rfl rfl (by first | rfl | omega) (by first | omega | simp) ?_ | refine aB tabOk rfl rfl rfl (nb rfl) rfl rfl rfl (by assumption) ?_ | refine aB tabOk rfl rfl rfl (nb rfl) rfl rfl rfl (bM _ _ (by first | assumption | omega)) ?_ | refine aD rfl rfl rfl (nb rfl) rfl rfl (by omega) ?_ | ((fail_if_success (refine aE (b := true) rfl rfl rfl ?_)); (fail_if_success (refine aE (b := false) rfl rfl rfl ?_)); refine aQ rfl rfl rfl (fun hq => ?_) (fun hq => ?_) <;> first | subst hq | (first | (simp only [sD, sE, sB, sC, sN, sM, sT, sF] at hq; try (exfalso; omega)) | skip)) | fail) | (refine bQ ?_; first | refine bH ?_ | refine bN ?_ | refine aL ?_ | refine aX ?_ | refine bO ?_ | refine bF ?_ | refine bE ?_ | refine aA (b := true) rfl (fun _ => ?_) nTf | refine aA (b := false) rfl nFt (fun _ => ?_) | refine aY ?_ | refine aW ?_ | refine aU mixed (by kernel_rfl) ?_ | refine aC mixed (by kernel_rfl) ?_ | (refine aA rfl (fun hq => ?_) (fun hq => ?_) <;> first | subst hq | (first | (simp only [sD, sE, sB, sC, sN, sM, sT, sF] at hq; try (exfalso; omega)) | skip)) | fail) | (refine bK ?_; first | refine bT ?_ | refine aI ?_ | refine aM ?_ | fail) | (refine bA ?_; first | refine bP ?_ | refine aF ?_ | refine aG (by decide) ?_ | refine aJ ?_ | fail) | refine bL (aV (by kernel_rfl)) ?_ | fail)
          all_goals first
            | exact absurd rfl (by assumption)
            | (exfalso; omega)
            | (refine cK (cF (by first | exact .inl rfl | exact .inr rfl) (bU rfl (aS rfl)) rfl (by repeat' first | exact trivial | refine ⟨rfl, ?_⟩) rfl ?_); rfl)
        · have er : substV i own by_ n d (sz, 0) = (varT n, (sz + own, 3)) := by unfold substV; rw [if_neg h1, if_neg h2, if_pos (.inr h4)]
          rw [er]
          clear er hpb
          generalize (shiftP by_ d 0).1 = Z at *
          generalize (shiftP by_ d 0).2 = Z2 at *
          unfold varT
          refine cG [1000, 1001, 1002, 1003, 1004] Try.func133 rfl rfl (nb rfl) rfl rfl ?_
          repeat' (first | refine bG ?_ | (refine bJ ?_; first | refine aR tabOk rfl rfl rfl (nb rfl) rfl ?_ | refine aZ rfl rfl (nb rfl) ?_ | (refine bI rfl rfl rfl (nb rfl) rfl rfl rfl (fun hq => ?_) (fun hq => ?_) <;> (first | (simp only [sD, sE, sB, sC, sN, sM, sT, sF] at hq; try (exfalso; omega)) | skip))| refine bS rfl rfl (nb rfl) rfl rfl rfl rfl (cs) ?_ | refine bC (z := sz + own) rfl rfl rfl (nb rfl) rfl rfl rfl (by omega) (by omega) ?_ | refine aD rfl rfl rfl (nb rfl) rfl rfl (by omega) ?_ | refine bC rfl rfl rfl (nb rfl) rfl rfl rfl (by omega) (by omega) ?_ | refine bD rfl rfl rfl (nb rfl) rfl rfl rfl (by omega) (by omega) ?_ | refine bB tabOk rfl rfl rfl (nb rfl) rfl rfl rfl rfl rfl rfl rfl rfl rfl ?_ | refine aT tabOk rfl rfl (nb rfl) rfl ?_ | refine aN tabOk rfl rfl rfl (nb rfl) rfl rfl rfl rfl rfl rfl ?_ | refine aO tabOk rfl rfl rfl (nb rfl) rfl rfl rfl rfl ?_ | refine aK tabOk rfl rfl rfl rfl rfl rfl rfl rfl rfl rfl rfl ?_ | refine aP tabOk rfl rfl rfl (nb rfl) rfl rfl rfl rfl (by first | assumption | omega) ?_ | refine aH tabOk rfl rfl rfl (nb rfl) rfl rfl rfl rfl (by first | rfl | omega) (by first | omega | simp) ?_ | refine aB tabOk rfl rfl rfl (nb rfl) rfl rfl rfl (by assumption) ?_ | refine aB tabOk rfl rfl rfl (nb rfl) rfl rfl rfl (bM _ _ (by first | assumption | omega)) ?_ | refine aD rfl rfl rfl (nb rfl) rfl rfl (by omega) ?_ | ((fail_if_success (refine aE (b := true) rfl rfl rfl ?_)); (fail_if_success (refine aE (b := false) rfl rfl rfl ?_)); refine aQ rfl rfl rfl (fun hq => ?_) (fun hq => ?_) <;> first | subst hq | (first | (simp only [sD, sE, sB, sC, sN, sM, sT, sF] at hq; try (exfalso; omega)) | skip)) | fail) | (refine bQ ?_; first | refine bH ?_ | refine bN ?_ | refine aL ?_ | refine aX ?_ | refine bO ?_ | refine bF ?_ | refine bE ?_ | refine aA (b := true) rfl (fun _ => ?_) nTf | refine aA (b := false) rfl nFt (fun _ => ?_) | refine aY ?_ | refine aW ?_ | refine aU mixed (by kernel_rfl) ?_ | refine aC mixed (by kernel_rfl) ?_ | (refine aA rfl (fun hq => ?_) (fun hq => ?_) <;> first | subst hq | (first | (simp only [sD, sE, sB, sC, sN, sM, sT, sF] at hq; try (exfalso; omega)) | skip)) | fail) | (refine bK ?_; first | refine bT ?_ | refine aI ?_ | refine aM ?_ | fail) | (refine bA ?_; first | refine bP ?_ | refine aF ?_ | refine aG (by decide) ?_ | refine aJ ?_ | fail) | refine bL (aV (by kernel_rfl)) ?_ | fail)
          all_goals first
            | exact absurd (by assumption) h4
            | exact absurd rfl (by assumption)
            | (exfalso; omega)
            | (refine cK (cF (by first | exact .inl rfl | exact .inr rfl) (bU rfl (aS rfl)) rfl (by repeat' first | exact trivial | refine ⟨rfl, ?_⟩) rfl ?_); rfl)
def substJ (s : Int × Int) : Prop := 0 ≤ s.1 ∧ s.1 ≤ 131072 ∧ (s.2 = 0 → s.1 ≤ 65536) ∧ (s.2 = 0 ∨ s.2 = 3)
theorem kC (i : Int) (by_ : Tree) (hb : by_.size ≤ 65536) (n d : Int) (s : Int × Int) (hJ : substJ s) :
    (substV i by_.size by_ n d s).1.whole = true ∧ substJ (substV i by_.size by_ n d s).2 ∧ (substV i by_.size by_ n d s).1.size + s.1.toNat ≤ 1 + (substV i by_.size by_ n d s).2.1.toNat := by
  obtain ⟨sz, e⟩ := s
  obtain ⟨j1, j2, j3, j4⟩ := hJ
  dsimp only at j1 j2 j3 j4
  unfold substV
  dsimp only
  split
  · exact ⟨rfl, ⟨j1, j2, j3, j4⟩, by rw [jK]; dsimp only; omega⟩
  · rename_i h1
    have he : e = 0 := by omega
    subst he
    have j5 := j3 rfl
    split
    · exact ⟨rfl, ⟨j1, j2, j3, j4⟩, by rw [jK]; dsimp only; omega⟩
    · split
      · refine ⟨rfl, ⟨?_, ?_, ?_, .inr rfl⟩, ?_⟩
        · show 0 ≤ sz + by_.size; omega
        · show sz + by_.size ≤ 131072; omega
        · intro h; cases h
        · rw [jK]; dsimp only; omega
      · rename_i h3
        have h4 : (shiftP by_ d 0).2 = 0 := by omega
        have h5 := gM by_ d 0 h4
        refine ⟨h5.1, ⟨?_, ?_, ?_, .inl rfl⟩, ?_⟩
        · show 0 ≤ sz + by_.size; omega
        · show sz + by_.size ≤ 131072; omega
        · intro _; show sz + by_.size ≤ 65536; omega
        · have := h5.2.1; dsimp only; omega
/-- What Subst tells. -/
def substP (t : Tree) (i : Int) (by_ : Tree) : Tree × Int :=
  if checkP isConP t ≠ 0 then (.nil, checkP isConP t)
  else if checkP isConP by_ ≠ 0 then (.nil, checkP isConP by_)
  else if i < 0 then (.nil, 2)
  else if (walkS (substV i by_.size by_) t 0 (0, 0)).2.2 ≠ 0 ∨ (walkS (substV i by_.size by_) t 0 (0, 0)).1.size > 65536 then (.nil, 3)
  else ((walkS (substV i by_.size by_) t 0 (0, 0)).1, 0)
theorem substW (t : Tree) (i : Int) (by_ : Tree) (hc : checkP isConP t = 0) (hb : checkP isConP by_ = 0) :
    (walkS (substV i by_.size by_) t 0 (0, 0)).1.whole = true ∧ substJ (walkS (substV i by_.size by_) t 0 (0, 0)).2 ∧ (walkS (substV i by_.size by_) t 0 (0, 0)).1.size ≤ 200000 := by
  obtain ⟨hw, hz, hf⟩ := cD hc
  obtain ⟨bw, bz, bf⟩ := cD hb
  have := lK (substV i by_.size by_) substJ (fun s => s.1.toNat) (fun n d s hJ _ _ _ _ => kC i by_ bz n d s hJ) t 0 (0, 0) (fZ t hf) hw (Int.le_refl _) (by omega) ⟨by decide, by decide, by decide, .inl rfl⟩
  refine ⟨this.1, this.2.1, ?_⟩
  have h1 := this.2.2
  have h2 := this.2.1.2.1
  dsimp only at h1
  omega
theorem oT (t : Tree) (i : Int) (by_ : Tree) (h : (substP t i by_).2 = 0) : (substP t i by_).1.whole = true ∧ (substP t i by_).1.size ≤ 65536 ∧ checkP isConP t = 0 ∧ checkP isConP by_ = 0 := by
  unfold substP at h ⊢
  by_cases hc : checkP isConP t = 0
  · rw [if_neg (by simpa using hc)] at h ⊢
    by_cases hb : checkP isConP by_ = 0
    · rw [if_neg (by simpa using hb)] at h ⊢
      split at h
      · cases h
      · rename_i hi
        rw [if_neg hi]
        split at h
        · cases h
        · rename_i h3
          rw [if_neg h3]
          have := substW t i by_ hc hb
          exact ⟨this.1, by dsimp only; omega, hc, hb⟩
    · rw [if_pos (by simpa using hb)] at h
      exact absurd h hb
  · rw [if_pos (by simpa using hc)] at h
    exact absurd h hc
end Go.Proofs.Ytlbemgokilhdnaa.Ab
namespace Go.Proofs.Ytlbemgokilhdnaa.Ab
set_option linter.unusedVariables false
set_option linter.unusedSimpArgs false
attribute [local irreducible] AWP AOps AExit AThen ABlock ANoGoto FeetOk
set_option maxHeartbeats 16000000 in
set_option maxRecDepth 10000 in
theorem vH (t : Tree) (i : Int) (by_ : Tree) (hs : t.size ≤ 1000000) (hbs : by_.size ≤ 1000000) : ACalls Try.prog 113 [.imm t.iv, .imm (.lit (.int .i64 i)), .imm by_.iv] [] (.imm (.tup [(substP t i by_).1.iv, .lit (.int .i64 (substP t i by_).2)])) [] := by
  have c1 := dV t hs
  have c2 := dV by_ hbs
  obtain ⟨Q, hQ⟩ : ∃ Q, substP t i by_ = Q := ⟨_, rfl⟩
  rw [hQ]
  unfold substP at hQ
  by_cases hc : checkP isConP t = 0
  · rw [if_neg (by simpa using hc)] at hQ
    rw [hc] at c1
    by_cases hb : checkP isConP by_ = 0
    · rw [if_neg (by simpa using hb)] at hQ
      rw [hb] at c2
      obtain ⟨bw, bz, _⟩ := cD hb
      obtain ⟨pb, hpb⟩ := dU (dF bw)
      by_cases hi : i < 0
      · rw [if_pos hi] at hQ
        subst hQ
        rw [hpb] at c2 ⊢
        refine bR Try.func113 rfl rfl (nb rfl) rfl ?_
        repeat' (first | refine bG ?_ | (refine bJ ?_; first | refine aR tabOk rfl rfl rfl (nb rfl) rfl ?_ | refine aZ rfl rfl (nb rfl) ?_ | (refine bI rfl rfl rfl (nb rfl) rfl rfl rfl (fun hq => ?_) (fun hq => ?_) <;> (first | (simp only [sD, sE, sB, sC, sN, sM, sT, sF] at hq; try (exfalso; omega)) | skip))| refine bS rfl rfl (nb rfl) rfl rfl rfl rfl (c1) ?_ | refine bS rfl rfl (nb rfl) rfl rfl rfl rfl (c2) ?_ | refine cM 1001 (d := 4) rfl rfl rfl (nb rfl) rfl rfl rfl rfl rfl rfl rfl ?_ | refine cM 1004 (d := 5) rfl rfl rfl (nb rfl) rfl rfl rfl rfl rfl rfl rfl ?_ | refine aD rfl rfl rfl (nb rfl) rfl rfl (by omega) ?_ | refine bC rfl rfl rfl (nb rfl) rfl rfl rfl (by omega) (by omega) ?_ | refine bD rfl rfl rfl (nb rfl) rfl rfl rfl (by omega) (by omega) ?_ | refine bB tabOk rfl rfl rfl (nb rfl) rfl rfl rfl rfl rfl rfl rfl rfl rfl ?_ | refine aT tabOk rfl rfl (nb rfl) rfl ?_ | refine aN tabOk rfl rfl rfl (nb rfl) rfl rfl rfl rfl rfl rfl ?_ | refine aO tabOk rfl rfl rfl (nb rfl) rfl rfl rfl rfl ?_ | refine aK tabOk rfl rfl rfl rfl rfl rfl rfl rfl rfl rfl rfl ?_ | refine aP tabOk rfl rfl rfl (nb rfl) rfl rfl rfl rfl (by first | assumption | omega) ?_ | refine aH tabOk rfl rfl rfl (nb rfl) rfl rfl rfl rfl (by first | rfl | omega) (by first | omega | simp) ?_ | refine aB tabOk rfl rfl rfl (nb rfl) rfl rfl rfl (by assumption) ?_ | refine aB tabOk rfl rfl rfl (nb rfl) rfl rfl rfl (bM _ _ (by first | assumption | omega)) ?_ | refine aD rfl rfl rfl (nb rfl) rfl rfl (by omega) ?_ | ((fail_if_success (refine aE (b := true) rfl rfl rfl ?_)); (fail_if_success (refine aE (b := false) rfl rfl rfl ?_)); refine aQ rfl rfl rfl (fun hq => ?_) (fun hq => ?_) <;> first | subst hq | (first | (simp only [sD, sE, sB, sC, sN, sM, sT, sF] at hq; try (exfalso; omega)) | skip)) | fail) | (refine bQ ?_; first | refine bH ?_ | refine bN ?_ | refine aL ?_ | refine aX ?_ | refine bO ?_ | refine bF ?_ | refine bE ?_ | refine aA (b := true) rfl (fun _ => ?_) nTf | refine aA (b := false) rfl nFt (fun _ => ?_) | refine aY ?_ | refine aW ?_ | refine aU mixed (by kernel_rfl) ?_ | refine aC mixed (by kernel_rfl) ?_ | (refine aA rfl (fun hq => ?_) (fun hq => ?_) <;> first | subst hq | (first | (simp only [sD, sE, sB, sC, sN, sM, sT, sF] at hq; try (exfalso; omega)) | skip)) | fail) | (refine bK ?_; first | refine bT ?_ | refine aI ?_ | refine aM ?_ | fail) | (refine bA ?_; first | refine bP ?_ | refine aF ?_ | refine aG (by decide) ?_ | refine aJ ?_ | fail) | refine bL (aV (by kernel_rfl)) ?_ | fail)
        all_goals first
          | exact absurd rfl (by assumption)
          | (exfalso; omega)
          | (refine bV (by first | exact .inl rfl | exact .inr rfl) (bX rfl (aS rfl) (aS rfl)) rfl ?_; rfl)
      · rw [if_neg hi] at hQ
        obtain ⟨hw, hz, hf⟩ := cD hc
        have hv := fZ t hf
        have h3 := substW t i by_ hc hb
        have c3 := qH by_ hbs (.inr bw)
        obtain ⟨cw, _, hne⟩ := (vF (σ := Int × Int) (substV i by_.size by_) 133 (fun s => .lit (.int .i64 s.2)) (fun _ => .lit (.int .i64 i)) (fun s => .lit (.int .i64 s.1)) (fun _ => .lit (.int .i64 by_.size)) (fun _ => .ptr pb 0) substJ
          (fun n d s hJ h1 h2 h3 h4 => by
            have hf := kC i by_ bz n d s hJ
            obtain ⟨sz, e⟩ := s
            exact ⟨tP i by_.size by_ pb hpb hbs n d sz e (by omega) (by omega) (by omega) hJ.1 hJ.2.1 h1 h2 h3 h4, hf.2.1, dF hf.1⟩) t 0 (0, 0) hv hw (Int.le_refl _) (by omega) ⟨by decide, by decide, by decide, .inl rfl⟩)
        obtain ⟨pc, hpc⟩ := dU hne
        have c4 := vG _ h3.1 (by omega) 65536 (by omega) (by omega)
        have hlg := kB _ h3.1 65536 (by omega)
        rw [hpc] at cw c4
        rw [hpb] at c2 c3 ⊢
        have hJ4 := h3.2.1.2.2.2
        have hout : ∀ x y, Q = (x, y) → True := fun _ _ _ => trivial
        clear hc hb hw hf hv hne h3 hout bw
        generalize walkS (substV i by_.size by_) t 0 (0, 0) = W at *
        obtain ⟨W1, W2, W3⟩ := W
        dsimp only at *
        generalize largeP W1 65536 = LP at *
        by_cases h4 : W3 ≠ 0
        · rw [if_pos (.inl h4)] at hQ
          subst hQ
          have h5 : W3 = 3 := by omega
          subst h5
          refine bR Try.func113 rfl rfl (nb rfl) rfl ?_
          repeat' (first | refine bG ?_ | (refine bJ ?_; first | refine aR tabOk rfl rfl rfl (nb rfl) rfl ?_ | refine aZ rfl rfl (nb rfl) ?_ | (refine bI rfl rfl rfl (nb rfl) rfl rfl rfl (fun hq => ?_) (fun hq => ?_) <;> (first | (simp only [sD, sE, sB, sC, sN, sM, sT, sF] at hq; try (exfalso; omega)) | skip))| refine bS rfl rfl (nb rfl) rfl rfl rfl rfl (c1) ?_ | refine bS rfl rfl (nb rfl) rfl rfl rfl rfl (c2) ?_ | refine bS rfl rfl (nb rfl) rfl rfl rfl rfl (c3) ?_ | refine bS rfl rfl (nb rfl) rfl rfl rfl rfl (c4) ?_ | refine cM 1001 (d := 4) rfl rfl rfl (nb rfl) rfl rfl rfl rfl rfl rfl rfl ?_ | refine cM 1004 (d := 5) rfl rfl rfl (nb rfl) rfl rfl rfl rfl rfl rfl rfl ?_ | refine cN 1002 (d := 10) tabOk rfl rfl rfl (nb rfl) rfl rfl rfl rfl rfl rfl ?_ | refine cN 1000 (d := 11) tabOk rfl rfl rfl (nb rfl) rfl rfl rfl rfl rfl rfl ?_ | refine cN 1003 (d := 12) tabOk rfl rfl rfl (nb rfl) rfl rfl rfl rfl rfl rfl ?_ | refine cC rfl rfl (nb rfl) rfl rfl rfl rfl cw (by repeat' first | exact trivial | refine ⟨rfl, ?_⟩) rfl (by show ([1000, 1001, 1002, 1003, 1004] : List Nat).Nodup; decide) ?_ | refine aD rfl rfl rfl (nb rfl) rfl rfl (by omega) ?_ | refine bC rfl rfl rfl (nb rfl) rfl rfl rfl (by omega) (by omega) ?_ | refine bD rfl rfl rfl (nb rfl) rfl rfl rfl (by omega) (by omega) ?_ | refine bB tabOk rfl rfl rfl (nb rfl) rfl rfl rfl rfl rfl rfl rfl rfl rfl ?_ | refine aT tabOk rfl rfl (nb rfl) rfl ?_ | refine aN tabOk rfl rfl rfl (nb rfl) rfl rfl rfl rfl rfl rfl ?_ | refine aO tabOk rfl rfl rfl (nb rfl) rfl rfl rfl rfl ?_ | refine aK tabOk rfl rfl rfl rfl rfl rfl rfl rfl rfl rfl rfl ?_ | refine aP tabOk rfl rfl rfl (nb rfl) rfl rfl rfl rfl (by first | assumption | omega) ?_ | refine aH tabOk rfl rfl rfl (nb rfl) rfl rfl rfl rfl (by first | rfl | omega) (by first | omega | simp) ?_ | refine aB tabOk rfl rfl rfl (nb rfl) rfl rfl rfl (by assumption) ?_ | refine aB tabOk rfl rfl rfl (nb rfl) rfl rfl rfl (bM _ _ (by first | assumption | omega)) ?_ | refine aD rfl rfl rfl (nb rfl) rfl rfl (by omega) ?_ | ((fail_if_success (refine aE (b := true) rfl rfl rfl ?_)); (fail_if_success (refine aE (b := false) rfl rfl rfl ?_)); refine aQ rfl rfl rfl (fun hq => ?_) (fun hq => ?_) <;> first | subst hq | (first | (simp only [sD, sE, sB, sC, sN, sM, sT, sF] at hq; try (exfalso; omega)) | skip)) | fail) | (refine bQ ?_; first | refine bH ?_ | refine bN ?_ | refine aL ?_ | refine aX ?_ | refine bO ?_ | refine bF ?_ | refine bE ?_ | refine aA (b := true) rfl (fun _ => ?_) nTf | refine aA (b := false) rfl nFt (fun _ => ?_) | refine aY ?_ | refine aW ?_ | refine aU mixed (by kernel_rfl) ?_ | refine aC mixed (by kernel_rfl) ?_ | (refine aA rfl (fun hq => ?_) (fun hq => ?_) <;> first | subst hq | (first | (simp only [sD, sE, sB, sC, sN, sM, sT, sF] at hq; try (exfalso; omega)) | skip)) | fail) | (refine bK ?_; first | refine bT ?_ | refine aI ?_ | refine aM ?_ | fail) | (refine bA ?_; first | refine bP ?_ | refine aF ?_ | refine aG (by decide) ?_ | refine aJ ?_ | fail) | refine bL (aV (by kernel_rfl)) ?_ | fail)
          all_goals first
            | exact absurd rfl (by assumption)
            | (exfalso; omega)
            | (refine bV (by first | exact .inl rfl | exact .inr rfl) (bX rfl (aS rfl) (aS rfl)) rfl ?_; rfl)
        · have h5 : W3 = 0 := by omega
          subst h5
          by_cases h6 : W1.size > 65536
          · rw [if_pos (.inr h6)] at hQ
            subst hQ
            have h7 : LP > 65536 := hlg.2.2.2 (by omega)
            refine bR Try.func113 rfl rfl (nb rfl) rfl ?_
            repeat' (first | refine bG ?_ | (refine bJ ?_; first | refine aR tabOk rfl rfl rfl (nb rfl) rfl ?_ | refine aZ rfl rfl (nb rfl) ?_ | (refine bI rfl rfl rfl (nb rfl) rfl rfl rfl (fun hq => ?_) (fun hq => ?_) <;> (first | (simp only [sD, sE, sB, sC, sN, sM, sT, sF] at hq; try (exfalso; omega)) | skip))| refine bS rfl rfl (nb rfl) rfl rfl rfl rfl (c1) ?_ | refine bS rfl rfl (nb rfl) rfl rfl rfl rfl (c2) ?_ | refine bS rfl rfl (nb rfl) rfl rfl rfl rfl (c3) ?_ | refine bS rfl rfl (nb rfl) rfl rfl rfl rfl (c4) ?_ | refine cM 1001 (d := 4) rfl rfl rfl (nb rfl) rfl rfl rfl rfl rfl rfl rfl ?_ | refine cM 1004 (d := 5) rfl rfl rfl (nb rfl) rfl rfl rfl rfl rfl rfl rfl ?_ | refine cN 1002 (d := 10) tabOk rfl rfl rfl (nb rfl) rfl rfl rfl rfl rfl rfl ?_ | refine cN 1000 (d := 11) tabOk rfl rfl rfl (nb rfl) rfl rfl rfl rfl rfl rfl ?_ | refine cN 1003 (d := 12) tabOk rfl rfl rfl (nb rfl) rfl rfl rfl rfl rfl rfl ?_ | refine cC rfl rfl (nb rfl) rfl rfl rfl rfl cw (by repeat' first | exact trivial | refine ⟨rfl, ?_⟩) rfl (by show ([1000, 1001, 1002, 1003, 1004] : List Nat).Nodup; decide) ?_ | refine aD rfl rfl rfl (nb rfl) rfl rfl (by omega) ?_ | refine bC rfl rfl rfl (nb rfl) rfl rfl rfl (by omega) (by omega) ?_ | refine bD rfl rfl rfl (nb rfl) rfl rfl rfl (by omega) (by omega) ?_ | refine bB tabOk rfl rfl rfl (nb rfl) rfl rfl rfl rfl rfl rfl rfl rfl rfl ?_ | refine aT tabOk rfl rfl (nb rfl) rfl ?_ | refine aN tabOk rfl rfl rfl (nb rfl) rfl rfl rfl rfl rfl rfl ?_ | refine aO tabOk rfl rfl rfl (nb rfl) rfl rfl rfl rfl ?_ | refine aK tabOk rfl rfl rfl rfl rfl rfl rfl rfl rfl rfl rfl ?_ | refine aP tabOk rfl rfl rfl (nb rfl) rfl rfl rfl rfl (by first | assumption | omega) ?_ | refine aH tabOk rfl rfl rfl (nb rfl) rfl rfl rfl rfl (by first | rfl | omega) (by first | omega | simp) ?_ | refine aB tabOk rfl rfl rfl (nb rfl) rfl rfl rfl (by assumption) ?_ | refine aB tabOk rfl rfl rfl (nb rfl) rfl rfl rfl (bM _ _ (by first | assumption | omega)) ?_ | refine aD rfl rfl rfl (nb rfl) rfl rfl (by omega) ?_ | ((fail_if_success (refine aE (b := true) rfl rfl rfl ?_)); (fail_if_success (refine aE (b := false) rfl rfl rfl ?_)); refine aQ rfl rfl rfl (fun hq => ?_) (fun hq => ?_) <;> first | subst hq | (first | (simp only [sD, sE, sB, sC, sN, sM, sT, sF] at hq; try (exfalso; omega)) | skip)) | fail) | (refine bQ ?_; first | refine bH ?_ | refine bN ?_ | refine aL ?_ | refine aX ?_ | refine bO ?_ | refine bF ?_ | refine bE ?_ | refine aA (b := true) rfl (fun _ => ?_) nTf | refine aA (b := false) rfl nFt (fun _ => ?_) | refine aY ?_ | refine aW ?_ | refine aU mixed (by kernel_rfl) ?_ | refine aC mixed (by kernel_rfl) ?_ | (refine aA rfl (fun hq => ?_) (fun hq => ?_) <;> first | subst hq | (first | (simp only [sD, sE, sB, sC, sN, sM, sT, sF] at hq; try (exfalso; omega)) | skip)) | fail) | (refine bK ?_; first | refine bT ?_ | refine aI ?_ | refine aM ?_ | fail) | (refine bA ?_; first | refine bP ?_ | refine aF ?_ | refine aG (by decide) ?_ | refine aJ ?_ | fail) | refine bL (aV (by kernel_rfl)) ?_ | fail)
            all_goals first
              | exact absurd rfl (by assumption)
              | (exfalso; omega)
              | (refine bV (by first | exact .inl rfl | exact .inr rfl) (bX rfl (aS rfl) (aS rfl)) rfl ?_; rfl)
          · rw [if_neg (fun h => h.elim (fun h => h rfl) h6)] at hQ
            subst hQ
            have h7 : LP = W1.size := hlg.2.2.1 (by omega)
            dsimp only
            rw [hpc]
            refine bR Try.func113 rfl rfl (nb rfl) rfl ?_
            repeat' (first | refine bG ?_ | (refine bJ ?_; first | refine aR tabOk rfl rfl rfl (nb rfl) rfl ?_ | refine aZ rfl rfl (nb rfl) ?_ | (refine bI rfl rfl rfl (nb rfl) rfl rfl rfl (fun hq => ?_) (fun hq => ?_) <;> (first | (simp only [sD, sE, sB, sC, sN, sM, sT, sF] at hq; try (exfalso; omega)) | skip))| refine bS rfl rfl (nb rfl) rfl rfl rfl rfl (c1) ?_ | refine bS rfl rfl (nb rfl) rfl rfl rfl rfl (c2) ?_ | refine bS rfl rfl (nb rfl) rfl rfl rfl rfl (c3) ?_ | refine bS rfl rfl (nb rfl) rfl rfl rfl rfl (c4) ?_ | refine cM 1001 (d := 4) rfl rfl rfl (nb rfl) rfl rfl rfl rfl rfl rfl rfl ?_ | refine cM 1004 (d := 5) rfl rfl rfl (nb rfl) rfl rfl rfl rfl rfl rfl rfl ?_ | refine cN 1002 (d := 10) tabOk rfl rfl rfl (nb rfl) rfl rfl rfl rfl rfl rfl ?_ | refine cN 1000 (d := 11) tabOk rfl rfl rfl (nb rfl) rfl rfl rfl rfl rfl rfl ?_ | refine cN 1003 (d := 12) tabOk rfl rfl rfl (nb rfl) rfl rfl rfl rfl rfl rfl ?_ | refine cC rfl rfl (nb rfl) rfl rfl rfl rfl cw (by repeat' first | exact trivial | refine ⟨rfl, ?_⟩) rfl (by show ([1000, 1001, 1002, 1003, 1004] : List Nat).Nodup; decide) ?_ | refine aD rfl rfl rfl (nb rfl) rfl rfl (by omega) ?_ | refine bC rfl rfl rfl (nb rfl) rfl rfl rfl (by omega) (by omega) ?_ | refine bD rfl rfl rfl (nb rfl) rfl rfl rfl (by omega) (by omega) ?_ | refine bB tabOk rfl rfl rfl (nb rfl) rfl rfl rfl rfl rfl rfl rfl rfl rfl ?_ | refine aT tabOk rfl rfl (nb rfl) rfl ?_ | refine aN tabOk rfl rfl rfl (nb rfl) rfl rfl rfl rfl rfl rfl ?_ | refine aO tabOk rfl rfl rfl (nb rfl) rfl rfl rfl rfl ?_ | refine aK tabOk rfl rfl rfl rfl rfl rfl rfl rfl rfl rfl rfl ?_ | refine aP tabOk rfl rfl rfl (nb rfl) rfl rfl rfl rfl (by first | assumption | omega) ?_ | refine aH tabOk rfl rfl rfl (nb rfl) rfl rfl rfl rfl (by first | rfl | omega) (by first | omega | simp) ?_ | refine aB tabOk rfl rfl rfl (nb rfl) rfl rfl rfl (by assumption) ?_ | refine aB tabOk rfl rfl rfl (nb rfl) rfl rfl rfl (bM _ _ (by first | assumption | omega)) ?_ | refine aD rfl rfl rfl (nb rfl) rfl rfl (by omega) ?_ | ((fail_if_success (refine aE (b := true) rfl rfl rfl ?_)); (fail_if_success (refine aE (b := false) rfl rfl rfl ?_)); refine aQ rfl rfl rfl (fun hq => ?_) (fun hq => ?_) <;> first | subst hq | (first | (simp only [sD, sE, sB, sC, sN, sM, sT, sF] at hq; try (exfalso; omega)) | skip)) | fail) | (refine bQ ?_; first | refine bH ?_ | refine bN ?_ | refine aL ?_ | refine aX ?_ | refine bO ?_ | refine bF ?_ | refine bE ?_ | refine aA (b := true) rfl (fun _ => ?_) nTf | refine aA (b := false) rfl nFt (fun _ => ?_) | refine aY ?_ | refine aW ?_ | refine aU mixed (by kernel_rfl) ?_ | refine aC mixed (by kernel_rfl) ?_ | (refine aA rfl (fun hq => ?_) (fun hq => ?_) <;> first | subst hq | (first | (simp only [sD, sE, sB, sC, sN, sM, sT, sF] at hq; try (exfalso; omega)) | skip)) | fail) | (refine bK ?_; first | refine bT ?_ | refine aI ?_ | refine aM ?_ | fail) | (refine bA ?_; first | refine bP ?_ | refine aF ?_ | refine aG (by decide) ?_ | refine aJ ?_ | fail) | refine bL (aV (by kernel_rfl)) ?_ | fail)
            all_goals first
              | exact absurd rfl (by assumption)
              | (exfalso; omega)
              | (refine bV (by first | exact .inl rfl | exact .inr rfl) (bX rfl (aS rfl) (aS rfl)) rfl ?_; rfl)
    · rw [if_pos hb] at hQ
      subst hQ
      generalize checkP isConP by_ = C at *
      obtain ⟨y, hy, hy1⟩ : ∃ y, by_.iv = y ∧ (y = .lit (.pointer none) ∨ ∃ p, y = .ptr p 0) := by
        cases by_ with
        | nil => exact ⟨_, rfl, .inl rfl⟩
        | node k n a b ks => exact ⟨_, rfl, .inr ⟨_, by rw [Tree.iv]⟩⟩
      rw [hy] at c2 ⊢
      rcases hy1 with rfl | ⟨p, rfl⟩ <;>
      (refine bR Try.func113 rfl rfl (nb rfl) rfl ?_
       repeat' (first | refine bG ?_ | (refine bJ ?_; first | refine aR tabOk rfl rfl rfl (nb rfl) rfl ?_ | refine aZ rfl rfl (nb rfl) ?_ | (refine bI rfl rfl rfl (nb rfl) rfl rfl rfl (fun hq => ?_) (fun hq => ?_) <;> (first | (simp only [sD, sE, sB, sC, sN, sM, sT, sF] at hq; try (exfalso; omega)) | skip))| refine bS rfl rfl (nb rfl) rfl rfl rfl rfl (c1) ?_ | refine bS rfl rfl (nb rfl) rfl rfl rfl rfl (c2) ?_ | refine cM 1001 (d := 4) rfl rfl rfl (nb rfl) rfl rfl rfl rfl rfl rfl rfl ?_ | refine cM 1004 (d := 5) rfl rfl rfl (nb rfl) rfl rfl rfl rfl rfl rfl rfl ?_ | refine aD rfl rfl rfl (nb rfl) rfl rfl (by omega) ?_ | refine bC rfl rfl rfl (nb rfl) rfl rfl rfl (by omega) (by omega) ?_ | refine bD rfl rfl rfl (nb rfl) rfl rfl rfl (by omega) (by omega) ?_ | refine bB tabOk rfl rfl rfl (nb rfl) rfl rfl rfl rfl rfl rfl rfl rfl rfl ?_ | refine aT tabOk rfl rfl (nb rfl) rfl ?_ | refine aN tabOk rfl rfl rfl (nb rfl) rfl rfl rfl rfl rfl rfl ?_ | refine aO tabOk rfl rfl rfl (nb rfl) rfl rfl rfl rfl ?_ | refine aK tabOk rfl rfl rfl rfl rfl rfl rfl rfl rfl rfl rfl ?_ | refine aP tabOk rfl rfl rfl (nb rfl) rfl rfl rfl rfl (by first | assumption | omega) ?_ | refine aH tabOk rfl rfl rfl (nb rfl) rfl rfl rfl rfl (by first | rfl | omega) (by first | omega | simp) ?_ | refine aB tabOk rfl rfl rfl (nb rfl) rfl rfl rfl (by assumption) ?_ | refine aB tabOk rfl rfl rfl (nb rfl) rfl rfl rfl (bM _ _ (by first | assumption | omega)) ?_ | refine aD rfl rfl rfl (nb rfl) rfl rfl (by omega) ?_ | ((fail_if_success (refine aE (b := true) rfl rfl rfl ?_)); (fail_if_success (refine aE (b := false) rfl rfl rfl ?_)); refine aQ rfl rfl rfl (fun hq => ?_) (fun hq => ?_) <;> first | subst hq | (first | (simp only [sD, sE, sB, sC, sN, sM, sT, sF] at hq; try (exfalso; omega)) | skip)) | fail) | (refine bQ ?_; first | refine bH ?_ | refine bN ?_ | refine aL ?_ | refine aX ?_ | refine bO ?_ | refine bF ?_ | refine bE ?_ | refine aA (b := true) rfl (fun _ => ?_) nTf | refine aA (b := false) rfl nFt (fun _ => ?_) | refine aY ?_ | refine aW ?_ | refine aU mixed (by kernel_rfl) ?_ | refine aC mixed (by kernel_rfl) ?_ | (refine aA rfl (fun hq => ?_) (fun hq => ?_) <;> first | subst hq | (first | (simp only [sD, sE, sB, sC, sN, sM, sT, sF] at hq; try (exfalso; omega)) | skip)) | fail) | (refine bK ?_; first | refine bT ?_ | refine aI ?_ | refine aM ?_ | fail) | (refine bA ?_; first | refine bP ?_ | refine aF ?_ | refine aG (by decide) ?_ | refine aJ ?_ | fail) | refine bL (aV (by kernel_rfl)) ?_ | fail)
       all_goals first
         | exact absurd rfl (by assumption)
         | exact absurd (by assumption) hb
         | (exfalso; omega)
         | (refine bV (by first | exact .inl rfl | exact .inr rfl) (bX rfl (aS rfl) (aS rfl)) rfl ?_; rfl))
  · rw [if_pos hc] at hQ
    subst hQ
    generalize checkP isConP t = C at *
    obtain ⟨y, hy, hy1⟩ : ∃ y, by_.iv = y ∧ (y = .lit (.pointer none) ∨ ∃ p, y = .ptr p 0) := by
      cases by_ with
      | nil => exact ⟨_, rfl, .inl rfl⟩
      | node k n a b ks => exact ⟨_, rfl, .inr ⟨_, by rw [Tree.iv]⟩⟩
    rw [hy]
    rcases hy1 with rfl | ⟨p, rfl⟩ <;>
    (refine bR Try.func113 rfl rfl (nb rfl) rfl ?_
     repeat' (first | refine bG ?_ | (refine bJ ?_; first | refine aR tabOk rfl rfl rfl (nb rfl) rfl ?_ | refine aZ rfl rfl (nb rfl) ?_ | (refine bI rfl rfl rfl (nb rfl) rfl rfl rfl (fun hq => ?_) (fun hq => ?_) <;> (first | (simp only [sD, sE, sB, sC, sN, sM, sT, sF] at hq; try (exfalso; omega)) | skip))| refine bS rfl rfl (nb rfl) rfl rfl rfl rfl (c1) ?_ | refine cM 1001 (d := 4) rfl rfl rfl (nb rfl) rfl rfl rfl rfl rfl rfl rfl ?_ | refine cM 1004 (d := 5) rfl rfl rfl (nb rfl) rfl rfl rfl rfl rfl rfl rfl ?_ | refine aD rfl rfl rfl (nb rfl) rfl rfl (by omega) ?_ | refine bC rfl rfl rfl (nb rfl) rfl rfl rfl (by omega) (by omega) ?_ | refine bD rfl rfl rfl (nb rfl) rfl rfl rfl (by omega) (by omega) ?_ | refine bB tabOk rfl rfl rfl (nb rfl) rfl rfl rfl rfl rfl rfl rfl rfl rfl ?_ | refine aT tabOk rfl rfl (nb rfl) rfl ?_ | refine aN tabOk rfl rfl rfl (nb rfl) rfl rfl rfl rfl rfl rfl ?_ | refine aO tabOk rfl rfl rfl (nb rfl) rfl rfl rfl rfl ?_ | refine aK tabOk rfl rfl rfl rfl rfl rfl rfl rfl rfl rfl rfl ?_ | refine aP tabOk rfl rfl rfl (nb rfl) rfl rfl rfl rfl (by first | assumption | omega) ?_ | refine aH tabOk rfl rfl rfl (nb rfl) rfl rfl rfl rfl (by first | rfl | omega) (by first | omega | simp) ?_ | refine aB tabOk rfl rfl rfl (nb rfl) rfl rfl rfl (by assumption) ?_ | refine aB tabOk rfl rfl rfl (nb rfl) rfl rfl rfl (bM _ _ (by first | assumption | omega)) ?_ | refine aD rfl rfl rfl (nb rfl) rfl rfl (by omega) ?_ | ((fail_if_success (refine aE (b := true) rfl rfl rfl ?_)); (fail_if_success (refine aE (b := false) rfl rfl rfl ?_)); refine aQ rfl rfl rfl (fun hq => ?_) (fun hq => ?_) <;> first | subst hq | (first | (simp only [sD, sE, sB, sC, sN, sM, sT, sF] at hq; try (exfalso; omega)) | skip)) | fail) | (refine bQ ?_; first | refine bH ?_ | refine bN ?_ | refine aL ?_ | refine aX ?_ | refine bO ?_ | refine bF ?_ | refine bE ?_ | refine aA (b := true) rfl (fun _ => ?_) nTf | refine aA (b := false) rfl nFt (fun _ => ?_) | refine aY ?_ | refine aW ?_ | refine aU mixed (by kernel_rfl) ?_ | refine aC mixed (by kernel_rfl) ?_ | (refine aA rfl (fun hq => ?_) (fun hq => ?_) <;> first | subst hq | (first | (simp only [sD, sE, sB, sC, sN, sM, sT, sF] at hq; try (exfalso; omega)) | skip)) | fail) | (refine bK ?_; first | refine bT ?_ | refine aI ?_ | refine aM ?_ | fail) | (refine bA ?_; first | refine bP ?_ | refine aF ?_ | refine aG (by decide) ?_ | refine aJ ?_ | fail) | refine bL (aV (by kernel_rfl)) ?_ | fail)
     all_goals first
       | exact absurd rfl (by assumption)
       | exact absurd (by assumption) hc
       | (exfalso; omega)
       | (refine bV (by first | exact .inl rfl | exact .inr rfl) (bX rfl (aS rfl) (aS rfl)) rfl ?_; rfl))
end Go.Proofs.Ytlbemgokilhdnaa.Ab
namespace Go.Proofs.Ytlbemgokilhdnaa.Ab
set_option linter.unusedVariables false
set_option linter.unusedSimpArgs false
attribute [local irreducible] AWP AOps AExit AThen ABlock ANoGoto FeetOk
def sbareP (n : Int) (a b : ByteArray) (nm nu : Bool) : Bool := (eqB b emptyB && (nm || eqB a emptyB)) && ((nu && decide (n ≥ 0) && decide (n ≤ 8192)) || (n == 0))
set_option maxHeartbeats 4000000 in
set_option maxRecDepth 10000 in
theorem fQ (k n : Int) (a b : ByteArray) (kids : List Tree) (nm nu : Bool) : ACalls Try.prog 65 [.imm (Tree.iv (.node k n a b kids)), .imm (.lit (.bool nm)), .imm (.lit (.bool nu))] [] (.imm (.lit (.bool (sbareP n a b nm nu)))) [] := by
  refine bR Try.func65 rfl rfl (nb rfl) rfl ?_
  repeat' (first | refine bG ?_ | (refine bJ ?_; first | refine aR tabOk rfl rfl rfl (nb rfl) rfl ?_ | refine aZ rfl rfl (nb rfl) ?_ | (refine bI rfl rfl rfl (nb rfl) rfl rfl rfl (fun hq => ?_) (fun hq => ?_) <;> (first | (simp only [sD, sE, sB, sC, sN, sM, sT, sF] at hq; try (exfalso; omega)) | skip)) | refine aD rfl rfl rfl (nb rfl) rfl rfl (by omega) ?_ | refine bC rfl rfl rfl (nb rfl) rfl rfl rfl (by omega) (by omega) ?_ | refine bD rfl rfl rfl (nb rfl) rfl rfl rfl (by omega) (by omega) ?_ | refine bB tabOk rfl rfl rfl (nb rfl) rfl rfl rfl rfl rfl rfl rfl rfl rfl ?_ | refine aT tabOk rfl rfl (nb rfl) rfl ?_ | refine aN tabOk rfl rfl rfl (nb rfl) rfl rfl rfl rfl rfl rfl ?_ | refine aO tabOk rfl rfl rfl (nb rfl) rfl rfl rfl rfl ?_ | refine aK tabOk rfl rfl rfl rfl rfl rfl rfl rfl rfl rfl rfl ?_ | refine aP tabOk rfl rfl rfl (nb rfl) rfl rfl rfl rfl (by first | assumption | omega) ?_ | refine aH tabOk rfl rfl rfl (nb rfl) rfl rfl rfl rfl (by first | rfl | omega) (by first | omega | simp) ?_ | refine aB tabOk rfl rfl rfl (nb rfl) rfl rfl rfl (by assumption) ?_ | refine aB tabOk rfl rfl rfl (nb rfl) rfl rfl rfl (bM _ _ (by first | assumption | omega)) ?_ | refine aD rfl rfl rfl (nb rfl) rfl rfl (by omega) ?_ | ((fail_if_success (refine aE (b := true) rfl rfl rfl ?_)); (fail_if_success (refine aE (b := false) rfl rfl rfl ?_)); refine aQ rfl rfl rfl (fun hq => ?_) (fun hq => ?_) <;> first | subst hq | (first | (simp only [sD, sE, sB, sC, sN, sM, sT, sF] at hq; try (exfalso; omega)) | skip)) | fail) | (refine bQ ?_; first | refine bH ?_ | refine bN ?_ | refine aL ?_ | refine aX ?_ | refine bO ?_ | refine bF ?_ | refine bE ?_ | refine aA (b := true) rfl (fun _ => ?_) nTf | refine aA (b := false) rfl nFt (fun _ => ?_) | refine aY ?_ | refine aW ?_ | refine aU mixed (by kernel_rfl) ?_ | refine aC mixed (by kernel_rfl) ?_ | (refine aA rfl (fun hq => ?_) (fun hq => ?_) <;> first | subst hq | (first | (simp only [sD, sE, sB, sC, sN, sM, sT, sF] at hq; try (exfalso; omega)) | skip)) | fail) | (refine bK ?_; first | refine bT ?_ | refine aI ?_ | refine aM ?_ | fail) | (refine bA ?_; first | refine bP ?_ | refine aF ?_ | refine aG (by decide) ?_ | refine aJ ?_ | fail) | refine bL (aV (by kernel_rfl)) ?_ | fail)
  all_goals (refine bV (by first | exact .inl rfl | exact .inr rfl) (bU rfl (aS rfl)) rfl ?_; refine cE ?_; first | (simp_all [sbareP, eqB, emptyB]; done) | (simp_all [sbareP, eqB, emptyB]; omega))
def sig1 : List Tree → Bool
  | [c] => checkP isConP c == 0
  | _ => false
mutual
def isSigP : Tree → Bool
  | .nil => false
  | .node k n a b kids => sbareP n a b false false && (if k = 160 ∨ k = 161 then sig1 kids else if k = 162 then sfieldPs kids && risingP kids else false)
def sfieldPs : List Tree → Bool
  | [] => true
  | .nil :: _ => false
  | .node k n a b ks :: ts => (k == 163 && sbareP n a b true false && labelP a && sigOne ks) && sfieldPs ts
def sigOne : List Tree → Bool
  | [c] => isSigP c
  | _ => false
end
def okSField : Tree → Bool
  | .nil => false
  | .node k n a b ks => k == 163 && sbareP n a b true false && labelP a && sigOne ks
theorem dX (l : List Tree) : sfieldPs l = l.all okSField := by
  induction l with
  | nil => simp [sfieldPs]
  | cons t ts ih => cases t <;> simp [sfieldPs, okSField, ih]
theorem fR {l : List Tree} (h : l.length ≠ 1) : sigOne l = false := by
  match l, h with
  | [], _ => simp [sigOne]
  | [x], h => simp at h
  | x :: y :: r, _ => simp [sigOne]
theorem kP {l : List Tree} (h : l.length ≠ 1) : sig1 l = false := by
  match l, h with
  | [], _ => simp [sig1]
  | [x], h => simp at h
  | x :: y :: r, _ => simp [sig1]
set_option maxHeartbeats 8000000 in
set_option maxRecDepth 10000 in
theorem oU (k n : Int) (a b : ByteArray) (kids : List Tree) (h : Tree.wholes kids = true) (hl : kids.length < 1000000000)
    (hc : ∀ t', t'.size < (Tree.node k n a b kids).size → t'.whole = true → ACalls Try.prog 35 [.imm t'.iv] [] (.imm (.lit (.bool (isSigP t')))) []) :
    ACalls Try.prog 66 [.imm (Tree.iv (.node k n a b kids))] [] (.imm (.lit (.bool (sfieldPs kids && risingP kids)))) [] := by
  refine bR Try.func66 rfl rfl (nb rfl) rfl ?_
  repeat' (first | refine bG ?_ | (refine bJ ?_; first | refine aR tabOk rfl rfl rfl (nb rfl) rfl ?_ | refine aZ rfl rfl (nb rfl) ?_ | (refine bI rfl rfl rfl (nb rfl) rfl rfl rfl (fun hq => ?_) (fun hq => ?_) <;> (first | (simp only [sD, sE, sB, sC, sN, sM, sT, sF] at hq; try (exfalso; omega)) | skip)) | refine aD rfl rfl rfl (nb rfl) rfl rfl (by omega) ?_ | refine bC rfl rfl rfl (nb rfl) rfl rfl rfl (by omega) (by omega) ?_ | refine bD rfl rfl rfl (nb rfl) rfl rfl rfl (by omega) (by omega) ?_ | refine bB tabOk rfl rfl rfl (nb rfl) rfl rfl rfl rfl rfl rfl rfl rfl rfl ?_ | refine aT tabOk rfl rfl (nb rfl) rfl ?_ | refine aN tabOk rfl rfl rfl (nb rfl) rfl rfl rfl rfl rfl rfl ?_ | refine aO tabOk rfl rfl rfl (nb rfl) rfl rfl rfl rfl ?_ | refine aK tabOk rfl rfl rfl rfl rfl rfl rfl rfl rfl rfl rfl ?_ | refine aP tabOk rfl rfl rfl (nb rfl) rfl rfl rfl rfl (by first | assumption | omega) ?_ | refine aH tabOk rfl rfl rfl (nb rfl) rfl rfl rfl rfl (by first | rfl | omega) (by first | omega | simp) ?_ | refine aB tabOk rfl rfl rfl (nb rfl) rfl rfl rfl (by assumption) ?_ | refine aB tabOk rfl rfl rfl (nb rfl) rfl rfl rfl (bM _ _ (by first | assumption | omega)) ?_ | refine aD rfl rfl rfl (nb rfl) rfl rfl (by omega) ?_ | ((fail_if_success (refine aE (b := true) rfl rfl rfl ?_)); (fail_if_success (refine aE (b := false) rfl rfl rfl ?_)); refine aQ rfl rfl rfl (fun hq => ?_) (fun hq => ?_) <;> first | subst hq | (first | (simp only [sD, sE, sB, sC, sN, sM, sT, sF] at hq; try (exfalso; omega)) | skip)) | fail) | (refine bQ ?_; first | refine bH ?_ | refine bN ?_ | refine aL ?_ | refine aX ?_ | refine bO ?_ | refine bF ?_ | refine bE ?_ | refine aA (b := true) rfl (fun _ => ?_) nTf | refine aA (b := false) rfl nFt (fun _ => ?_) | refine aY ?_ | refine aW ?_ | refine aU mixed (by kernel_rfl) ?_ | refine aC mixed (by kernel_rfl) ?_ | (refine aA rfl (fun hq => ?_) (fun hq => ?_) <;> first | subst hq | (first | (simp only [sD, sE, sB, sC, sN, sM, sT, sF] at hq; try (exfalso; omega)) | skip)) | fail) | (refine bK ?_; first | refine bT ?_ | refine aI ?_ | refine aM ?_ | fail) | (refine bA ?_; first | refine bP ?_ | refine aF ?_ | refine aG (by decide) ?_ | refine aJ ?_ | fail) | refine bL (aV (by kernel_rfl)) ?_ | fail)
  refine cJ (ι := {j : Nat // j ≤ kids.length ∧ (∀ i (hi : i < kids.length), i < j → okSField kids[i] = true) ∧ ∀ i (hi : i + 1 < kids.length), i + 1 < j → ltB (kids[i]'(by omega)).name kids[i + 1].name = true}) (fun j => S.f ⟨[(10, .imm (.lit (.int .i64 (j.1 : Int)))), (9, .imm (.lit (.int .i64 (kids.length : Int)))), (8, .imm (.sl false kids.length (Tree.ivs kids))), (0, .imm (Tree.iv (.node k n a b kids)))], []⟩) (fun j => kids.length - j.1) ⟨0, Nat.zero_le _, fun i _ hi => absurd hi (Nat.not_lt_zero _), fun i _ hi => absurd hi (Nat.not_lt_zero _)⟩ (cB (by repeat' first | exact trivial | refine ⟨rfl, ?_⟩) (by repeat' first | exact trivial | refine ⟨rfl, ?_⟩)) ?_
  rintro ⟨j, hj, hok, hri⟩
  dsimp only
  by_cases hlt : j < kids.length
  · obtain ⟨k1, n1, a1, b1, ks1, e1, hget, hw1⟩ := eB h hlt
    have hsz : ∀ i (hi : i < ks1.length), ks1[i].size < (Tree.node k n a b kids).size := fun i hi => by
      have h1 := cH (k := k1) (n := n1) (a := a1) (b := b1) (List.getElem_mem hi)
      have h2 := cH (k := k) (n := n) (a := a) (b := b) (List.getElem_mem hlt)
      rw [e1] at h2
      omega
    have hbad : okSField (Tree.node k1 n1 a1 b1 ks1) = false → (sfieldPs kids && risingP kids) = false := fun hb => by
      rw [dX, eG hlt (by rw [e1]; exact hb)]; rfl
    have hgood : okSField (Tree.node k1 n1 a1 b1 ks1) = true → ∀ i (hi : i < kids.length), i < j + 1 → okSField kids[i] = true := fun hb i hi hij => by
      by_cases e : i = j
      · subst e; rw [e1]; exact hb
      · exact hok i hi (by omega)
    by_cases hj0 : j = 0
    · have hrn : ∀ i (hi : i + 1 < kids.length), i + 1 < j + 1 → ltB (kids[i]'(by omega)).name kids[i + 1].name = true := fun i hi hij => by omega
      repeat' (first | refine bG ?_ | (refine bJ ?_; first | refine aR tabOk rfl rfl rfl (nb rfl) rfl ?_ | refine aZ rfl rfl (nb rfl) ?_ | (refine bI rfl rfl rfl (nb rfl) rfl rfl rfl (fun hq => ?_) (fun hq => ?_) <;> (first | (simp only [sD, sE, sB, sC, sN, sM, sT, sF] at hq; try (exfalso; omega)) | skip))| (refine bW rfl rfl rfl (nb rfl) rfl rfl rfl (fQ _ _ _ _ _ _ _) (fun hq => ?_) (fun hq => ?_)) | (refine bW rfl rfl rfl (nb rfl) rfl rfl rfl (hc _ (hsz _ _) (bY hw1 (List.getElem_mem _))) (fun hq => ?_) (fun hq => ?_)) | refine aD rfl rfl rfl (nb rfl) rfl rfl (by omega) ?_ | refine bC rfl rfl rfl (nb rfl) rfl rfl rfl (by omega) (by omega) ?_ | refine bD rfl rfl rfl (nb rfl) rfl rfl rfl (by omega) (by omega) ?_ | refine bB tabOk rfl rfl rfl (nb rfl) rfl rfl rfl rfl rfl rfl rfl rfl rfl ?_ | refine aT tabOk rfl rfl (nb rfl) rfl ?_ | refine aN tabOk rfl rfl rfl (nb rfl) rfl rfl rfl rfl rfl rfl ?_ | refine aO tabOk rfl rfl rfl (nb rfl) rfl rfl rfl rfl ?_ | refine aK tabOk rfl rfl rfl rfl rfl rfl rfl rfl rfl rfl rfl ?_ | refine aP tabOk rfl rfl rfl (nb rfl) rfl rfl rfl rfl (by first | assumption | omega) ?_ | refine aH tabOk rfl rfl rfl (nb rfl) rfl rfl rfl rfl (by first | rfl | omega) (by first | omega | simp) ?_ | refine aB tabOk rfl rfl rfl (nb rfl) rfl rfl rfl (by assumption) ?_ | refine aB tabOk rfl rfl rfl (nb rfl) rfl rfl rfl (bM _ _ (by first | assumption | omega)) ?_ | refine aD rfl rfl rfl (nb rfl) rfl rfl (by omega) ?_ | ((fail_if_success (refine aE (b := true) rfl rfl rfl ?_)); (fail_if_success (refine aE (b := false) rfl rfl rfl ?_)); refine aQ rfl rfl rfl (fun hq => ?_) (fun hq => ?_) <;> first | subst hq | (first | (simp only [sD, sE, sB, sC, sN, sM, sT, sF] at hq; try (exfalso; omega)) | skip)) | fail) | (refine bQ ?_; first | refine bH ?_ | refine bN ?_ | refine aL ?_ | refine aX ?_ | refine bO ?_ | refine bF ?_ | refine bE ?_ | refine aA (b := true) rfl (fun _ => ?_) nTf | refine aA (b := false) rfl nFt (fun _ => ?_) | refine aY ?_ | refine aW ?_ | refine aU mixed (by kernel_rfl) ?_ | refine aC mixed (by kernel_rfl) ?_ | (refine aA rfl (fun hq => ?_) (fun hq => ?_) <;> first | subst hq | (first | (simp only [sD, sE, sB, sC, sN, sM, sT, sF] at hq; try (exfalso; omega)) | skip)) | fail) | (refine bK ?_; first | refine bT ?_ | refine aI ?_ | refine aM ?_ | fail) | (refine bA ?_; first | refine bP ?_ | refine aF ?_ | refine aG (by decide) ?_ | refine aJ ?_ | fail) | refine bL (aV (by kernel_rfl)) ?_ | fail)
      all_goals first
        | (refine bV (by first | exact .inl rfl | exact .inr rfl) (bU rfl (aS rfl)) rfl ?_; refine cE (hbad ?_).symm; by_cases h1 : ks1.length = 1 <;> first | (obtain ⟨c, rfl⟩ := cY h1; simp_all [okSField, sigOne, labelP]; done) | (obtain ⟨c, rfl⟩ := cY h1; simp_all [okSField, sigOne, labelP]; omega) | (exfalso; omega) | (simp_all [okSField, fR]; done))
        | (exfalso; omega)
        | exact ⟨⟨j + 1, hlt, hgood (by obtain ⟨c, rfl⟩ := cY (l := ks1) (by omega); first | (simp_all [okSField, sigOne, labelP]; done) | (simp_all [okSField, sigOne, labelP]; omega)), hrn⟩, (by show kids.length - (j + 1) < kids.length - j; omega), (cB (by repeat' first | exact trivial | refine ⟨rfl, ?_⟩) (by repeat' first | exact trivial | refine ⟨rfl, ?_⟩))⟩
    · obtain ⟨k0, n0, a0, b0, ks0, e0, hget0, hw0⟩ := eB h (j := ((j : Int) - 1).toNat) (by omega)
      have e2 : ∀ i, i + 1 = j → ∀ (hi : i + 1 < kids.length), ltB (kids[i]'(by omega)).name kids[i + 1].name = Op.bytesLess a0.toList a1.toList := fun i hij hi => by
        have hi2 : ((j : Int) - 1).toNat = i := by omega
        have x0 : kids[i]'(by omega) = Tree.node k0 n0 a0 b0 ks0 := by simpa only [hi2] using e0
        have x1 : kids[i + 1] = Tree.node k1 n1 a1 b1 ks1 := by simpa only [hij] using e1
        rw [x0, x1]; rfl
      have hrbad : Op.bytesLess a0.toList a1.toList = false → (sfieldPs kids && risingP kids) = false := fun hb => by
        rw [Bool.and_eq_false_iff]
        right
        rw [Bool.eq_false_iff]
        intro hr
        rw [cS] at hr
        have := hr (j - 1) (by omega)
        rw [e2 (j - 1) (by omega)] at this
        rw [hb] at this; cases this
      have hrn : Op.bytesLess a0.toList a1.toList = true → ∀ i (hi : i + 1 < kids.length), i + 1 < j + 1 → ltB (kids[i]'(by omega)).name kids[i + 1].name = true := fun hb i hi hij => by
        by_cases e : i + 1 = j
        · rw [e2 i e]; exact hb
        · exact hri i hi (by omega)
      clear e2
      repeat' (first | refine bG ?_ | (refine bJ ?_; first | refine aR tabOk rfl rfl rfl (nb rfl) rfl ?_ | refine aZ rfl rfl (nb rfl) ?_ | (refine bI rfl rfl rfl (nb rfl) rfl rfl rfl (fun hq => ?_) (fun hq => ?_) <;> (first | (simp only [sD, sE, sB, sC, sN, sM, sT, sF] at hq; try (exfalso; omega)) | skip))| (refine bW rfl rfl rfl (nb rfl) rfl rfl rfl (fQ _ _ _ _ _ _ _) (fun hq => ?_) (fun hq => ?_)) | (refine bW rfl rfl rfl (nb rfl) rfl rfl rfl (hc _ (hsz _ _) (bY hw1 (List.getElem_mem _))) (fun hq => ?_) (fun hq => ?_)) | refine aD rfl rfl rfl (nb rfl) rfl rfl (by omega) ?_ | refine bC rfl rfl rfl (nb rfl) rfl rfl rfl (by omega) (by omega) ?_ | refine bD rfl rfl rfl (nb rfl) rfl rfl rfl (by omega) (by omega) ?_ | refine bB tabOk rfl rfl rfl (nb rfl) rfl rfl rfl rfl rfl rfl rfl rfl rfl ?_ | refine aT tabOk rfl rfl (nb rfl) rfl ?_ | refine aN tabOk rfl rfl rfl (nb rfl) rfl rfl rfl rfl rfl rfl ?_ | refine aO tabOk rfl rfl rfl (nb rfl) rfl rfl rfl rfl ?_ | refine aK tabOk rfl rfl rfl rfl rfl rfl rfl rfl rfl rfl rfl ?_ | refine aP tabOk rfl rfl rfl (nb rfl) rfl rfl rfl rfl (by first | assumption | omega) ?_ | refine aH tabOk rfl rfl rfl (nb rfl) rfl rfl rfl rfl (by first | rfl | omega) (by first | omega | simp) ?_ | refine aB tabOk rfl rfl rfl (nb rfl) rfl rfl rfl (by assumption) ?_ | refine aB tabOk rfl rfl rfl (nb rfl) rfl rfl rfl (bM _ _ (by first | assumption | omega)) ?_ | refine aD rfl rfl rfl (nb rfl) rfl rfl (by omega) ?_ | ((fail_if_success (refine aE (b := true) rfl rfl rfl ?_)); (fail_if_success (refine aE (b := false) rfl rfl rfl ?_)); refine aQ rfl rfl rfl (fun hq => ?_) (fun hq => ?_) <;> first | subst hq | (first | (simp only [sD, sE, sB, sC, sN, sM, sT, sF] at hq; try (exfalso; omega)) | skip)) | fail) | (refine bQ ?_; first | refine bH ?_ | refine bN ?_ | refine aL ?_ | refine aX ?_ | refine bO ?_ | refine bF ?_ | refine bE ?_ | refine aA (b := true) rfl (fun _ => ?_) nTf | refine aA (b := false) rfl nFt (fun _ => ?_) | refine aY ?_ | refine aW ?_ | refine aU mixed (by kernel_rfl) ?_ | refine aC mixed (by kernel_rfl) ?_ | (refine aA rfl (fun hq => ?_) (fun hq => ?_) <;> first | subst hq | (first | (simp only [sD, sE, sB, sC, sN, sM, sT, sF] at hq; try (exfalso; omega)) | skip)) | fail) | (refine bK ?_; first | refine bT ?_ | refine aI ?_ | refine aM ?_ | fail) | (refine bA ?_; first | refine bP ?_ | refine aF ?_ | refine aG (by decide) ?_ | refine aJ ?_ | fail) | refine bL (aV (by kernel_rfl)) ?_ | fail)
      all_goals first
        | (refine bV (by first | exact .inl rfl | exact .inr rfl) (bU rfl (aS rfl)) rfl ?_; refine cE (hbad ?_).symm; by_cases h1 : ks1.length = 1 <;> first | (obtain ⟨c, rfl⟩ := cY h1; simp_all [okSField, sigOne, labelP]; done) | (obtain ⟨c, rfl⟩ := cY h1; simp_all [okSField, sigOne, labelP]; omega) | (exfalso; omega) | (simp_all [okSField, fR]; done))
        | (refine bV (by first | exact .inl rfl | exact .inr rfl) (bU rfl (aS rfl)) rfl ?_; refine cE (hrbad ?_).symm; simp_all; done)
        | (exfalso; omega)
        | exact ⟨⟨j + 1, hlt, hgood (by obtain ⟨c, rfl⟩ := cY (l := ks1) (by omega); first | (simp_all [okSField, sigOne, labelP]; done) | (simp_all [okSField, sigOne, labelP]; omega)), hrn (by simp_all)⟩, (by show kids.length - (j + 1) < kids.length - j; omega), (cB (by repeat' first | exact trivial | refine ⟨rfl, ?_⟩) (by repeat' first | exact trivial | refine ⟨rfl, ?_⟩))⟩
  · repeat' (first | refine bG ?_ | (refine bJ ?_; first | refine aR tabOk rfl rfl rfl (nb rfl) rfl ?_ | refine aZ rfl rfl (nb rfl) ?_ | (refine bI rfl rfl rfl (nb rfl) rfl rfl rfl (fun hq => ?_) (fun hq => ?_) <;> (first | (simp only [sD, sE, sB, sC, sN, sM, sT, sF] at hq; try (exfalso; omega)) | skip)) | refine aD rfl rfl rfl (nb rfl) rfl rfl (by omega) ?_ | refine bC rfl rfl rfl (nb rfl) rfl rfl rfl (by omega) (by omega) ?_ | refine bD rfl rfl rfl (nb rfl) rfl rfl rfl (by omega) (by omega) ?_ | refine bB tabOk rfl rfl rfl (nb rfl) rfl rfl rfl rfl rfl rfl rfl rfl rfl ?_ | refine aT tabOk rfl rfl (nb rfl) rfl ?_ | refine aN tabOk rfl rfl rfl (nb rfl) rfl rfl rfl rfl rfl rfl ?_ | refine aO tabOk rfl rfl rfl (nb rfl) rfl rfl rfl rfl ?_ | refine aK tabOk rfl rfl rfl rfl rfl rfl rfl rfl rfl rfl rfl ?_ | refine aP tabOk rfl rfl rfl (nb rfl) rfl rfl rfl rfl (by first | assumption | omega) ?_ | refine aH tabOk rfl rfl rfl (nb rfl) rfl rfl rfl rfl (by first | rfl | omega) (by first | omega | simp) ?_ | refine aB tabOk rfl rfl rfl (nb rfl) rfl rfl rfl (by assumption) ?_ | refine aB tabOk rfl rfl rfl (nb rfl) rfl rfl rfl (bM _ _ (by first | assumption | omega)) ?_ | refine aD rfl rfl rfl (nb rfl) rfl rfl (by omega) ?_ | ((fail_if_success (refine aE (b := true) rfl rfl rfl ?_)); (fail_if_success (refine aE (b := false) rfl rfl rfl ?_)); refine aQ rfl rfl rfl (fun hq => ?_) (fun hq => ?_) <;> first | subst hq | (first | (simp only [sD, sE, sB, sC, sN, sM, sT, sF] at hq; try (exfalso; omega)) | skip)) | fail) | (refine bQ ?_; first | refine bH ?_ | refine bN ?_ | refine aL ?_ | refine aX ?_ | refine bO ?_ | refine bF ?_ | refine bE ?_ | refine aA (b := true) rfl (fun _ => ?_) nTf | refine aA (b := false) rfl nFt (fun _ => ?_) | refine aY ?_ | refine aW ?_ | refine aU mixed (by kernel_rfl) ?_ | refine aC mixed (by kernel_rfl) ?_ | (refine aA rfl (fun hq => ?_) (fun hq => ?_) <;> first | subst hq | (first | (simp only [sD, sE, sB, sC, sN, sM, sT, sF] at hq; try (exfalso; omega)) | skip)) | fail) | (refine bK ?_; first | refine bT ?_ | refine aI ?_ | refine aM ?_ | fail) | (refine bA ?_; first | refine bP ?_ | refine aF ?_ | refine aG (by decide) ?_ | refine aJ ?_ | fail) | refine bL (aV (by kernel_rfl)) ?_ | fail)
    all_goals (refine bV (by first | exact .inl rfl | exact .inr rfl) (bU rfl (aS rfl)) rfl ?_; refine cE ?_; rw [dX, dT fun i hi => hok i hi (by omega), Bool.true_and]; symm; rw [cS]; exact fun i hi => hri i hi (by omega))
end Go.Proofs.Ytlbemgokilhdnaa.Ab
namespace Go.Proofs.Ytlbemgokilhdnaa.Ab
set_option linter.unusedVariables false
set_option linter.unusedSimpArgs false
attribute [local irreducible] AWP AOps AExit AThen ABlock ANoGoto FeetOk
set_option maxHeartbeats 8000000 in
set_option maxRecDepth 10000 in
theorem jL (t : Tree) : t.whole = true → t.size ≤ 1000000 → ACalls Try.prog 35 [.imm t.iv] [] (.imm (.lit (.bool (isSigP t)))) [] := by
  induction t using Tree.sind with
  | h t ih =>
    intro h hs
    obtain ⟨k, n, a, b, kids, rfl⟩ := cL h
    have hl : kids.length < 1000000000 := by have := cA kids h; simp only [Tree.size] at hs; omega
    have hc : ∀ t', t'.size < (Tree.node k n a b kids).size → t'.whole = true → ACalls Try.prog 35 [.imm t'.iv] [] (.imm (.lit (.bool (isSigP t')))) [] := fun t' h1 h2 => ih t' h1 h2 (by omega)
    have c2 := oU k n a b kids h hl hc
    have hk : ∀ i (hi : i < kids.length), kids[i].size ≤ 1000000 := fun i hi => by
      have := cH (k := k) (n := n) (a := a) (b := b) (List.getElem_mem hi)
      omega
    clear ih hc
    obtain ⟨q, hq0⟩ : ∃ q, isSigP (.node k n a b kids) = q := ⟨_, rfl⟩
    rw [hq0]
    rw [isSigP] at hq0
    have c1 := fQ k n a b kids false false
    generalize sbareP n a b false false = B at *
    generalize (sfieldPs kids && risingP kids) = F at *
    refine bR Try.func35 rfl rfl (nb rfl) rfl ?_
    repeat' (first | refine bG ?_ | (refine bJ ?_; first | refine aR tabOk rfl rfl rfl (nb rfl) rfl ?_ | refine aZ rfl rfl (nb rfl) ?_ | (refine bI rfl rfl rfl (nb rfl) rfl rfl rfl (fun hq => ?_) (fun hq => ?_) <;> (first | (simp only [sD, sE, sB, sC, sN, sM, sT, sF] at hq; try (exfalso; omega)) | skip))| (refine bW rfl rfl rfl (nb rfl) rfl rfl rfl (c1) (fun hq => ?_) (fun hq => ?_)) | refine bS rfl rfl (nb rfl) rfl rfl rfl rfl (c2) ?_ | refine bS rfl rfl (nb rfl) rfl rfl rfl rfl (dV kids[0] (hk 0 (by omega))) ?_ | refine bS rfl rfl (nb rfl) rfl rfl rfl rfl (dV _ (hk _ _)) ?_ | refine aD rfl rfl rfl (nb rfl) rfl rfl (by omega) ?_ | refine bC rfl rfl rfl (nb rfl) rfl rfl rfl (by omega) (by omega) ?_ | refine bD rfl rfl rfl (nb rfl) rfl rfl rfl (by omega) (by omega) ?_ | refine bB tabOk rfl rfl rfl (nb rfl) rfl rfl rfl rfl rfl rfl rfl rfl rfl ?_ | refine aT tabOk rfl rfl (nb rfl) rfl ?_ | refine aN tabOk rfl rfl rfl (nb rfl) rfl rfl rfl rfl rfl rfl ?_ | refine aO tabOk rfl rfl rfl (nb rfl) rfl rfl rfl rfl ?_ | refine aK tabOk rfl rfl rfl rfl rfl rfl rfl rfl rfl rfl rfl ?_ | refine aP tabOk rfl rfl rfl (nb rfl) rfl rfl rfl rfl (by first | assumption | omega) ?_ | refine aH tabOk rfl rfl rfl (nb rfl) rfl rfl rfl rfl (by first | rfl | omega) (by first | omega | simp) ?_ | refine aB tabOk rfl rfl rfl (nb rfl) rfl rfl rfl (by assumption) ?_ | refine aB tabOk rfl rfl rfl (nb rfl) rfl rfl rfl (bM _ _ (by first | assumption | omega)) ?_ | refine aD rfl rfl rfl (nb rfl) rfl rfl (by omega) ?_ | ((fail_if_success (refine aE (b := true) rfl rfl rfl ?_)); (fail_if_success (refine aE (b := false) rfl rfl rfl ?_)); refine aQ rfl rfl rfl (fun hq => ?_) (fun hq => ?_) <;> first | subst hq | (first | (simp only [sD, sE, sB, sC, sN, sM, sT, sF] at hq; try (exfalso; omega)) | skip)) | fail) | (refine bQ ?_; first | refine bH ?_ | refine bN ?_ | refine aL ?_ | refine aX ?_ | refine bO ?_ | refine bF ?_ | refine bE ?_ | refine aA (b := true) rfl (fun _ => ?_) nTf | refine aA (b := false) rfl nFt (fun _ => ?_) | refine aY ?_ | refine aW ?_ | refine aU mixed (by kernel_rfl) ?_ | refine aC mixed (by kernel_rfl) ?_ | (refine aA rfl (fun hq => ?_) (fun hq => ?_) <;> first | subst hq | (first | (simp only [sD, sE, sB, sC, sN, sM, sT, sF] at hq; try (exfalso; omega)) | skip)) | fail) | (refine bK ?_; first | refine bT ?_ | refine aI ?_ | refine aM ?_ | fail) | (refine bA ?_; first | refine bP ?_ | refine aF ?_ | refine aG (by decide) ?_ | refine aJ ?_ | fail) | refine bL (aV (by kernel_rfl)) ?_ | fail)
    all_goals (refine bV (by first | exact .inl rfl | exact .inr rfl) (bU rfl (aS rfl)) rfl ?_; refine cE ?_; subst hq0; by_cases h1 : kids.length = 1 <;> first | (obtain ⟨c, rfl⟩ := cY h1; simp_all [sig1]; done) | (obtain ⟨c, rfl⟩ := cY h1; simp_all [sig1]; omega) | (simp_all [kP]; done) | (simp_all [kP]; omega))
def isExP : Tree → Bool
  | .node k n a b [c] => (k == 164) && sbareP n a b false true && isSigP c
  | _ => false
def isFunP : Tree → Bool
  | .node k n a b [x, y] => (k == 165) && sbareP n a b false true && (isSigP x && isExP y)
  | _ => false
theorem lL {k n : Int} {a b : ByteArray} {l : List Tree} (h : l.length ≠ 1) : isExP (.node k n a b l) = false := by
  match l, h with
  | [], _ => simp [isExP]
  | [x], h => simp at h
  | x :: y :: r, _ => simp [isExP]
theorem mW {k n : Int} {a b : ByteArray} {l : List Tree} (h : l.length ≠ 2) : isFunP (.node k n a b l) = false := by
  match l, h with
  | [], _ => simp [isFunP]
  | [x], _ => simp [isFunP]
  | [x, y], h => simp at h
  | x :: y :: z :: r, _ => simp [isFunP]
set_option maxHeartbeats 8000000 in
set_option maxRecDepth 10000 in
theorem oV (t : Tree) (h : t.whole = true) (hs : t.size ≤ 1000000) : ACalls Try.prog 36 [.imm t.iv] [] (.imm (.lit (.bool (isExP t)))) [] := by
  obtain ⟨k, n, a, b, kids, rfl⟩ := cL h
  have c1 := fQ k n a b kids false true
  by_cases h1 : kids.length = 1
  · obtain ⟨c, rfl⟩ := cY h1
    have hz := cH (k := k) (n := n) (a := a) (b := b) (kids := [c]) (t := c) (by simp)
    have c2 := jL c (bY h (by simp)) (by omega)
    rw [isExP]
    generalize sbareP n a b false true = B at *
    generalize isSigP c = F at *
    refine bR Try.func36 rfl rfl (nb rfl) rfl ?_
    repeat' (first | refine bG ?_ | (refine bJ ?_; first | refine aR tabOk rfl rfl rfl (nb rfl) rfl ?_ | refine aZ rfl rfl (nb rfl) ?_ | (refine bI rfl rfl rfl (nb rfl) rfl rfl rfl (fun hq => ?_) (fun hq => ?_) <;> (first | (simp only [sD, sE, sB, sC, sN, sM, sT, sF] at hq; try (exfalso; omega)) | skip))| (refine bW rfl rfl rfl (nb rfl) rfl rfl rfl (c1) (fun hq => ?_) (fun hq => ?_)) | (refine bW rfl rfl rfl (nb rfl) rfl rfl rfl (c2) (fun hq => ?_) (fun hq => ?_)) | refine aD rfl rfl rfl (nb rfl) rfl rfl (by omega) ?_ | refine bC rfl rfl rfl (nb rfl) rfl rfl rfl (by omega) (by omega) ?_ | refine bD rfl rfl rfl (nb rfl) rfl rfl rfl (by omega) (by omega) ?_ | refine bB tabOk rfl rfl rfl (nb rfl) rfl rfl rfl rfl rfl rfl rfl rfl rfl ?_ | refine aT tabOk rfl rfl (nb rfl) rfl ?_ | refine aN tabOk rfl rfl rfl (nb rfl) rfl rfl rfl rfl rfl rfl ?_ | refine aO tabOk rfl rfl rfl (nb rfl) rfl rfl rfl rfl ?_ | refine aK tabOk rfl rfl rfl rfl rfl rfl rfl rfl rfl rfl rfl ?_ | refine aP tabOk rfl rfl rfl (nb rfl) rfl rfl rfl rfl (by first | assumption | omega) ?_ | refine aH tabOk rfl rfl rfl (nb rfl) rfl rfl rfl rfl (by first | rfl | omega) (by first | omega | simp) ?_ | refine aB tabOk rfl rfl rfl (nb rfl) rfl rfl rfl (by assumption) ?_ | refine aB tabOk rfl rfl rfl (nb rfl) rfl rfl rfl (bM _ _ (by first | assumption | omega)) ?_ | refine aD rfl rfl rfl (nb rfl) rfl rfl (by omega) ?_ | ((fail_if_success (refine aE (b := true) rfl rfl rfl ?_)); (fail_if_success (refine aE (b := false) rfl rfl rfl ?_)); refine aQ rfl rfl rfl (fun hq => ?_) (fun hq => ?_) <;> first | subst hq | (first | (simp only [sD, sE, sB, sC, sN, sM, sT, sF] at hq; try (exfalso; omega)) | skip)) | fail) | (refine bQ ?_; first | refine bH ?_ | refine bN ?_ | refine aL ?_ | refine aX ?_ | refine bO ?_ | refine bF ?_ | refine bE ?_ | refine aA (b := true) rfl (fun _ => ?_) nTf | refine aA (b := false) rfl nFt (fun _ => ?_) | refine aY ?_ | refine aW ?_ | refine aU mixed (by kernel_rfl) ?_ | refine aC mixed (by kernel_rfl) ?_ | (refine aA rfl (fun hq => ?_) (fun hq => ?_) <;> first | subst hq | (first | (simp only [sD, sE, sB, sC, sN, sM, sT, sF] at hq; try (exfalso; omega)) | skip)) | fail) | (refine bK ?_; first | refine bT ?_ | refine aI ?_ | refine aM ?_ | fail) | (refine bA ?_; first | refine bP ?_ | refine aF ?_ | refine aG (by decide) ?_ | refine aJ ?_ | fail) | refine bL (aV (by kernel_rfl)) ?_ | fail)
    all_goals (refine bV (by first | exact .inl rfl | exact .inr rfl) (bU rfl (aS rfl)) rfl ?_; refine cE ?_; simp_all)
  · rw [lL h1]
    refine bR Try.func36 rfl rfl (nb rfl) rfl ?_
    repeat' (first | refine bG ?_ | (refine bJ ?_; first | refine aR tabOk rfl rfl rfl (nb rfl) rfl ?_ | refine aZ rfl rfl (nb rfl) ?_ | (refine bI rfl rfl rfl (nb rfl) rfl rfl rfl (fun hq => ?_) (fun hq => ?_) <;> (first | (simp only [sD, sE, sB, sC, sN, sM, sT, sF] at hq; try (exfalso; omega)) | skip))| (refine bW rfl rfl rfl (nb rfl) rfl rfl rfl (c1) (fun hq => ?_) (fun hq => ?_)) | refine aD rfl rfl rfl (nb rfl) rfl rfl (by omega) ?_ | refine bC rfl rfl rfl (nb rfl) rfl rfl rfl (by omega) (by omega) ?_ | refine bD rfl rfl rfl (nb rfl) rfl rfl rfl (by omega) (by omega) ?_ | refine bB tabOk rfl rfl rfl (nb rfl) rfl rfl rfl rfl rfl rfl rfl rfl rfl ?_ | refine aT tabOk rfl rfl (nb rfl) rfl ?_ | refine aN tabOk rfl rfl rfl (nb rfl) rfl rfl rfl rfl rfl rfl ?_ | refine aO tabOk rfl rfl rfl (nb rfl) rfl rfl rfl rfl ?_ | refine aK tabOk rfl rfl rfl rfl rfl rfl rfl rfl rfl rfl rfl ?_ | refine aP tabOk rfl rfl rfl (nb rfl) rfl rfl rfl rfl (by first | assumption | omega) ?_ | refine aH tabOk rfl rfl rfl (nb rfl) rfl rfl rfl rfl (by first | rfl | omega) (by first | omega | simp) ?_ | refine aB tabOk rfl rfl rfl (nb rfl) rfl rfl rfl (by assumption) ?_ | refine aB tabOk rfl rfl rfl (nb rfl) rfl rfl rfl (bM _ _ (by first | assumption | omega)) ?_ | refine aD rfl rfl rfl (nb rfl) rfl rfl (by omega) ?_ | ((fail_if_success (refine aE (b := true) rfl rfl rfl ?_)); (fail_if_success (refine aE (b := false) rfl rfl rfl ?_)); refine aQ rfl rfl rfl (fun hq => ?_) (fun hq => ?_) <;> first | subst hq | (first | (simp only [sD, sE, sB, sC, sN, sM, sT, sF] at hq; try (exfalso; omega)) | skip)) | fail) | (refine bQ ?_; first | refine bH ?_ | refine bN ?_ | refine aL ?_ | refine aX ?_ | refine bO ?_ | refine bF ?_ | refine bE ?_ | refine aA (b := true) rfl (fun _ => ?_) nTf | refine aA (b := false) rfl nFt (fun _ => ?_) | refine aY ?_ | refine aW ?_ | refine aU mixed (by kernel_rfl) ?_ | refine aC mixed (by kernel_rfl) ?_ | (refine aA rfl (fun hq => ?_) (fun hq => ?_) <;> first | subst hq | (first | (simp only [sD, sE, sB, sC, sN, sM, sT, sF] at hq; try (exfalso; omega)) | skip)) | fail) | (refine bK ?_; first | refine bT ?_ | refine aI ?_ | refine aM ?_ | fail) | (refine bA ?_; first | refine bP ?_ | refine aF ?_ | refine aG (by decide) ?_ | refine aJ ?_ | fail) | refine bL (aV (by kernel_rfl)) ?_ | fail)
    all_goals first
      | (exfalso; omega)
      | exact bZ (by first | exact .inl rfl | exact .inr rfl) (bU rfl (aS rfl)) rfl
set_option maxHeartbeats 8000000 in
set_option maxRecDepth 10000 in
theorem sA (t : Tree) (h : t.whole = true) (hs : t.size ≤ 1000000) : ACalls Try.prog 37 [.imm t.iv] [] (.imm (.lit (.bool (isFunP t)))) [] := by
  obtain ⟨k, n, a, b, kids, rfl⟩ := cL h
  have c1 := fQ k n a b kids false true
  by_cases h1 : kids.length = 2
  · obtain ⟨x, y, rfl⟩ := two h1
    have hz := cH (k := k) (n := n) (a := a) (b := b) (kids := [x, y]) (t := x) (by simp)
    have hz2 := cH (k := k) (n := n) (a := a) (b := b) (kids := [x, y]) (t := y) (by simp)
    have c2 := jL x (bY h (by simp)) (by omega)
    have c3 := oV y (bY h (by simp)) (by omega)
    rw [isFunP]
    generalize sbareP n a b false true = B at *
    generalize isSigP x = F at *
    generalize isExP y = G at *
    refine bR Try.func37 rfl rfl (nb rfl) rfl ?_
    repeat' (first | refine bG ?_ | (refine bJ ?_; first | refine aR tabOk rfl rfl rfl (nb rfl) rfl ?_ | refine aZ rfl rfl (nb rfl) ?_ | (refine bI rfl rfl rfl (nb rfl) rfl rfl rfl (fun hq => ?_) (fun hq => ?_) <;> (first | (simp only [sD, sE, sB, sC, sN, sM, sT, sF] at hq; try (exfalso; omega)) | skip))| (refine bW rfl rfl rfl (nb rfl) rfl rfl rfl (c1) (fun hq => ?_) (fun hq => ?_)) | (refine bW rfl rfl rfl (nb rfl) rfl rfl rfl (c2) (fun hq => ?_) (fun hq => ?_)) | (refine bW rfl rfl rfl (nb rfl) rfl rfl rfl (c3) (fun hq => ?_) (fun hq => ?_)) | refine aD rfl rfl rfl (nb rfl) rfl rfl (by omega) ?_ | refine bC rfl rfl rfl (nb rfl) rfl rfl rfl (by omega) (by omega) ?_ | refine bD rfl rfl rfl (nb rfl) rfl rfl rfl (by omega) (by omega) ?_ | refine bB tabOk rfl rfl rfl (nb rfl) rfl rfl rfl rfl rfl rfl rfl rfl rfl ?_ | refine aT tabOk rfl rfl (nb rfl) rfl ?_ | refine aN tabOk rfl rfl rfl (nb rfl) rfl rfl rfl rfl rfl rfl ?_ | refine aO tabOk rfl rfl rfl (nb rfl) rfl rfl rfl rfl ?_ | refine aK tabOk rfl rfl rfl rfl rfl rfl rfl rfl rfl rfl rfl ?_ | refine aP tabOk rfl rfl rfl (nb rfl) rfl rfl rfl rfl (by first | assumption | omega) ?_ | refine aH tabOk rfl rfl rfl (nb rfl) rfl rfl rfl rfl (by first | rfl | omega) (by first | omega | simp) ?_ | refine aB tabOk rfl rfl rfl (nb rfl) rfl rfl rfl (by assumption) ?_ | refine aB tabOk rfl rfl rfl (nb rfl) rfl rfl rfl (bM _ _ (by first | assumption | omega)) ?_ | refine aD rfl rfl rfl (nb rfl) rfl rfl (by omega) ?_ | ((fail_if_success (refine aE (b := true) rfl rfl rfl ?_)); (fail_if_success (refine aE (b := false) rfl rfl rfl ?_)); refine aQ rfl rfl rfl (fun hq => ?_) (fun hq => ?_) <;> first | subst hq | (first | (simp only [sD, sE, sB, sC, sN, sM, sT, sF] at hq; try (exfalso; omega)) | skip)) | fail) | (refine bQ ?_; first | refine bH ?_ | refine bN ?_ | refine aL ?_ | refine aX ?_ | refine bO ?_ | refine bF ?_ | refine bE ?_ | refine aA (b := true) rfl (fun _ => ?_) nTf | refine aA (b := false) rfl nFt (fun _ => ?_) | refine aY ?_ | refine aW ?_ | refine aU mixed (by kernel_rfl) ?_ | refine aC mixed (by kernel_rfl) ?_ | (refine aA rfl (fun hq => ?_) (fun hq => ?_) <;> first | subst hq | (first | (simp only [sD, sE, sB, sC, sN, sM, sT, sF] at hq; try (exfalso; omega)) | skip)) | fail) | (refine bK ?_; first | refine bT ?_ | refine aI ?_ | refine aM ?_ | fail) | (refine bA ?_; first | refine bP ?_ | refine aF ?_ | refine aG (by decide) ?_ | refine aJ ?_ | fail) | refine bL (aV (by kernel_rfl)) ?_ | fail)
    all_goals (refine bV (by first | exact .inl rfl | exact .inr rfl) (bU rfl (aS rfl)) rfl ?_; refine cE ?_; simp_all)
  · rw [mW h1]
    refine bR Try.func37 rfl rfl (nb rfl) rfl ?_
    repeat' (first | refine bG ?_ | (refine bJ ?_; first | refine aR tabOk rfl rfl rfl (nb rfl) rfl ?_ | refine aZ rfl rfl (nb rfl) ?_ | (refine bI rfl rfl rfl (nb rfl) rfl rfl rfl (fun hq => ?_) (fun hq => ?_) <;> (first | (simp only [sD, sE, sB, sC, sN, sM, sT, sF] at hq; try (exfalso; omega)) | skip))| (refine bW rfl rfl rfl (nb rfl) rfl rfl rfl (c1) (fun hq => ?_) (fun hq => ?_)) | refine aD rfl rfl rfl (nb rfl) rfl rfl (by omega) ?_ | refine bC rfl rfl rfl (nb rfl) rfl rfl rfl (by omega) (by omega) ?_ | refine bD rfl rfl rfl (nb rfl) rfl rfl rfl (by omega) (by omega) ?_ | refine bB tabOk rfl rfl rfl (nb rfl) rfl rfl rfl rfl rfl rfl rfl rfl rfl ?_ | refine aT tabOk rfl rfl (nb rfl) rfl ?_ | refine aN tabOk rfl rfl rfl (nb rfl) rfl rfl rfl rfl rfl rfl ?_ | refine aO tabOk rfl rfl rfl (nb rfl) rfl rfl rfl rfl ?_ | refine aK tabOk rfl rfl rfl rfl rfl rfl rfl rfl rfl rfl rfl ?_ | refine aP tabOk rfl rfl rfl (nb rfl) rfl rfl rfl rfl (by first | assumption | omega) ?_ | refine aH tabOk rfl rfl rfl (nb rfl) rfl rfl rfl rfl (by first | rfl | omega) (by first | omega | simp) ?_ | refine aB tabOk rfl rfl rfl (nb rfl) rfl rfl rfl (by assumption) ?_ | refine aB tabOk rfl rfl rfl (nb rfl) rfl rfl rfl (bM _ _ (by first | assumption | omega)) ?_ | refine aD rfl rfl rfl (nb rfl) rfl rfl (by omega) ?_ | ((fail_if_success (refine aE (b := true) rfl rfl rfl ?_)); (fail_if_success (refine aE (b := false) rfl rfl rfl ?_)); refine aQ rfl rfl rfl (fun hq => ?_) (fun hq => ?_) <;> first | subst hq | (first | (simp only [sD, sE, sB, sC, sN, sM, sT, sF] at hq; try (exfalso; omega)) | skip)) | fail) | (refine bQ ?_; first | refine bH ?_ | refine bN ?_ | refine aL ?_ | refine aX ?_ | refine bO ?_ | refine bF ?_ | refine bE ?_ | refine aA (b := true) rfl (fun _ => ?_) nTf | refine aA (b := false) rfl nFt (fun _ => ?_) | refine aY ?_ | refine aW ?_ | refine aU mixed (by kernel_rfl) ?_ | refine aC mixed (by kernel_rfl) ?_ | (refine aA rfl (fun hq => ?_) (fun hq => ?_) <;> first | subst hq | (first | (simp only [sD, sE, sB, sC, sN, sM, sT, sF] at hq; try (exfalso; omega)) | skip)) | fail) | (refine bK ?_; first | refine bT ?_ | refine aI ?_ | refine aM ?_ | fail) | (refine bA ?_; first | refine bP ?_ | refine aF ?_ | refine aG (by decide) ?_ | refine aJ ?_ | fail) | refine bL (aV (by kernel_rfl)) ?_ | fail)
    all_goals first
      | (exfalso; omega)
      | exact bZ (by first | exact .inl rfl | exact .inr rfl) (bU rfl (aS rfl)) rfl
set_option maxHeartbeats 4000000 in
set_option maxRecDepth 10000 in
theorem lM (t : Tree) : ∀ l : Int, t.size ≤ 1000000 → -1000000 ≤ l → l ≤ 1000000 → ACalls Try.prog 34 [.imm t.iv, .obj 1000 0] [(1000, .cells [.imm (.lit (.int .i64 l))])] (.imm (.lit (.int .i64 (wholeP t l).1))) [(1000, .cells [.imm (.lit (.int .i64 (wholeP t l).2))])] := by
  induction t using Tree.ind with
  | h1 =>
    intro l hs h1 h2
    refine eA Try.func34 rfl rfl (nb rfl) rfl rfl ?_
    repeat' (first | refine bG ?_ | (refine bJ ?_; first | refine aR tabOk rfl rfl rfl (nb rfl) rfl ?_ | refine aZ rfl rfl (nb rfl) ?_ | (refine bI rfl rfl rfl (nb rfl) rfl rfl rfl (fun hq => ?_) (fun hq => ?_) <;> (first | (simp only [sD, sE, sB, sC, sN, sM, sT, sF] at hq; try (exfalso; omega)) | skip)) | refine aD rfl rfl rfl (nb rfl) rfl rfl (by omega) ?_ | refine bC rfl rfl rfl (nb rfl) rfl rfl rfl (by omega) (by omega) ?_ | refine bD rfl rfl rfl (nb rfl) rfl rfl rfl (by omega) (by omega) ?_ | refine bB tabOk rfl rfl rfl (nb rfl) rfl rfl rfl rfl rfl rfl rfl rfl rfl ?_ | refine aT tabOk rfl rfl (nb rfl) rfl ?_ | refine aN tabOk rfl rfl rfl (nb rfl) rfl rfl rfl rfl rfl rfl ?_ | refine aO tabOk rfl rfl rfl (nb rfl) rfl rfl rfl rfl ?_ | refine aK tabOk rfl rfl rfl rfl rfl rfl rfl rfl rfl rfl rfl ?_ | refine aP tabOk rfl rfl rfl (nb rfl) rfl rfl rfl rfl (by first | assumption | omega) ?_ | refine aH tabOk rfl rfl rfl (nb rfl) rfl rfl rfl rfl (by first | rfl | omega) (by first | omega | simp) ?_ | refine aB tabOk rfl rfl rfl (nb rfl) rfl rfl rfl (by assumption) ?_ | refine aB tabOk rfl rfl rfl (nb rfl) rfl rfl rfl (bM _ _ (by first | assumption | omega)) ?_ | refine aD rfl rfl rfl (nb rfl) rfl rfl (by omega) ?_ | ((fail_if_success (refine aE (b := true) rfl rfl rfl ?_)); (fail_if_success (refine aE (b := false) rfl rfl rfl ?_)); refine aQ rfl rfl rfl (fun hq => ?_) (fun hq => ?_) <;> first | subst hq | (first | (simp only [sD, sE, sB, sC, sN, sM, sT, sF] at hq; try (exfalso; omega)) | skip)) | fail) | (refine bQ ?_; first | refine bH ?_ | refine bN ?_ | refine aL ?_ | refine aX ?_ | refine bO ?_ | refine bF ?_ | refine bE ?_ | refine aA (b := true) rfl (fun _ => ?_) nTf | refine aA (b := false) rfl nFt (fun _ => ?_) | refine aY ?_ | refine aW ?_ | refine aU mixed (by kernel_rfl) ?_ | refine aC mixed (by kernel_rfl) ?_ | (refine aA rfl (fun hq => ?_) (fun hq => ?_) <;> first | subst hq | (first | (simp only [sD, sE, sB, sC, sN, sM, sT, sF] at hq; try (exfalso; omega)) | skip)) | fail) | (refine bK ?_; first | refine bT ?_ | refine aI ?_ | refine aM ?_ | fail) | (refine bA ?_; first | refine bP ?_ | refine aF ?_ | refine aG (by decide) ?_ | refine aJ ?_ | fail) | refine bL (aV (by kernel_rfl)) ?_ | fail)
    all_goals (refine dB (cs := []) (by first | exact .inl rfl | exact .inr rfl) (bU rfl (aS rfl)) rfl rfl rfl ?_; rfl)
  | h2 k n a b kids ih =>
    intro l hs h1 h2
    refine eA Try.func34 rfl rfl (nb rfl) rfl rfl ?_
    repeat' (first | refine bG ?_ | (refine bJ ?_; first | refine aR tabOk rfl rfl rfl (nb rfl) rfl ?_ | refine aZ rfl rfl (nb rfl) ?_ | (refine bI rfl rfl rfl (nb rfl) rfl rfl rfl (fun hq => ?_) (fun hq => ?_) <;> (first | (simp only [sD, sE, sB, sC, sN, sM, sT, sF] at hq; try (exfalso; omega)) | skip)) | refine aD rfl rfl rfl (nb rfl) rfl rfl (by omega) ?_ | refine bC rfl rfl rfl (nb rfl) rfl rfl rfl (by omega) (by omega) ?_ | refine bD rfl rfl rfl (nb rfl) rfl rfl rfl (by omega) (by omega) ?_ | refine bB tabOk rfl rfl rfl (nb rfl) rfl rfl rfl rfl rfl rfl rfl rfl rfl ?_ | refine aT tabOk rfl rfl (nb rfl) rfl ?_ | refine aN tabOk rfl rfl rfl (nb rfl) rfl rfl rfl rfl rfl rfl ?_ | refine aO tabOk rfl rfl rfl (nb rfl) rfl rfl rfl rfl ?_ | refine aK tabOk rfl rfl rfl rfl rfl rfl rfl rfl rfl rfl rfl ?_ | refine aP tabOk rfl rfl rfl (nb rfl) rfl rfl rfl rfl (by first | assumption | omega) ?_ | refine aH tabOk rfl rfl rfl (nb rfl) rfl rfl rfl rfl (by first | rfl | omega) (by first | omega | simp) ?_ | refine aB tabOk rfl rfl rfl (nb rfl) rfl rfl rfl (by assumption) ?_ | refine aB tabOk rfl rfl rfl (nb rfl) rfl rfl rfl (bM _ _ (by first | assumption | omega)) ?_ | refine aD rfl rfl rfl (nb rfl) rfl rfl (by omega) ?_ | ((fail_if_success (refine aE (b := true) rfl rfl rfl ?_)); (fail_if_success (refine aE (b := false) rfl rfl rfl ?_)); refine aQ rfl rfl rfl (fun hq => ?_) (fun hq => ?_) <;> first | subst hq | (first | (simp only [sD, sE, sB, sC, sN, sM, sT, sF] at hq; try (exfalso; omega)) | skip)) | fail) | (refine bQ ?_; first | refine bH ?_ | refine bN ?_ | refine aL ?_ | refine aX ?_ | refine bO ?_ | refine bF ?_ | refine bE ?_ | refine aA (b := true) rfl (fun _ => ?_) nTf | refine aA (b := false) rfl nFt (fun _ => ?_) | refine aY ?_ | refine aW ?_ | refine aU mixed (by kernel_rfl) ?_ | refine aC mixed (by kernel_rfl) ?_ | (refine aA rfl (fun hq => ?_) (fun hq => ?_) <;> first | subst hq | (first | (simp only [sD, sE, sB, sC, sN, sM, sT, sF] at hq; try (exfalso; omega)) | skip)) | fail) | (refine bK ?_; first | refine bT ?_ | refine aI ?_ | refine aM ?_ | fail) | (refine bA ?_; first | refine bP ?_ | refine aF ?_ | refine aG (by decide) ?_ | refine aJ ?_ | fail) | refine bL (aV (by kernel_rfl)) ?_ | fail)
    · rw [show wholeP (.node k n a b kids) l = (3, l - 1) from if_pos (by omega)]
      refine dB (cs := []) (by first | exact .inl rfl | exact .inr rfl) (bU rfl (aS rfl)) rfl rfl rfl ?_; rfl
    · rename_i hq
      have e0 : wholeP (.node k n a b kids) l = wholePs kids (l - 1) := if_neg (by omega)
      rw [e0]
      have hlen : kids.length < 9223372036854775807 ∨ kids.length ≥ 9223372036854775807 := by omega
      refine cJ (ι := {j : Nat // j ≤ kids.length ∧ (wholePs (kids.take j) (l - 1)).1 = 0}) (fun j => S.f ⟨[(24, .imm (.lit (.int .i64 (j.1 : Int)))), (23, .imm (.lit (.int .i64 (kids.length : Int)))), (22, .imm (.sl false kids.length (Tree.ivs kids))), (1, .obj 1000 0)], [(1000, .cells [.imm (.lit (.int .i64 (wholePs (kids.take j.1) (l - 1)).2))])]⟩) (fun j => kids.length - j.1) ⟨0, Nat.zero_le _, by rw [List.take_zero, wholePs]⟩ (cB (by repeat' first | exact trivial | refine ⟨rfl, ?_⟩) (by repeat' first | exact trivial | refine ⟨rfl, ?_⟩)) ?_
      rintro ⟨j, hj, hok⟩
      dsimp only
      by_cases hlt : j < kids.length
      · have hm := List.getElem_mem hlt
        have hsz := cH (k := k) (n := n) (a := a) (b := b) hm
        have hbd := fG (kids.take j) (l - 1) (by omega) hok
        have hjl : j < 9223372036854775807 := by
          by_cases hj0 : j < 9223372036854775807
          · exact hj0
          · exfalso
            have := eN (kids.take j) (l - 1) (by omega) hok
            rw [List.length_take] at this
            omega
        repeat' (first | refine bG ?_ | (refine bJ ?_; first | refine aR tabOk rfl rfl rfl (nb rfl) rfl ?_ | refine aZ rfl rfl (nb rfl) ?_ | (refine bI rfl rfl rfl (nb rfl) rfl rfl rfl (fun hq => ?_) (fun hq => ?_) <;> (first | (simp only [sD, sE, sB, sC, sN, sM, sT, sF] at hq; try (exfalso; omega)) | skip))| refine cC rfl rfl (nb rfl) rfl rfl rfl rfl (ih _ hm (wholePs (kids.take j) (l - 1)).2 (by omega) (by omega) (by omega)) (by exact ⟨rfl, trivial⟩) rfl (by simp) ?_ | refine aD rfl rfl rfl (nb rfl) rfl rfl (by omega) ?_ | refine bC rfl rfl rfl (nb rfl) rfl rfl rfl (by omega) (by omega) ?_ | refine bD rfl rfl rfl (nb rfl) rfl rfl rfl (by omega) (by omega) ?_ | refine bB tabOk rfl rfl rfl (nb rfl) rfl rfl rfl rfl rfl rfl rfl rfl rfl ?_ | refine aT tabOk rfl rfl (nb rfl) rfl ?_ | refine aN tabOk rfl rfl rfl (nb rfl) rfl rfl rfl rfl rfl rfl ?_ | refine aO tabOk rfl rfl rfl (nb rfl) rfl rfl rfl rfl ?_ | refine aK tabOk rfl rfl rfl rfl rfl rfl rfl rfl rfl rfl rfl ?_ | refine aP tabOk rfl rfl rfl (nb rfl) rfl rfl rfl rfl (by first | assumption | omega) ?_ | refine aH tabOk rfl rfl rfl (nb rfl) rfl rfl rfl rfl (by first | rfl | omega) (by first | omega | simp) ?_ | refine aB tabOk rfl rfl rfl (nb rfl) rfl rfl rfl (by assumption) ?_ | refine aB tabOk rfl rfl rfl (nb rfl) rfl rfl rfl (bM _ _ (by first | assumption | omega)) ?_ | refine aD rfl rfl rfl (nb rfl) rfl rfl (by omega) ?_ | ((fail_if_success (refine aE (b := true) rfl rfl rfl ?_)); (fail_if_success (refine aE (b := false) rfl rfl rfl ?_)); refine aQ rfl rfl rfl (fun hq => ?_) (fun hq => ?_) <;> first | subst hq | (first | (simp only [sD, sE, sB, sC, sN, sM, sT, sF] at hq; try (exfalso; omega)) | skip)) | fail) | (refine bQ ?_; first | refine bH ?_ | refine bN ?_ | refine aL ?_ | refine aX ?_ | refine bO ?_ | refine bF ?_ | refine bE ?_ | refine aA (b := true) rfl (fun _ => ?_) nTf | refine aA (b := false) rfl nFt (fun _ => ?_) | refine aY ?_ | refine aW ?_ | refine aU mixed (by kernel_rfl) ?_ | refine aC mixed (by kernel_rfl) ?_ | (refine aA rfl (fun hq => ?_) (fun hq => ?_) <;> first | subst hq | (first | (simp only [sD, sE, sB, sC, sN, sM, sT, sF] at hq; try (exfalso; omega)) | skip)) | fail) | (refine bK ?_; first | refine bT ?_ | refine aI ?_ | refine aM ?_ | fail) | (refine bA ?_; first | refine bP ?_ | refine aF ?_ | refine aG (by decide) ?_ | refine aJ ?_ | fail) | refine bL (aV (by kernel_rfl)) ?_ | fail)
        all_goals first
          | (have hq : (wholeP kids[j] (wholePs (kids.take j) (l - 1)).2).1 ≠ 0 := by assumption
             have hst := fX hlt hok hq; rw [hst]; refine dB (cs := []) (by first | exact .inl rfl | exact .inr rfl) (bU rfl (aS rfl)) rfl rfl rfl ?_; rfl; done)
          | (have hq : (wholeP kids[j] (wholePs (kids.take j) (l - 1)).2).1 = 0 := by assumption
             have hst := fW hlt hok; exact ⟨⟨j + 1, hlt, by rw [hst]; exact hq⟩, (by show kids.length - (j + 1) < kids.length - j; omega), (cB (by repeat' first | exact trivial | refine ⟨rfl, ?_⟩) (by rw [hst]; exact ⟨rfl, trivial⟩))⟩)
      · repeat' (first | refine bG ?_ | (refine bJ ?_; first | refine aR tabOk rfl rfl rfl (nb rfl) rfl ?_ | refine aZ rfl rfl (nb rfl) ?_ | (refine bI rfl rfl rfl (nb rfl) rfl rfl rfl (fun hq => ?_) (fun hq => ?_) <;> (first | (simp only [sD, sE, sB, sC, sN, sM, sT, sF] at hq; try (exfalso; omega)) | skip)) | refine aD rfl rfl rfl (nb rfl) rfl rfl (by omega) ?_ | refine bC rfl rfl rfl (nb rfl) rfl rfl rfl (by omega) (by omega) ?_ | refine bD rfl rfl rfl (nb rfl) rfl rfl rfl (by omega) (by omega) ?_ | refine bB tabOk rfl rfl rfl (nb rfl) rfl rfl rfl rfl rfl rfl rfl rfl rfl ?_ | refine aT tabOk rfl rfl (nb rfl) rfl ?_ | refine aN tabOk rfl rfl rfl (nb rfl) rfl rfl rfl rfl rfl rfl ?_ | refine aO tabOk rfl rfl rfl (nb rfl) rfl rfl rfl rfl ?_ | refine aK tabOk rfl rfl rfl rfl rfl rfl rfl rfl rfl rfl rfl ?_ | refine aP tabOk rfl rfl rfl (nb rfl) rfl rfl rfl rfl (by first | assumption | omega) ?_ | refine aH tabOk rfl rfl rfl (nb rfl) rfl rfl rfl rfl (by first | rfl | omega) (by first | omega | simp) ?_ | refine aB tabOk rfl rfl rfl (nb rfl) rfl rfl rfl (by assumption) ?_ | refine aB tabOk rfl rfl rfl (nb rfl) rfl rfl rfl (bM _ _ (by first | assumption | omega)) ?_ | refine aD rfl rfl rfl (nb rfl) rfl rfl (by omega) ?_ | ((fail_if_success (refine aE (b := true) rfl rfl rfl ?_)); (fail_if_success (refine aE (b := false) rfl rfl rfl ?_)); refine aQ rfl rfl rfl (fun hq => ?_) (fun hq => ?_) <;> first | subst hq | (first | (simp only [sD, sE, sB, sC, sN, sM, sT, sF] at hq; try (exfalso; omega)) | skip)) | fail) | (refine bQ ?_; first | refine bH ?_ | refine bN ?_ | refine aL ?_ | refine aX ?_ | refine bO ?_ | refine bF ?_ | refine bE ?_ | refine aA (b := true) rfl (fun _ => ?_) nTf | refine aA (b := false) rfl nFt (fun _ => ?_) | refine aY ?_ | refine aW ?_ | refine aU mixed (by kernel_rfl) ?_ | refine aC mixed (by kernel_rfl) ?_ | (refine aA rfl (fun hq => ?_) (fun hq => ?_) <;> first | subst hq | (first | (simp only [sD, sE, sB, sC, sN, sM, sT, sF] at hq; try (exfalso; omega)) | skip)) | fail) | (refine bK ?_; first | refine bT ?_ | refine aI ?_ | refine aM ?_ | fail) | (refine bA ?_; first | refine bP ?_ | refine aF ?_ | refine aG (by decide) ?_ | refine aJ ?_ | fail) | refine bL (aV (by kernel_rfl)) ?_ | fail)
        all_goals (have e1 : kids.take j = kids := List.take_of_length_le (by omega); rw [e1] at hok ⊢; refine dB (cs := []) (by first | exact .inl rfl | exact .inr rfl) (bU rfl (aS rfl)) rfl rfl rfl ?_; exact fE hok.symm)
def sformP (t : Tree) : Bool := isSigP t || (isExP t || isFunP t)
set_option maxHeartbeats 8000000 in
set_option maxRecDepth 10000 in
theorem dO (t : Tree) (hs : t.size ≤ 1000000) : ACalls Try.prog 16 [.imm t.iv] [] (.imm (.lit (.int .i64 (checkP sformP t)))) [] := by
  have c1 := lM t 65536 hs (by omega) (by omega)
  have hw := eO t 65536
  unfold checkP sformP
  generalize wholeP t 65536 = W at *
  obtain ⟨W1, W2⟩ := W
  dsimp only at *
  by_cases h0 : W1 = 0
  · have hwt := hw h0
    have c2 := jL t hwt hs
    have c3 := oV t hwt hs
    have c4 := sA t hwt hs
    generalize isSigP t = B1 at *
    generalize isExP t = B2 at *
    generalize isFunP t = B3 at *
    subst h0
    refine bR Try.func16 rfl rfl (nb rfl) rfl ?_
    repeat' (first | refine bG ?_ | (refine bJ ?_; first | refine aR tabOk rfl rfl rfl (nb rfl) rfl ?_ | refine aZ rfl rfl (nb rfl) ?_ | (refine bI rfl rfl rfl (nb rfl) rfl rfl rfl (fun hq => ?_) (fun hq => ?_) <;> (first | (simp only [sD, sE, sB, sC, sN, sM, sT, sF] at hq; try (exfalso; omega)) | skip))| refine cN 1000 tabOk rfl rfl rfl (nb rfl) rfl rfl rfl rfl rfl rfl ?_ | refine cC rfl rfl (nb rfl) rfl rfl rfl rfl (c1) (by exact ⟨rfl, trivial⟩) rfl (by simp) ?_ | (refine bW rfl rfl rfl (nb rfl) rfl rfl rfl (c2) (fun hq => ?_) (fun hq => ?_)) | (refine bW rfl rfl rfl (nb rfl) rfl rfl rfl (c3) (fun hq => ?_) (fun hq => ?_)) | (refine bW rfl rfl rfl (nb rfl) rfl rfl rfl (c4) (fun hq => ?_) (fun hq => ?_)) | refine aD rfl rfl rfl (nb rfl) rfl rfl (by omega) ?_ | refine bC rfl rfl rfl (nb rfl) rfl rfl rfl (by omega) (by omega) ?_ | refine bD rfl rfl rfl (nb rfl) rfl rfl rfl (by omega) (by omega) ?_ | refine bB tabOk rfl rfl rfl (nb rfl) rfl rfl rfl rfl rfl rfl rfl rfl rfl ?_ | refine aT tabOk rfl rfl (nb rfl) rfl ?_ | refine aN tabOk rfl rfl rfl (nb rfl) rfl rfl rfl rfl rfl rfl ?_ | refine aO tabOk rfl rfl rfl (nb rfl) rfl rfl rfl rfl ?_ | refine aK tabOk rfl rfl rfl rfl rfl rfl rfl rfl rfl rfl rfl ?_ | refine aP tabOk rfl rfl rfl (nb rfl) rfl rfl rfl rfl (by first | assumption | omega) ?_ | refine aH tabOk rfl rfl rfl (nb rfl) rfl rfl rfl rfl (by first | rfl | omega) (by first | omega | simp) ?_ | refine aB tabOk rfl rfl rfl (nb rfl) rfl rfl rfl (by assumption) ?_ | refine aB tabOk rfl rfl rfl (nb rfl) rfl rfl rfl (bM _ _ (by first | assumption | omega)) ?_ | refine aD rfl rfl rfl (nb rfl) rfl rfl (by omega) ?_ | ((fail_if_success (refine aE (b := true) rfl rfl rfl ?_)); (fail_if_success (refine aE (b := false) rfl rfl rfl ?_)); refine aQ rfl rfl rfl (fun hq => ?_) (fun hq => ?_) <;> first | subst hq | (first | (simp only [sD, sE, sB, sC, sN, sM, sT, sF] at hq; try (exfalso; omega)) | skip)) | fail) | (refine bQ ?_; first | refine bH ?_ | refine bN ?_ | refine aL ?_ | refine aX ?_ | refine bO ?_ | refine bF ?_ | refine bE ?_ | refine aA (b := true) rfl (fun _ => ?_) nTf | refine aA (b := false) rfl nFt (fun _ => ?_) | refine aY ?_ | refine aW ?_ | refine aU mixed (by kernel_rfl) ?_ | refine aC mixed (by kernel_rfl) ?_ | (refine aA rfl (fun hq => ?_) (fun hq => ?_) <;> first | subst hq | (first | (simp only [sD, sE, sB, sC, sN, sM, sT, sF] at hq; try (exfalso; omega)) | skip)) | fail) | (refine bK ?_; first | refine bT ?_ | refine aI ?_ | refine aM ?_ | fail) | (refine bA ?_; first | refine bP ?_ | refine aF ?_ | refine aG (by decide) ?_ | refine aJ ?_ | fail) | refine bL (aV (by kernel_rfl)) ?_ | fail)
    all_goals (refine bV (by first | exact .inl rfl | exact .inr rfl) (bU rfl (aS rfl)) rfl ?_; refine fE ?_; simp_all)
  · rw [if_neg h0]
    refine bR Try.func16 rfl rfl (nb rfl) rfl ?_
    repeat' (first | refine bG ?_ | (refine bJ ?_; first | refine aR tabOk rfl rfl rfl (nb rfl) rfl ?_ | refine aZ rfl rfl (nb rfl) ?_ | (refine bI rfl rfl rfl (nb rfl) rfl rfl rfl (fun hq => ?_) (fun hq => ?_) <;> (first | (simp only [sD, sE, sB, sC, sN, sM, sT, sF] at hq; try (exfalso; omega)) | skip))| refine cN 1000 tabOk rfl rfl rfl (nb rfl) rfl rfl rfl rfl rfl rfl ?_ | refine cC rfl rfl (nb rfl) rfl rfl rfl rfl (c1) (by exact ⟨rfl, trivial⟩) rfl (by simp) ?_ | refine aD rfl rfl rfl (nb rfl) rfl rfl (by omega) ?_ | refine bC rfl rfl rfl (nb rfl) rfl rfl rfl (by omega) (by omega) ?_ | refine bD rfl rfl rfl (nb rfl) rfl rfl rfl (by omega) (by omega) ?_ | refine bB tabOk rfl rfl rfl (nb rfl) rfl rfl rfl rfl rfl rfl rfl rfl rfl ?_ | refine aT tabOk rfl rfl (nb rfl) rfl ?_ | refine aN tabOk rfl rfl rfl (nb rfl) rfl rfl rfl rfl rfl rfl ?_ | refine aO tabOk rfl rfl rfl (nb rfl) rfl rfl rfl rfl ?_ | refine aK tabOk rfl rfl rfl rfl rfl rfl rfl rfl rfl rfl rfl ?_ | refine aP tabOk rfl rfl rfl (nb rfl) rfl rfl rfl rfl (by first | assumption | omega) ?_ | refine aH tabOk rfl rfl rfl (nb rfl) rfl rfl rfl rfl (by first | rfl | omega) (by first | omega | simp) ?_ | refine aB tabOk rfl rfl rfl (nb rfl) rfl rfl rfl (by assumption) ?_ | refine aB tabOk rfl rfl rfl (nb rfl) rfl rfl rfl (bM _ _ (by first | assumption | omega)) ?_ | refine aD rfl rfl rfl (nb rfl) rfl rfl (by omega) ?_ | ((fail_if_success (refine aE (b := true) rfl rfl rfl ?_)); (fail_if_success (refine aE (b := false) rfl rfl rfl ?_)); refine aQ rfl rfl rfl (fun hq => ?_) (fun hq => ?_) <;> first | subst hq | (first | (simp only [sD, sE, sB, sC, sN, sM, sT, sF] at hq; try (exfalso; omega)) | skip)) | fail) | (refine bQ ?_; first | refine bH ?_ | refine bN ?_ | refine aL ?_ | refine aX ?_ | refine bO ?_ | refine bF ?_ | refine bE ?_ | refine aA (b := true) rfl (fun _ => ?_) nTf | refine aA (b := false) rfl nFt (fun _ => ?_) | refine aY ?_ | refine aW ?_ | refine aU mixed (by kernel_rfl) ?_ | refine aC mixed (by kernel_rfl) ?_ | (refine aA rfl (fun hq => ?_) (fun hq => ?_) <;> first | subst hq | (first | (simp only [sD, sE, sB, sC, sN, sM, sT, sF] at hq; try (exfalso; omega)) | skip)) | fail) | (refine bK ?_; first | refine bT ?_ | refine aI ?_ | refine aM ?_ | fail) | (refine bA ?_; first | refine bP ?_ | refine aF ?_ | refine aG (by decide) ?_ | refine aJ ?_ | fail) | refine bL (aV (by kernel_rfl)) ?_ | fail)
    all_goals first
      | exact absurd (by assumption) h0
      | (refine bV (by first | exact .inl rfl | exact .inr rfl) (bU rfl (aS rfl)) rfl ?_; rfl)
end Go.Proofs.Ytlbemgokilhdnaa.Ab
namespace Go.Proofs.Ytlbemgokilhdnaa.Ab
set_option linter.unusedVariables false
set_option linter.unusedSimpArgs false
attribute [local irreducible] AWP AOps AExit AThen ABlock ANoGoto FeetOk
def Tree.kind : Tree → Int
  | .nil => 0
  | .node k _ _ _ _ => k
end Go.Proofs.Ytlbemgokilhdnaa.Ab
namespace Go.Proofs.Ytlbemgokilhdnaa.Ab
set_option linter.unusedVariables false
set_option linter.unusedSimpArgs false
attribute [local irreducible] AWP AOps AExit AThen ABlock ANoGoto FeetOk
end Go.Proofs.Ytlbemgokilhdnaa.Ab
namespace Go.Proofs.Ytlbemgokilhdnaa.Ab
set_option linter.unusedVariables false
set_option linter.unusedSimpArgs false
attribute [local irreducible] AWP AOps AExit AThen ABlock ANoGoto FeetOk
end Go.Proofs.Ytlbemgokilhdnaa.Ab
namespace Go.Proofs.Ytlbemgokilhdnaa.Ab
set_option linter.unusedVariables false
set_option linter.unusedSimpArgs false
attribute [local irreducible] AWP AOps AExit AThen ABlock ANoGoto FeetOk
/-- slices.IndexFunc, of trees, by a function over one variable. -/
def findP (R : Tree → Bool) : List Tree → Nat → Int
  | [], _ => -1
  | t :: ts, j => if R t then (j : Int) else findP R ts (j + 1)
theorem mX (R : Tree → Bool) : ∀ (l : List Tree) (j : Nat), (0 ≤ findP R l j ↔ l.any R = true)
  | [], _ => by simp [findP]
  | t :: ts, j => by
    rw [findP, List.any_cons]
    by_cases h : R t = true
    · rw [if_pos h, h]; simp
    · rw [if_neg h, mX R ts (j + 1)]; simp [h]
set_option maxHeartbeats 4000000 in
set_option maxRecDepth 10000 in
theorem nT (l : List Tree) (F : FuncId) (x : IV) (R : Tree → Bool) (hl : l.length < 1000000000)
    (hf : ∀ j (h : j < l.length), ACalls Try.prog F [.imm l[j].iv, .obj 1001 0] [(1001, .cells [.imm x])] (.imm (.lit (.bool (R l[j])))) [(1001, .cells [.imm x])]) :
    ACalls Try.prog 101 [.imm (.sl false l.length (Tree.ivs l)), .func F [] [.obj 1001 0]] [(1001, .cells [.imm x])] (.imm (.lit (.int .i64 (findP R l 0)))) [(1001, .cells [.imm x])] := by
  generalize hR : findP R l 0 = Q
  refine cG [1001] Try.func101 rfl rfl (nb rfl) rfl rfl ?_
  repeat' (first | refine bG ?_ | (refine bJ ?_; first | refine aR tabOk rfl rfl rfl (nb rfl) rfl ?_ | refine aZ rfl rfl (nb rfl) ?_ | (refine bI rfl rfl rfl (nb rfl) rfl rfl rfl (fun hq => ?_) (fun hq => ?_) <;> (first | (simp only [sD, sE, sB, sC, sN, sM, sT, sF] at hq; try (exfalso; omega)) | skip)) | refine aD rfl rfl rfl (nb rfl) rfl rfl (by omega) ?_ | refine bC rfl rfl rfl (nb rfl) rfl rfl rfl (by omega) (by omega) ?_ | refine bD rfl rfl rfl (nb rfl) rfl rfl rfl (by omega) (by omega) ?_ | refine bB tabOk rfl rfl rfl (nb rfl) rfl rfl rfl rfl rfl rfl rfl rfl rfl ?_ | refine aT tabOk rfl rfl (nb rfl) rfl ?_ | refine aN tabOk rfl rfl rfl (nb rfl) rfl rfl rfl rfl rfl rfl ?_ | refine aO tabOk rfl rfl rfl (nb rfl) rfl rfl rfl rfl ?_ | refine aK tabOk rfl rfl rfl rfl rfl rfl rfl rfl rfl rfl rfl ?_ | refine aP tabOk rfl rfl rfl (nb rfl) rfl rfl rfl rfl (by first | assumption | omega) ?_ | refine aH tabOk rfl rfl rfl (nb rfl) rfl rfl rfl rfl (by first | rfl | omega) (by first | omega | simp) ?_ | refine aB tabOk rfl rfl rfl (nb rfl) rfl rfl rfl (by assumption) ?_ | refine aB tabOk rfl rfl rfl (nb rfl) rfl rfl rfl (bM _ _ (by first | assumption | omega)) ?_ | refine aD rfl rfl rfl (nb rfl) rfl rfl (by omega) ?_ | ((fail_if_success (refine aE (b := true) rfl rfl rfl ?_)); (fail_if_success (refine aE (b := false) rfl rfl rfl ?_)); refine aQ rfl rfl rfl (fun hq => ?_) (fun hq => ?_) <;> first | subst hq | (first | (simp only [sD, sE, sB, sC, sN, sM, sT, sF] at hq; try (exfalso; omega)) | skip)) | fail) | (refine bQ ?_; first | refine bH ?_ | refine bN ?_ | refine aL ?_ | refine aX ?_ | refine bO ?_ | refine bF ?_ | refine bE ?_ | refine aA (b := true) rfl (fun _ => ?_) nTf | refine aA (b := false) rfl nFt (fun _ => ?_) | refine aY ?_ | refine aW ?_ | refine aU mixed (by kernel_rfl) ?_ | refine aC mixed (by kernel_rfl) ?_ | (refine aA rfl (fun hq => ?_) (fun hq => ?_) <;> first | subst hq | (first | (simp only [sD, sE, sB, sC, sN, sM, sT, sF] at hq; try (exfalso; omega)) | skip)) | fail) | (refine bK ?_; first | refine bT ?_ | refine aI ?_ | refine aM ?_ | fail) | (refine bA ?_; first | refine bP ?_ | refine aF ?_ | refine aG (by decide) ?_ | refine aJ ?_ | fail) | refine bL (aV (by kernel_rfl)) ?_ | fail)
  refine cJ (ι := {j : Nat // j ≤ l.length ∧ findP R (l.drop j) j = Q}) (fun j => S.f ⟨[(8, .imm (.lit (.int .i64 (j.1 : Int)))), (7, .imm (.lit (.int .i64 (l.length : Int)))), (0, .imm (.sl false l.length (Tree.ivs l))), (1, .func F [] [.obj 1001 0])], [(1001, .cells [.imm x])]⟩) (fun j => l.length - j.1) ⟨0, Nat.zero_le _, hR⟩ (cB (by repeat' first | exact trivial | refine ⟨rfl, ?_⟩) (by repeat' first | exact trivial | refine ⟨rfl, ?_⟩)) ?_
  clear hR
  rintro ⟨j, hj, hR⟩
  dsimp only
  by_cases hlt : j < l.length
  · have hget := bM l j hlt
    have hc := hf j hlt
    rw [List.drop_eq_getElem_cons hlt, findP] at hR
    cases hRj : R l[j] with
    | true =>
      rw [hRj] at hc hR
      rw [if_pos rfl] at hR
      subst hR
      repeat' (first | refine bG ?_ | (refine bJ ?_; first | refine aR tabOk rfl rfl rfl (nb rfl) rfl ?_ | refine aZ rfl rfl (nb rfl) ?_ | (refine bI rfl rfl rfl (nb rfl) rfl rfl rfl (fun hq => ?_) (fun hq => ?_) <;> (first | (simp only [sD, sE, sB, sC, sN, sM, sT, sF] at hq; try (exfalso; omega)) | skip))| refine cC rfl rfl (nb rfl) rfl rfl rfl rfl hc (by repeat' first | exact trivial | refine ⟨rfl, ?_⟩) rfl (by show ([1001] : List Nat).Nodup; decide) ?_ | refine aD rfl rfl rfl (nb rfl) rfl rfl (by omega) ?_ | refine bC rfl rfl rfl (nb rfl) rfl rfl rfl (by omega) (by omega) ?_ | refine bD rfl rfl rfl (nb rfl) rfl rfl rfl (by omega) (by omega) ?_ | refine bB tabOk rfl rfl rfl (nb rfl) rfl rfl rfl rfl rfl rfl rfl rfl rfl ?_ | refine aT tabOk rfl rfl (nb rfl) rfl ?_ | refine aN tabOk rfl rfl rfl (nb rfl) rfl rfl rfl rfl rfl rfl ?_ | refine aO tabOk rfl rfl rfl (nb rfl) rfl rfl rfl rfl ?_ | refine aK tabOk rfl rfl rfl rfl rfl rfl rfl rfl rfl rfl rfl ?_ | refine aP tabOk rfl rfl rfl (nb rfl) rfl rfl rfl rfl (by first | assumption | omega) ?_ | refine aH tabOk rfl rfl rfl (nb rfl) rfl rfl rfl rfl (by first | rfl | omega) (by first | omega | simp) ?_ | refine aB tabOk rfl rfl rfl (nb rfl) rfl rfl rfl (by assumption) ?_ | refine aB tabOk rfl rfl rfl (nb rfl) rfl rfl rfl (bM _ _ (by first | assumption | omega)) ?_ | refine aD rfl rfl rfl (nb rfl) rfl rfl (by omega) ?_ | ((fail_if_success (refine aE (b := true) rfl rfl rfl ?_)); (fail_if_success (refine aE (b := false) rfl rfl rfl ?_)); refine aQ rfl rfl rfl (fun hq => ?_) (fun hq => ?_) <;> first | subst hq | (first | (simp only [sD, sE, sB, sC, sN, sM, sT, sF] at hq; try (exfalso; omega)) | skip)) | fail) | (refine bQ ?_; first | refine bH ?_ | refine bN ?_ | refine aL ?_ | refine aX ?_ | refine bO ?_ | refine bF ?_ | refine bE ?_ | refine aA (b := true) rfl (fun _ => ?_) nTf | refine aA (b := false) rfl nFt (fun _ => ?_) | refine aY ?_ | refine aW ?_ | refine aU mixed (by kernel_rfl) ?_ | refine aC mixed (by kernel_rfl) ?_ | (refine aA rfl (fun hq => ?_) (fun hq => ?_) <;> first | subst hq | (first | (simp only [sD, sE, sB, sC, sN, sM, sT, sF] at hq; try (exfalso; omega)) | skip)) | fail) | (refine bK ?_; first | refine bT ?_ | refine aI ?_ | refine aM ?_ | fail) | (refine bA ?_; first | refine bP ?_ | refine aF ?_ | refine aG (by decide) ?_ | refine aJ ?_ | fail) | refine bL (aV (by kernel_rfl)) ?_ | fail)
      all_goals first
        | (exfalso; omega)
        | (refine cK (cF (by first | exact .inl rfl | exact .inr rfl) (bU rfl (aS rfl)) rfl (by repeat' first | exact trivial | refine ⟨rfl, ?_⟩) rfl ?_); rfl)
    | false =>
      rw [hRj] at hc hR
      rw [if_neg (by simp)] at hR
      repeat' (first | refine bG ?_ | (refine bJ ?_; first | refine aR tabOk rfl rfl rfl (nb rfl) rfl ?_ | refine aZ rfl rfl (nb rfl) ?_ | (refine bI rfl rfl rfl (nb rfl) rfl rfl rfl (fun hq => ?_) (fun hq => ?_) <;> (first | (simp only [sD, sE, sB, sC, sN, sM, sT, sF] at hq; try (exfalso; omega)) | skip))| refine cC rfl rfl (nb rfl) rfl rfl rfl rfl hc (by repeat' first | exact trivial | refine ⟨rfl, ?_⟩) rfl (by show ([1001] : List Nat).Nodup; decide) ?_ | refine aD rfl rfl rfl (nb rfl) rfl rfl (by omega) ?_ | refine bC rfl rfl rfl (nb rfl) rfl rfl rfl (by omega) (by omega) ?_ | refine bD rfl rfl rfl (nb rfl) rfl rfl rfl (by omega) (by omega) ?_ | refine bB tabOk rfl rfl rfl (nb rfl) rfl rfl rfl rfl rfl rfl rfl rfl rfl ?_ | refine aT tabOk rfl rfl (nb rfl) rfl ?_ | refine aN tabOk rfl rfl rfl (nb rfl) rfl rfl rfl rfl rfl rfl ?_ | refine aO tabOk rfl rfl rfl (nb rfl) rfl rfl rfl rfl ?_ | refine aK tabOk rfl rfl rfl rfl rfl rfl rfl rfl rfl rfl rfl ?_ | refine aP tabOk rfl rfl rfl (nb rfl) rfl rfl rfl rfl (by first | assumption | omega) ?_ | refine aH tabOk rfl rfl rfl (nb rfl) rfl rfl rfl rfl (by first | rfl | omega) (by first | omega | simp) ?_ | refine aB tabOk rfl rfl rfl (nb rfl) rfl rfl rfl (by assumption) ?_ | refine aB tabOk rfl rfl rfl (nb rfl) rfl rfl rfl (bM _ _ (by first | assumption | omega)) ?_ | refine aD rfl rfl rfl (nb rfl) rfl rfl (by omega) ?_ | ((fail_if_success (refine aE (b := true) rfl rfl rfl ?_)); (fail_if_success (refine aE (b := false) rfl rfl rfl ?_)); refine aQ rfl rfl rfl (fun hq => ?_) (fun hq => ?_) <;> first | subst hq | (first | (simp only [sD, sE, sB, sC, sN, sM, sT, sF] at hq; try (exfalso; omega)) | skip)) | fail) | (refine bQ ?_; first | refine bH ?_ | refine bN ?_ | refine aL ?_ | refine aX ?_ | refine bO ?_ | refine bF ?_ | refine bE ?_ | refine aA (b := true) rfl (fun _ => ?_) nTf | refine aA (b := false) rfl nFt (fun _ => ?_) | refine aY ?_ | refine aW ?_ | refine aU mixed (by kernel_rfl) ?_ | refine aC mixed (by kernel_rfl) ?_ | (refine aA rfl (fun hq => ?_) (fun hq => ?_) <;> first | subst hq | (first | (simp only [sD, sE, sB, sC, sN, sM, sT, sF] at hq; try (exfalso; omega)) | skip)) | fail) | (refine bK ?_; first | refine bT ?_ | refine aI ?_ | refine aM ?_ | fail) | (refine bA ?_; first | refine bP ?_ | refine aF ?_ | refine aG (by decide) ?_ | refine aJ ?_ | fail) | refine bL (aV (by kernel_rfl)) ?_ | fail)
      all_goals first
        | (exfalso; omega)
        | exact ⟨⟨j + 1, hlt, hR⟩, (by show l.length - (j + 1) < l.length - j; omega), (cB (by repeat' first | exact trivial | refine ⟨rfl, ?_⟩) (by repeat' first | exact trivial | refine ⟨rfl, ?_⟩))⟩
  · have ej : j = l.length := by omega
    subst ej
    rw [List.drop_length, findP] at hR
    subst hR
    repeat' (first | refine bG ?_ | (refine bJ ?_; first | refine aR tabOk rfl rfl rfl (nb rfl) rfl ?_ | refine aZ rfl rfl (nb rfl) ?_ | (refine bI rfl rfl rfl (nb rfl) rfl rfl rfl (fun hq => ?_) (fun hq => ?_) <;> (first | (simp only [sD, sE, sB, sC, sN, sM, sT, sF] at hq; try (exfalso; omega)) | skip)) | refine aD rfl rfl rfl (nb rfl) rfl rfl (by omega) ?_ | refine bC rfl rfl rfl (nb rfl) rfl rfl rfl (by omega) (by omega) ?_ | refine bD rfl rfl rfl (nb rfl) rfl rfl rfl (by omega) (by omega) ?_ | refine bB tabOk rfl rfl rfl (nb rfl) rfl rfl rfl rfl rfl rfl rfl rfl rfl ?_ | refine aT tabOk rfl rfl (nb rfl) rfl ?_ | refine aN tabOk rfl rfl rfl (nb rfl) rfl rfl rfl rfl rfl rfl ?_ | refine aO tabOk rfl rfl rfl (nb rfl) rfl rfl rfl rfl ?_ | refine aK tabOk rfl rfl rfl rfl rfl rfl rfl rfl rfl rfl rfl ?_ | refine aP tabOk rfl rfl rfl (nb rfl) rfl rfl rfl rfl (by first | assumption | omega) ?_ | refine aH tabOk rfl rfl rfl (nb rfl) rfl rfl rfl rfl (by first | rfl | omega) (by first | omega | simp) ?_ | refine aB tabOk rfl rfl rfl (nb rfl) rfl rfl rfl (by assumption) ?_ | refine aB tabOk rfl rfl rfl (nb rfl) rfl rfl rfl (bM _ _ (by first | assumption | omega)) ?_ | refine aD rfl rfl rfl (nb rfl) rfl rfl (by omega) ?_ | ((fail_if_success (refine aE (b := true) rfl rfl rfl ?_)); (fail_if_success (refine aE (b := false) rfl rfl rfl ?_)); refine aQ rfl rfl rfl (fun hq => ?_) (fun hq => ?_) <;> first | subst hq | (first | (simp only [sD, sE, sB, sC, sN, sM, sT, sF] at hq; try (exfalso; omega)) | skip)) | fail) | (refine bQ ?_; first | refine bH ?_ | refine bN ?_ | refine aL ?_ | refine aX ?_ | refine bO ?_ | refine bF ?_ | refine bE ?_ | refine aA (b := true) rfl (fun _ => ?_) nTf | refine aA (b := false) rfl nFt (fun _ => ?_) | refine aY ?_ | refine aW ?_ | refine aU mixed (by kernel_rfl) ?_ | refine aC mixed (by kernel_rfl) ?_ | (refine aA rfl (fun hq => ?_) (fun hq => ?_) <;> first | subst hq | (first | (simp only [sD, sE, sB, sC, sN, sM, sT, sF] at hq; try (exfalso; omega)) | skip)) | fail) | (refine bK ?_; first | refine bT ?_ | refine aI ?_ | refine aM ?_ | fail) | (refine bA ?_; first | refine bP ?_ | refine aF ?_ | refine aG (by decide) ?_ | refine aJ ?_ | fail) | refine bL (aV (by kernel_rfl)) ?_ | fail)
    all_goals first
      | (exfalso; omega)
      | (refine cK (cF (by first | exact .inl rfl | exact .inr rfl) (bU rfl (aS rfl)) rfl (by repeat' first | exact trivial | refine ⟨rfl, ?_⟩) rfl ?_); rfl)
end Go.Proofs.Ytlbemgokilhdnaa.Ab
namespace Go.Proofs.Ytlbemgokilhdnaa.Ab
set_option linter.unusedVariables false
set_option linter.unusedSimpArgs false
attribute [local irreducible] AWP AOps AExit AThen ABlock ANoGoto FeetOk
set_option maxRecDepth 10000 in
theorem lN (s : ByteArray) : ACalls Try.prog 85 [.imm (.lit (.string s))] [] (.imm (.lit (.bool (labelP s)))) [] := by
  refine bR Try.func85 rfl rfl (nb rfl) rfl ?_
  repeat' (first | refine bG ?_ | (refine bJ ?_; first | refine aR tabOk rfl rfl rfl (nb rfl) rfl ?_ | refine aZ rfl rfl (nb rfl) ?_ | (refine bI rfl rfl rfl (nb rfl) rfl rfl rfl (fun hq => ?_) (fun hq => ?_) <;> (first | (simp only [sD, sE, sB, sC, sN, sM, sT, sF] at hq; try (exfalso; omega)) | skip)) | refine aD rfl rfl rfl (nb rfl) rfl rfl (by omega) ?_ | refine bC rfl rfl rfl (nb rfl) rfl rfl rfl (by omega) (by omega) ?_ | refine bD rfl rfl rfl (nb rfl) rfl rfl rfl (by omega) (by omega) ?_ | refine bB tabOk rfl rfl rfl (nb rfl) rfl rfl rfl rfl rfl rfl rfl rfl rfl ?_ | refine aT tabOk rfl rfl (nb rfl) rfl ?_ | refine aN tabOk rfl rfl rfl (nb rfl) rfl rfl rfl rfl rfl rfl ?_ | refine aO tabOk rfl rfl rfl (nb rfl) rfl rfl rfl rfl ?_ | refine aK tabOk rfl rfl rfl rfl rfl rfl rfl rfl rfl rfl rfl ?_ | refine aP tabOk rfl rfl rfl (nb rfl) rfl rfl rfl rfl (by first | assumption | omega) ?_ | refine aH tabOk rfl rfl rfl (nb rfl) rfl rfl rfl rfl (by first | rfl | omega) (by first | omega | simp) ?_ | refine aB tabOk rfl rfl rfl (nb rfl) rfl rfl rfl (by assumption) ?_ | refine aB tabOk rfl rfl rfl (nb rfl) rfl rfl rfl (bM _ _ (by first | assumption | omega)) ?_ | refine aD rfl rfl rfl (nb rfl) rfl rfl (by omega) ?_ | ((fail_if_success (refine aE (b := true) rfl rfl rfl ?_)); (fail_if_success (refine aE (b := false) rfl rfl rfl ?_)); refine aQ rfl rfl rfl (fun hq => ?_) (fun hq => ?_) <;> first | subst hq | (first | (simp only [sD, sE, sB, sC, sN, sM, sT, sF] at hq; try (exfalso; omega)) | skip)) | fail) | (refine bQ ?_; first | refine bH ?_ | refine bN ?_ | refine aL ?_ | refine aX ?_ | refine bO ?_ | refine bF ?_ | refine bE ?_ | refine aA (b := true) rfl (fun _ => ?_) nTf | refine aA (b := false) rfl nFt (fun _ => ?_) | refine aY ?_ | refine aW ?_ | refine aU mixed (by kernel_rfl) ?_ | refine aC mixed (by kernel_rfl) ?_ | (refine aA rfl (fun hq => ?_) (fun hq => ?_) <;> first | subst hq | (first | (simp only [sD, sE, sB, sC, sN, sM, sT, sF] at hq; try (exfalso; omega)) | skip)) | fail) | (refine bK ?_; first | refine bT ?_ | refine aI ?_ | refine aM ?_ | fail) | (refine bA ?_; first | refine bP ?_ | refine aF ?_ | refine aG (by decide) ?_ | refine aJ ?_ | fail) | refine bL (aV (by kernel_rfl)) ?_ | fail)
  all_goals (refine bV (by first | exact .inl rfl | exact .inr rfl) (bU rfl (aS rfl)) rfl ?_; refine cE ?_; simp_all [labelP] <;> omega)
def numberP (k n : Int) : Bool :=
  if k = 130 then decide (n ≥ 0) && decide (n ≤ 65536)
  else if k = 131 then decide (n ≥ -1073741824) && decide (n ≤ 1073741824)
  else if k = 132 then (n == 0) || (n == 1)
  else if k = 145 then decide (n ≥ 1) && decide (n ≤ 5)
  else n == 0
set_option maxHeartbeats 4000000 in
set_option maxRecDepth 10000 in
theorem qI (k n : Int) (a b : ByteArray) (kids : List Tree) : ACalls Try.prog 86 [.imm (Tree.iv (.node k n a b kids))] [] (.imm (.lit (.bool (numberP k n)))) [] := by
  refine bR Try.func86 rfl rfl (nb rfl) rfl ?_
  repeat' (first | refine bG ?_ | (refine bJ ?_; first | refine aR tabOk rfl rfl rfl (nb rfl) rfl ?_ | refine aZ rfl rfl (nb rfl) ?_ | (refine bI rfl rfl rfl (nb rfl) rfl rfl rfl (fun hq => ?_) (fun hq => ?_) <;> (first | (simp only [sD, sE, sB, sC, sN, sM, sT, sF] at hq; try (exfalso; omega)) | skip)) | refine aD rfl rfl rfl (nb rfl) rfl rfl (by omega) ?_ | refine bC rfl rfl rfl (nb rfl) rfl rfl rfl (by omega) (by omega) ?_ | refine bD rfl rfl rfl (nb rfl) rfl rfl rfl (by omega) (by omega) ?_ | refine bB tabOk rfl rfl rfl (nb rfl) rfl rfl rfl rfl rfl rfl rfl rfl rfl ?_ | refine aT tabOk rfl rfl (nb rfl) rfl ?_ | refine aN tabOk rfl rfl rfl (nb rfl) rfl rfl rfl rfl rfl rfl ?_ | refine aO tabOk rfl rfl rfl (nb rfl) rfl rfl rfl rfl ?_ | refine aK tabOk rfl rfl rfl rfl rfl rfl rfl rfl rfl rfl rfl ?_ | refine aP tabOk rfl rfl rfl (nb rfl) rfl rfl rfl rfl (by first | assumption | omega) ?_ | refine aH tabOk rfl rfl rfl (nb rfl) rfl rfl rfl rfl (by first | rfl | omega) (by first | omega | simp) ?_ | refine aB tabOk rfl rfl rfl (nb rfl) rfl rfl rfl (by assumption) ?_ | refine aB tabOk rfl rfl rfl (nb rfl) rfl rfl rfl (bM _ _ (by first | assumption | omega)) ?_ | refine aD rfl rfl rfl (nb rfl) rfl rfl (by omega) ?_ | ((fail_if_success (refine aE (b := true) rfl rfl rfl ?_)); (fail_if_success (refine aE (b := false) rfl rfl rfl ?_)); refine aQ rfl rfl rfl (fun hq => ?_) (fun hq => ?_) <;> first | subst hq | (first | (simp only [sD, sE, sB, sC, sN, sM, sT, sF] at hq; try (exfalso; omega)) | skip)) | fail) | (refine bQ ?_; first | refine bH ?_ | refine bN ?_ | refine aL ?_ | refine aX ?_ | refine bO ?_ | refine bF ?_ | refine bE ?_ | refine aA (b := true) rfl (fun _ => ?_) nTf | refine aA (b := false) rfl nFt (fun _ => ?_) | refine aY ?_ | refine aW ?_ | refine aU mixed (by kernel_rfl) ?_ | refine aC mixed (by kernel_rfl) ?_ | (refine aA rfl (fun hq => ?_) (fun hq => ?_) <;> first | subst hq | (first | (simp only [sD, sE, sB, sC, sN, sM, sT, sF] at hq; try (exfalso; omega)) | skip)) | fail) | (refine bK ?_; first | refine bT ?_ | refine aI ?_ | refine aM ?_ | fail) | (refine bA ?_; first | refine bP ?_ | refine aF ?_ | refine aG (by decide) ?_ | refine aJ ?_ | fail) | refine bL (aV (by kernel_rfl)) ?_ | fail)
  all_goals (refine bV (by first | exact .inl rfl | exact .inr rfl) (bU rfl (aS rfl)) rfl ?_; refine cE ?_; first | (simp_all [numberP]; done) | (simp_all [numberP]; omega))
def tconP (t : Tree) : Bool := checkP isConP t == 0
def tkindP (t : Tree) : Bool := checkP isKindP t == 0
set_option maxRecDepth 10000 in
theorem tQ (t : Tree) (hs : t.size ≤ 1000000) : ACalls Try.prog 88 [.imm t.iv] [] (.imm (.lit (.bool (tconP t)))) [] := by
  refine bR Try.func88 rfl rfl (nb rfl) rfl ?_
  repeat' (first | refine bG ?_ | (refine bJ ?_; first | refine aR tabOk rfl rfl rfl (nb rfl) rfl ?_ | refine aZ rfl rfl (nb rfl) ?_ | (refine bI rfl rfl rfl (nb rfl) rfl rfl rfl (fun hq => ?_) (fun hq => ?_) <;> (first | (simp only [sD, sE, sB, sC, sN, sM, sT, sF] at hq; try (exfalso; omega)) | skip))| (refine lG rfl rfl rfl (nb rfl) rfl rfl rfl (dV t hs) (fun q hq => ?_)) | refine aD rfl rfl rfl (nb rfl) rfl rfl (by omega) ?_ | refine bC rfl rfl rfl (nb rfl) rfl rfl rfl (by omega) (by omega) ?_ | refine bD rfl rfl rfl (nb rfl) rfl rfl rfl (by omega) (by omega) ?_ | refine bB tabOk rfl rfl rfl (nb rfl) rfl rfl rfl rfl rfl rfl rfl rfl rfl ?_ | refine aT tabOk rfl rfl (nb rfl) rfl ?_ | refine aN tabOk rfl rfl rfl (nb rfl) rfl rfl rfl rfl rfl rfl ?_ | refine aO tabOk rfl rfl rfl (nb rfl) rfl rfl rfl rfl ?_ | refine aK tabOk rfl rfl rfl rfl rfl rfl rfl rfl rfl rfl rfl ?_ | refine aP tabOk rfl rfl rfl (nb rfl) rfl rfl rfl rfl (by first | assumption | omega) ?_ | refine aH tabOk rfl rfl rfl (nb rfl) rfl rfl rfl rfl (by first | rfl | omega) (by first | omega | simp) ?_ | refine aB tabOk rfl rfl rfl (nb rfl) rfl rfl rfl (by assumption) ?_ | refine aB tabOk rfl rfl rfl (nb rfl) rfl rfl rfl (bM _ _ (by first | assumption | omega)) ?_ | refine aD rfl rfl rfl (nb rfl) rfl rfl (by omega) ?_ | ((fail_if_success (refine aE (b := true) rfl rfl rfl ?_)); (fail_if_success (refine aE (b := false) rfl rfl rfl ?_)); refine aQ rfl rfl rfl (fun hq => ?_) (fun hq => ?_) <;> first | subst hq | (first | (simp only [sD, sE, sB, sC, sN, sM, sT, sF] at hq; try (exfalso; omega)) | skip)) | fail) | (refine bQ ?_; first | refine bH ?_ | refine bN ?_ | refine aL ?_ | refine aX ?_ | refine bO ?_ | refine bF ?_ | refine bE ?_ | refine aA (b := true) rfl (fun _ => ?_) nTf | refine aA (b := false) rfl nFt (fun _ => ?_) | refine aY ?_ | refine aW ?_ | refine aU mixed (by kernel_rfl) ?_ | refine aC mixed (by kernel_rfl) ?_ | (refine aA rfl (fun hq => ?_) (fun hq => ?_) <;> first | subst hq | (first | (simp only [sD, sE, sB, sC, sN, sM, sT, sF] at hq; try (exfalso; omega)) | skip)) | fail) | (refine bK ?_; first | refine bT ?_ | refine aI ?_ | refine aM ?_ | fail) | (refine bA ?_; first | refine bP ?_ | refine aF ?_ | refine aG (by decide) ?_ | refine aJ ?_ | fail) | refine bL (aV (by kernel_rfl)) ?_ | fail)
  all_goals (refine bV (by first | exact .inl rfl | exact .inr rfl) (bU rfl (aS rfl)) rfl ?_; refine cE ?_; simp_all [tconP])
set_option maxRecDepth 10000 in
theorem sG (t : Tree) (hs : t.size ≤ 1000000) : ACalls Try.prog 89 [.imm t.iv] [] (.imm (.lit (.bool (tkindP t)))) [] := by
  refine bR Try.func89 rfl rfl (nb rfl) rfl ?_
  repeat' (first | refine bG ?_ | (refine bJ ?_; first | refine aR tabOk rfl rfl rfl (nb rfl) rfl ?_ | refine aZ rfl rfl (nb rfl) ?_ | (refine bI rfl rfl rfl (nb rfl) rfl rfl rfl (fun hq => ?_) (fun hq => ?_) <;> (first | (simp only [sD, sE, sB, sC, sN, sM, sT, sF] at hq; try (exfalso; omega)) | skip))| (refine lG rfl rfl rfl (nb rfl) rfl rfl rfl (tN t hs) (fun q hq => ?_)) | refine aD rfl rfl rfl (nb rfl) rfl rfl (by omega) ?_ | refine bC rfl rfl rfl (nb rfl) rfl rfl rfl (by omega) (by omega) ?_ | refine bD rfl rfl rfl (nb rfl) rfl rfl rfl (by omega) (by omega) ?_ | refine bB tabOk rfl rfl rfl (nb rfl) rfl rfl rfl rfl rfl rfl rfl rfl rfl ?_ | refine aT tabOk rfl rfl (nb rfl) rfl ?_ | refine aN tabOk rfl rfl rfl (nb rfl) rfl rfl rfl rfl rfl rfl ?_ | refine aO tabOk rfl rfl rfl (nb rfl) rfl rfl rfl rfl ?_ | refine aK tabOk rfl rfl rfl rfl rfl rfl rfl rfl rfl rfl rfl ?_ | refine aP tabOk rfl rfl rfl (nb rfl) rfl rfl rfl rfl (by first | assumption | omega) ?_ | refine aH tabOk rfl rfl rfl (nb rfl) rfl rfl rfl rfl (by first | rfl | omega) (by first | omega | simp) ?_ | refine aB tabOk rfl rfl rfl (nb rfl) rfl rfl rfl (by assumption) ?_ | refine aB tabOk rfl rfl rfl (nb rfl) rfl rfl rfl (bM _ _ (by first | assumption | omega)) ?_ | refine aD rfl rfl rfl (nb rfl) rfl rfl (by omega) ?_ | ((fail_if_success (refine aE (b := true) rfl rfl rfl ?_)); (fail_if_success (refine aE (b := false) rfl rfl rfl ?_)); refine aQ rfl rfl rfl (fun hq => ?_) (fun hq => ?_) <;> first | subst hq | (first | (simp only [sD, sE, sB, sC, sN, sM, sT, sF] at hq; try (exfalso; omega)) | skip)) | fail) | (refine bQ ?_; first | refine bH ?_ | refine bN ?_ | refine aL ?_ | refine aX ?_ | refine bO ?_ | refine bF ?_ | refine bE ?_ | refine aA (b := true) rfl (fun _ => ?_) nTf | refine aA (b := false) rfl nFt (fun _ => ?_) | refine aY ?_ | refine aW ?_ | refine aU mixed (by kernel_rfl) ?_ | refine aC mixed (by kernel_rfl) ?_ | (refine aA rfl (fun hq => ?_) (fun hq => ?_) <;> first | subst hq | (first | (simp only [sD, sE, sB, sC, sN, sM, sT, sF] at hq; try (exfalso; omega)) | skip)) | fail) | (refine bK ?_; first | refine bT ?_ | refine aI ?_ | refine aM ?_ | fail) | (refine bA ?_; first | refine bP ?_ | refine aF ?_ | refine aG (by decide) ?_ | refine aJ ?_ | fail) | refine bL (aV (by kernel_rfl)) ?_ | fail)
  all_goals (refine bV (by first | exact .inl rfl | exact .inr rfl) (bU rfl (aS rfl)) rfl ?_; refine cE ?_; simp_all [tkindP])
/-- The first kids are of these forms, one after the other. -/
def formsP : List (FuncId × (Tree → Bool)) → List Tree → Bool
  | p :: ps, t :: ts => p.2 t && formsP ps ts
  | [], _ => true
  | _ :: _, [] => false
theorem iE : ∀ (fs : List (FuncId × (Tree → Bool))) (l : List Tree), fs.length ≤ l.length → (formsP fs l = true ↔ ∀ i (hi : i < fs.length) (hk : i < l.length), fs[i].2 l[i] = true)
  | [], l, _ => by simp [formsP]
  | p :: ps, [], h => by simp at h
  | p :: ps, t :: ts, h => by
    rw [formsP, Bool.and_eq_true, iE ps ts (by simpa using h)]
    constructor
    · rintro ⟨h1, h2⟩ i hi hk
      cases i with
      | zero => exact h1
      | succ i => exact h2 i (by simpa using hi) (by simpa using hk)
    · intro h
      exact ⟨h 0 (by simp) (by simp), fun i hi hk => h (i + 1) (by simpa using hi) (by simpa using hk)⟩
def kidsP (kids : List Tree) (more : Bool) (fs : List (FuncId × (Tree → Bool))) : Bool := decide (fs.length ≤ kids.length) && (more || decide (kids.length ≤ fs.length)) && formsP fs kids
def fsIv (fs : List (FuncId × (Tree → Bool))) : List IV := fs.map fun p => .func p.1 [] []
theorem tR (fs : List (FuncId × (Tree → Bool))) (i : Nat) (h : i < fs.length) : (fsIv fs)[i * 1]? = some (.func fs[i].1 [] []) := by simp [fsIv, h]
set_option maxHeartbeats 4000000 in
set_option maxRecDepth 10000 in
theorem eH (k n : Int) (a b : ByteArray) (kids : List Tree) (more : Bool) (fs : List (FuncId × (Tree → Bool))) (hlen : fs.length < 1000) (hl : kids.length < 1000000000)
    (hf : ∀ i (hi : i < fs.length) (hk : i < kids.length), ACalls Try.prog fs[i].1 [.imm kids[i].iv] [] (.imm (.lit (.bool (fs[i].2 kids[i])))) []) :
    ACalls Try.prog 87 [.imm (Tree.iv (.node k n a b kids)), .imm (.lit (.bool more)), .imm (.sl true fs.length (fsIv fs))] [] (.imm (.lit (.bool (kidsP kids more fs)))) [] := by
  refine bR Try.func87 rfl rfl (nb rfl) rfl ?_
  repeat' (first | refine bG ?_ | (refine bJ ?_; first | refine aR tabOk rfl rfl rfl (nb rfl) rfl ?_ | refine aZ rfl rfl (nb rfl) ?_ | (refine bI rfl rfl rfl (nb rfl) rfl rfl rfl (fun hq => ?_) (fun hq => ?_) <;> (first | (simp only [sD, sE, sB, sC, sN, sM, sT, sF] at hq; try (exfalso; omega)) | skip)) | refine aD rfl rfl rfl (nb rfl) rfl rfl (by omega) ?_ | refine bC rfl rfl rfl (nb rfl) rfl rfl rfl (by omega) (by omega) ?_ | refine bD rfl rfl rfl (nb rfl) rfl rfl rfl (by omega) (by omega) ?_ | refine bB tabOk rfl rfl rfl (nb rfl) rfl rfl rfl rfl rfl rfl rfl rfl rfl ?_ | refine aT tabOk rfl rfl (nb rfl) rfl ?_ | refine aN tabOk rfl rfl rfl (nb rfl) rfl rfl rfl rfl rfl rfl ?_ | refine aO tabOk rfl rfl rfl (nb rfl) rfl rfl rfl rfl ?_ | refine aK tabOk rfl rfl rfl rfl rfl rfl rfl rfl rfl rfl rfl ?_ | refine aP tabOk rfl rfl rfl (nb rfl) rfl rfl rfl rfl (by first | assumption | omega) ?_ | refine aH tabOk rfl rfl rfl (nb rfl) rfl rfl rfl rfl (by first | rfl | omega) (by first | omega | simp) ?_ | refine aB tabOk rfl rfl rfl (nb rfl) rfl rfl rfl (by assumption) ?_ | refine aB tabOk rfl rfl rfl (nb rfl) rfl rfl rfl (bM _ _ (by first | assumption | omega)) ?_ | refine aD rfl rfl rfl (nb rfl) rfl rfl (by omega) ?_ | ((fail_if_success (refine aE (b := true) rfl rfl rfl ?_)); (fail_if_success (refine aE (b := false) rfl rfl rfl ?_)); refine aQ rfl rfl rfl (fun hq => ?_) (fun hq => ?_) <;> first | subst hq | (first | (simp only [sD, sE, sB, sC, sN, sM, sT, sF] at hq; try (exfalso; omega)) | skip)) | fail) | (refine bQ ?_; first | refine bH ?_ | refine bN ?_ | refine aL ?_ | refine aX ?_ | refine bO ?_ | refine bF ?_ | refine bE ?_ | refine aA (b := true) rfl (fun _ => ?_) nTf | refine aA (b := false) rfl nFt (fun _ => ?_) | refine aY ?_ | refine aW ?_ | refine aU mixed (by kernel_rfl) ?_ | refine aC mixed (by kernel_rfl) ?_ | (refine aA rfl (fun hq => ?_) (fun hq => ?_) <;> first | subst hq | (first | (simp only [sD, sE, sB, sC, sN, sM, sT, sF] at hq; try (exfalso; omega)) | skip)) | fail) | (refine bK ?_; first | refine bT ?_ | refine aI ?_ | refine aM ?_ | fail) | (refine bA ?_; first | refine bP ?_ | refine aF ?_ | refine aG (by decide) ?_ | refine aJ ?_ | fail) | refine bL (aV (by kernel_rfl)) ?_ | fail)
  · refine bV (by first | exact .inl rfl | exact .inr rfl) (bU rfl (aS rfl)) rfl ?_; refine cE ?_; simp_all [kidsP]; omega
  · refine bV (by first | exact .inl rfl | exact .inr rfl) (bU rfl (aS rfl)) rfl ?_; refine cE ?_; simp_all [kidsP]; omega
  all_goals
    have hle : fs.length ≤ kids.length := by omega
    have hmore : (more || decide (kids.length ≤ fs.length)) = true := by simp_all; try omega
    refine cJ (ι := {j : Nat // j ≤ fs.length ∧ ∀ i (hi : i < fs.length) (hk : i < kids.length), i < j → fs[i].2 kids[i] = true}) (fun j => S.f ⟨[(33, .imm (.lit (.int .i64 (j.1 : Int)))), (32, .imm (.lit (.int .i64 (fs.length : Int)))), (31, .imm (.sl true fs.length (fsIv fs))), (0, .imm (Tree.iv (.node k n a b kids)))], []⟩) (fun j => fs.length - j.1) ⟨0, Nat.zero_le _, fun i _ _ hi => absurd hi (Nat.not_lt_zero _)⟩ (cB (by repeat' first | exact trivial | refine ⟨rfl, ?_⟩) (by repeat' first | exact trivial | refine ⟨rfl, ?_⟩)) ?_
    rintro ⟨j, hj, hok⟩
    dsimp only
    by_cases hlt : j < fs.length
    · have hltk : j < kids.length := by omega
      repeat' (first | refine bG ?_ | (refine bJ ?_; first | refine aR tabOk rfl rfl rfl (nb rfl) rfl ?_ | refine aZ rfl rfl (nb rfl) ?_ | (refine bI rfl rfl rfl (nb rfl) rfl rfl rfl (fun hq => ?_) (fun hq => ?_) <;> (first | (simp only [sD, sE, sB, sC, sN, sM, sT, sF] at hq; try (exfalso; omega)) | skip))| refine aB tabOk rfl rfl rfl (nb rfl) rfl rfl rfl (tR fs j hlt) ?_ | (refine bW rfl rfl rfl (nb rfl) rfl rfl rfl (hf j hlt hltk) (fun hq => ?_) (fun hq => ?_)) | refine aD rfl rfl rfl (nb rfl) rfl rfl (by omega) ?_ | refine bC rfl rfl rfl (nb rfl) rfl rfl rfl (by omega) (by omega) ?_ | refine bD rfl rfl rfl (nb rfl) rfl rfl rfl (by omega) (by omega) ?_ | refine bB tabOk rfl rfl rfl (nb rfl) rfl rfl rfl rfl rfl rfl rfl rfl rfl ?_ | refine aT tabOk rfl rfl (nb rfl) rfl ?_ | refine aN tabOk rfl rfl rfl (nb rfl) rfl rfl rfl rfl rfl rfl ?_ | refine aO tabOk rfl rfl rfl (nb rfl) rfl rfl rfl rfl ?_ | refine aK tabOk rfl rfl rfl rfl rfl rfl rfl rfl rfl rfl rfl ?_ | refine aP tabOk rfl rfl rfl (nb rfl) rfl rfl rfl rfl (by first | assumption | omega) ?_ | refine aH tabOk rfl rfl rfl (nb rfl) rfl rfl rfl rfl (by first | rfl | omega) (by first | omega | simp) ?_ | refine aB tabOk rfl rfl rfl (nb rfl) rfl rfl rfl (by assumption) ?_ | refine aB tabOk rfl rfl rfl (nb rfl) rfl rfl rfl (bM _ _ (by first | assumption | omega)) ?_ | refine aD rfl rfl rfl (nb rfl) rfl rfl (by omega) ?_ | ((fail_if_success (refine aE (b := true) rfl rfl rfl ?_)); (fail_if_success (refine aE (b := false) rfl rfl rfl ?_)); refine aQ rfl rfl rfl (fun hq => ?_) (fun hq => ?_) <;> first | subst hq | (first | (simp only [sD, sE, sB, sC, sN, sM, sT, sF] at hq; try (exfalso; omega)) | skip)) | fail) | (refine bQ ?_; first | refine bH ?_ | refine bN ?_ | refine aL ?_ | refine aX ?_ | refine bO ?_ | refine bF ?_ | refine bE ?_ | refine aA (b := true) rfl (fun _ => ?_) nTf | refine aA (b := false) rfl nFt (fun _ => ?_) | refine aY ?_ | refine aW ?_ | refine aU mixed (by kernel_rfl) ?_ | refine aC mixed (by kernel_rfl) ?_ | (refine aA rfl (fun hq => ?_) (fun hq => ?_) <;> first | subst hq | (first | (simp only [sD, sE, sB, sC, sN, sM, sT, sF] at hq; try (exfalso; omega)) | skip)) | fail) | (refine bK ?_; first | refine bT ?_ | refine aI ?_ | refine aM ?_ | fail) | (refine bA ?_; first | refine bP ?_ | refine aF ?_ | refine aG (by decide) ?_ | refine aJ ?_ | fail) | refine bL (aV (by kernel_rfl)) ?_ | fail)
      all_goals first
        | (have hq : fs[j].2 kids[j] = false := by assumption
           refine bV (by first | exact .inl rfl | exact .inr rfl) (bU rfl (aS rfl)) rfl ?_; refine cE ?_; symm; rw [Bool.eq_false_iff]; intro hc
           simp only [kidsP, Bool.and_eq_true] at hc
           have := (iE fs kids hle).1 hc.2 j hlt hltk
           rw [hq] at this; cases this; done)
        | (have hq : fs[j].2 kids[j] = true := by assumption
           exact ⟨⟨j + 1, hlt, fun i hi hk hij => by
             by_cases e : i = j
             · subst e; exact hq
             · exact hok i hi hk (by omega)⟩, (by show fs.length - (j + 1) < fs.length - j; omega), (cB (by repeat' first | exact trivial | refine ⟨rfl, ?_⟩) (by repeat' first | exact trivial | refine ⟨rfl, ?_⟩))⟩)
    · repeat' (first | refine bG ?_ | (refine bJ ?_; first | refine aR tabOk rfl rfl rfl (nb rfl) rfl ?_ | refine aZ rfl rfl (nb rfl) ?_ | (refine bI rfl rfl rfl (nb rfl) rfl rfl rfl (fun hq => ?_) (fun hq => ?_) <;> (first | (simp only [sD, sE, sB, sC, sN, sM, sT, sF] at hq; try (exfalso; omega)) | skip)) | refine aD rfl rfl rfl (nb rfl) rfl rfl (by omega) ?_ | refine bC rfl rfl rfl (nb rfl) rfl rfl rfl (by omega) (by omega) ?_ | refine bD rfl rfl rfl (nb rfl) rfl rfl rfl (by omega) (by omega) ?_ | refine bB tabOk rfl rfl rfl (nb rfl) rfl rfl rfl rfl rfl rfl rfl rfl rfl ?_ | refine aT tabOk rfl rfl (nb rfl) rfl ?_ | refine aN tabOk rfl rfl rfl (nb rfl) rfl rfl rfl rfl rfl rfl ?_ | refine aO tabOk rfl rfl rfl (nb rfl) rfl rfl rfl rfl ?_ | refine aK tabOk rfl rfl rfl rfl rfl rfl rfl rfl rfl rfl rfl ?_ | refine aP tabOk rfl rfl rfl (nb rfl) rfl rfl rfl rfl (by first | assumption | omega) ?_ | refine aH tabOk rfl rfl rfl (nb rfl) rfl rfl rfl rfl (by first | rfl | omega) (by first | omega | simp) ?_ | refine aB tabOk rfl rfl rfl (nb rfl) rfl rfl rfl (by assumption) ?_ | refine aB tabOk rfl rfl rfl (nb rfl) rfl rfl rfl (bM _ _ (by first | assumption | omega)) ?_ | refine aD rfl rfl rfl (nb rfl) rfl rfl (by omega) ?_ | ((fail_if_success (refine aE (b := true) rfl rfl rfl ?_)); (fail_if_success (refine aE (b := false) rfl rfl rfl ?_)); refine aQ rfl rfl rfl (fun hq => ?_) (fun hq => ?_) <;> first | subst hq | (first | (simp only [sD, sE, sB, sC, sN, sM, sT, sF] at hq; try (exfalso; omega)) | skip)) | fail) | (refine bQ ?_; first | refine bH ?_ | refine bN ?_ | refine aL ?_ | refine aX ?_ | refine bO ?_ | refine bF ?_ | refine bE ?_ | refine aA (b := true) rfl (fun _ => ?_) nTf | refine aA (b := false) rfl nFt (fun _ => ?_) | refine aY ?_ | refine aW ?_ | refine aU mixed (by kernel_rfl) ?_ | refine aC mixed (by kernel_rfl) ?_ | (refine aA rfl (fun hq => ?_) (fun hq => ?_) <;> first | subst hq | (first | (simp only [sD, sE, sB, sC, sN, sM, sT, sF] at hq; try (exfalso; omega)) | skip)) | fail) | (refine bK ?_; first | refine bT ?_ | refine aI ?_ | refine aM ?_ | fail) | (refine bA ?_; first | refine bP ?_ | refine aF ?_ | refine aG (by decide) ?_ | refine aJ ?_ | fail) | refine bL (aV (by kernel_rfl)) ?_ | fail)
      all_goals (refine bV (by first | exact .inl rfl | exact .inr rfl) (bU rfl (aS rfl)) rfl ?_; refine cE ?_; simp only [kidsP, hmore, Bool.and_true]; rw [(iE fs kids hle).2 (fun i hi hk => hok i hi hk (by omega))]; simp [hle])
end Go.Proofs.Ytlbemgokilhdnaa.Ab
namespace Go.Proofs.Ytlbemgokilhdnaa.Ab
set_option linter.unusedVariables false
set_option linter.unusedSimpArgs false
/-- No name is ahead of the one before it. -/
def steadyP : List Tree → Bool
  | t :: u :: r => !(ltB u.name t.name) && steadyP (u :: r)
  | _ => true
theorem fB : ∀ (l : List Tree), steadyP l = true ↔ ∀ i (hi : i + 1 < l.length), ltB l[i + 1].name (l[i]'(by omega)).name = false
  | [] => by simp [steadyP]
  | [x] => by simp [steadyP]
  | t :: u :: r => by
    rw [steadyP, Bool.and_eq_true, fB (u :: r), Bool.not_eq_true']
    constructor
    · rintro ⟨h1, h2⟩ i hi
      cases i with
      | zero => simpa using h1
      | succ i => exact h2 i (by simpa using hi)
    · intro h
      exact ⟨h 0 (by simp), fun i hi => h (i + 1) (by simpa using hi)⟩
def namedK (k : Int) : Bool := k == 138 || k == 146
def headP (k n : Int) (a b : ByteArray) : Bool := eqB b emptyB && (namedK k == !(eqB a emptyB)) && (!(namedK k) || labelP a) && numberP k n
mutual
def isTermP : Tree → Bool
  | .nil => false
  | .node k n a b kids => headP k n a b &&
    (if k = 130 ∨ k = 131 ∨ k = 132 ∨ k = 133 then kids.isEmpty
     else if k = 134 then isT_ct kids
     else if k = 139 then isT_kt kids
     else if k = 135 ∨ k = 142 ∨ k = 143 ∨ k = 145 then isT_tt kids
     else if k = 136 then fieldsP kids 137 && distinctP kids && steadyP kids
     else if k = 138 then isT_t kids
     else if k = 140 then isT_tc kids
     else if k = 141 then isT_ctc kids
     else if k = 144 then isT_ttt kids
     else if k = 146 then isT_ct kids
     else if k = 147 then isT_ta kids
     else if k = 148 then isT_tca kids
     else false)
def isT_t : List Tree → Bool
  | [x] => isTermP x
  | _ => false
def isT_ct : List Tree → Bool
  | [x, y] => tconP x && isTermP y
  | _ => false
def isT_kt : List Tree → Bool
  | [x, y] => tkindP x && isTermP y
  | _ => false
def isT_tt : List Tree → Bool
  | [x, y] => isTermP x && isTermP y
  | _ => false
def isT_tc : List Tree → Bool
  | [x, y] => isTermP x && tconP y
  | _ => false
def isT_ctc : List Tree → Bool
  | [x, y, z] => tconP x && isTermP y && tconP z
  | _ => false
def isT_ttt : List Tree → Bool
  | [x, y, z] => isTermP x && isTermP y && isTermP z
  | _ => false
def isT_ta : List Tree → Bool
  | x :: y :: r => isTermP x && (fieldsP (y :: r) 149 && distinctP (y :: r))
  | _ => false
def isT_tca : List Tree → Bool
  | x :: y :: z :: r => isTermP x && tconP y && (fieldsP (z :: r) 149 && distinctP (z :: r))
  | _ => false
def fieldsP : List Tree → Int → Bool
  | [], _ => true
  | .nil :: _, _ => false
  | .node k n a b ks :: ts, kind => (k == kind && n == 0 && eqB b emptyB && labelP a && isT_t ks) && fieldsP ts kind
end
/-- One field, one arm. -/
def okField (kind : Int) : Tree → Bool
  | .nil => false
  | .node k n a b ks => k == kind && n == 0 && eqB b emptyB && labelP a && isT_t ks
theorem gN (kind : Int) (l : List Tree) : fieldsP l kind = l.all (okField kind) := by
  induction l with
  | nil => simp [fieldsP]
  | cons t ts ih => cases t <;> simp [fieldsP, okField, ih]
end Go.Proofs.Ytlbemgokilhdnaa.Ab
namespace Go.Proofs.Ytlbemgokilhdnaa.Ab
set_option linter.unusedVariables false
set_option linter.unusedSimpArgs false
attribute [local irreducible] AWP AOps AExit AThen ABlock ANoGoto FeetOk
theorem nU (f : FuncId) (l : List Tree) : kidsP l false [(f, isTermP)] = isT_t l := by
  rcases l with _ | ⟨x, _ | ⟨y, r⟩⟩ <;> simp [kidsP, formsP, isT_t]
def labelledP (l : List Tree) (kind : Int) (rise : Bool) : Bool := fieldsP l kind && distinctP l && (!rise || steadyP l)
theorem sH (a : ByteArray) : Op.bytesLess a.toList emptyB.toList = false := by
  have : emptyB.toList = [] := by rw [ByteArray.toList_eq]; rfl
  rw [this]
  cases a.toList <;> rfl
set_option maxHeartbeats 8000000 in
set_option maxRecDepth 10000 in
theorem iV (l : List Tree) (kind : Int) (rise : Bool) (h : Tree.wholes l = true) (hsz : Tree.sizes l ≤ 1000000)
    (ht : ∀ t', t'.size < Tree.sizes l → t'.whole = true → ACalls Try.prog 57 [.imm t'.iv] [] (.imm (.lit (.bool (isTermP t')))) []) :
    ACalls Try.prog 90 [.imm (.sl false l.length (Tree.ivs l)), .imm (.lit (.int .i64 kind)), .imm (.lit (.bool rise))] [] (.imm (.lit (.bool (labelledP l kind rise)))) [] := by
  have hl : l.length < 1000000000 := by have := cA l h; omega
  refine bR Try.func90 rfl rfl (nb rfl) rfl ?_
  repeat' (first | refine bG ?_ | (refine bJ ?_; first | refine aR tabOk rfl rfl rfl (nb rfl) rfl ?_ | refine aZ rfl rfl (nb rfl) ?_ | (refine bI rfl rfl rfl (nb rfl) rfl rfl rfl (fun hq => ?_) (fun hq => ?_) <;> (first | (simp only [sD, sE, sB, sC, sN, sM, sT, sF] at hq; try (exfalso; omega)) | skip))| refine eK rfl rfl rfl (nb rfl) rfl rfl rfl ?_ | (refine eL tabOk rfl rfl rfl (nb rfl) rfl rfl rfl rfl rfl rfl rfl rfl (rfl) (fun hq => ?_) (fun hq => ?_)) | refine eY tabOk rfl rfl rfl rfl rfl rfl rfl rfl rfl rfl rfl (hno (by assumption)) ?_ | refine eD tabOk rfl rfl rfl (nb rfl) rfl rfl rfl rfl rfl rfl rfl rfl (hno (by assumption)) ?_ | refine eE rfl rfl rfl rfl rfl rfl rfl rfl rfl ?_ | refine aD rfl rfl rfl (nb rfl) rfl rfl (by omega) ?_ | refine bC rfl rfl rfl (nb rfl) rfl rfl rfl (by omega) (by omega) ?_ | refine bD rfl rfl rfl (nb rfl) rfl rfl rfl (by omega) (by omega) ?_ | refine bB tabOk rfl rfl rfl (nb rfl) rfl rfl rfl rfl rfl rfl rfl rfl rfl ?_ | refine aT tabOk rfl rfl (nb rfl) rfl ?_ | refine aN tabOk rfl rfl rfl (nb rfl) rfl rfl rfl rfl rfl rfl ?_ | refine aO tabOk rfl rfl rfl (nb rfl) rfl rfl rfl rfl ?_ | refine aK tabOk rfl rfl rfl rfl rfl rfl rfl rfl rfl rfl rfl ?_ | refine aP tabOk rfl rfl rfl (nb rfl) rfl rfl rfl rfl (by first | assumption | omega) ?_ | refine aH tabOk rfl rfl rfl (nb rfl) rfl rfl rfl rfl (by first | rfl | omega) (by first | omega | simp) ?_ | refine aB tabOk rfl rfl rfl (nb rfl) rfl rfl rfl (by assumption) ?_ | refine aB tabOk rfl rfl rfl (nb rfl) rfl rfl rfl (bM _ _ (by first | assumption | omega)) ?_ | refine aD rfl rfl rfl (nb rfl) rfl rfl (by omega) ?_ | ((fail_if_success (refine aE (b := true) rfl rfl rfl ?_)); (fail_if_success (refine aE (b := false) rfl rfl rfl ?_)); refine aQ rfl rfl rfl (fun hq => ?_) (fun hq => ?_) <;> first | subst hq | (first | (simp only [sD, sE, sB, sC, sN, sM, sT, sF] at hq; try (exfalso; omega)) | skip)) | fail) | (refine bQ ?_; first | refine bH ?_ | refine bN ?_ | refine aL ?_ | refine aX ?_ | refine bO ?_ | refine bF ?_ | refine bE ?_ | refine aA (b := true) rfl (fun _ => ?_) nTf | refine aA (b := false) rfl nFt (fun _ => ?_) | refine aY ?_ | refine aW ?_ | refine aU mixed (by kernel_rfl) ?_ | refine aC mixed (by kernel_rfl) ?_ | (refine aA rfl (fun hq => ?_) (fun hq => ?_) <;> first | subst hq | (first | (simp only [sD, sE, sB, sC, sN, sM, sT, sF] at hq; try (exfalso; omega)) | skip)) | fail) | (refine bK ?_; first | refine bT ?_ | refine aI ?_ | refine aM ?_ | fail) | (refine bA ?_; first | refine bP ?_ | refine aF ?_ | refine aG (by decide) ?_ | refine aJ ?_ | fail) | refine bL (aV (by kernel_rfl)) ?_ | fail)
  refine cJ (ι := {p : Nat × List (ByteArray × IV) × ByteArray // p.1 ≤ l.length ∧ p.2.1 = seenL (l.take p.1) ∧ (p.1 = 0 → p.2.2 = emptyB) ∧ (∀ i (hi : i < l.length), i + 1 = p.1 → p.2.2 = l[i].name) ∧ (∀ i (hi : i < l.length), i < p.1 → okField kind l[i] = true) ∧
      (∀ i i' (h1 : i < i') (h2 : i' < l.length), i' < p.1 → eqB l[i'].name (l[i]'(by omega)).name = false) ∧ (rise = true → ∀ i (hi : i + 1 < l.length), i + 1 < p.1 → ltB l[i + 1].name (l[i]'(by omega)).name = false)})
    (fun p => S.f ⟨[(14, .imm (.lit (.int .i64 (p.1.1 : Int)))), (13, .imm (.lit (.int .i64 (l.length : Int)))), (12, .imm (.sl false l.length (Tree.ivs l))), (7, .mp 11), (8, .imm (.lit (.string p.1.2.2))), (1, .imm (.lit (.int .i64 kind))), (2, .imm (.lit (.bool rise)))], [(11, .map p.1.2.1)]⟩) (fun p => l.length - p.1.1)
    ⟨(0, [], emptyB), Nat.zero_le _, rfl, fun _ => rfl, fun i _ hi => by omega, fun i _ hi => absurd hi (Nat.not_lt_zero _), fun i i' _ _ hi => absurd hi (Nat.not_lt_zero _), fun _ i _ hi => absurd hi (Nat.not_lt_zero _)⟩ (cB (by repeat' first | exact trivial | refine ⟨rfl, ?_⟩) (by repeat' first | exact trivial | refine ⟨rfl, ?_⟩)) ?_
  rintro ⟨⟨j, ml, last⟩, hj, hs, hlast0, hlast, hok, hdi, hst⟩
  dsimp only at hj hs hlast0 hlast hok hdi hst ⊢
  by_cases hlt : j < l.length
  · obtain ⟨k1, n1, a1, b1, ks1, e1, hget, hw1⟩ := eB h hlt
    have hb := mS (l.take j) a1
    rw [← hs] at hb
    have hno : ((l.take j).any fun u => eqB u.name a1) = false → mget ml a1 = none := fun h => by rw [hs]; exact mT h
    have hm1 := cP (List.getElem_mem hlt)
    rw [e1] at hm1
    have hl1 : ks1.length < 1000000000 := by have := cA ks1 hw1; simp only [Tree.size] at hm1; omega
    have hf : ∀ i (hi : i < [((57 : FuncId), isTermP)].length) (hk : i < ks1.length), ACalls Try.prog [((57 : FuncId), isTermP)][i].1 [.imm ks1[i].iv] [] (.imm (.lit (.bool ([((57 : FuncId), isTermP)][i].2 ks1[i])))) [] := fun i hi hk => by
      have : i = 0 := by simpa using hi
      subst this
      have h2 := cH (k := k1) (n := n1) (a := a1) (b := b1) (List.getElem_mem hk)
      exact ht _ (by omega) (bY hw1 (List.getElem_mem hk))
    have hmeet : ((l.take j).any fun u => eqB u.name a1) = true → labelledP l kind rise = false := fun h => by
      rw [Bool.eq_false_iff]
      intro hd
      simp only [labelledP, Bool.and_eq_true] at hd
      have hd := (dE _).1 hd.1.2
      rw [List.any_eq_true] at h
      obtain ⟨u, hu, hub⟩ := h
      obtain ⟨i, hi, rfl⟩ := List.getElem_of_mem hu
      simp only [List.length_take] at hi
      have h2 := hd i j (by omega) hlt
      rw [e1] at h2
      simp only [List.getElem_take] at hub
      rw [(cU _ _).1 hub] at h2
      have h3 := (cU a1 a1).2 rfl
      rw [show Tree.name (Tree.node k1 n1 a1 b1 ks1) = a1 from rfl, h3] at h2
      cases h2
    have hnext : ((l.take j).any fun u => eqB u.name a1) = false → ∀ i i' (h1 : i < i') (h2 : i' < l.length), i' < j + 1 → eqB l[i'].name (l[i]'(by omega)).name = false := fun h i i' h1 h2 h3 => by
      by_cases e : i' = j
      · subst e
        rw [List.any_eq_false] at h
        have := h l[i] (List.mem_iff_getElem.2 ⟨i, by simp; omega, by simp⟩)
        rw [e1]
        rw [Bool.eq_false_iff]
        intro hc
        exact this ((cU _ _).2 ((cU _ _).1 hc).symm)
      · exact hdi i i' h1 h2 (by omega)
    have hlast1 : ∀ i (hi : i < l.length), i + 1 = j + 1 → a1 = l[i].name := fun i hi hij => by
      have : i = j := by omega
      subst this
      rw [e1]; rfl
    have hbad : okField kind (Tree.node k1 n1 a1 b1 ks1) = false → labelledP l kind rise = false := fun hb => by
      simp only [labelledP, gN, eG hlt (by rw [e1]; exact hb), Bool.false_and]
    have hgood : okField kind (Tree.node k1 n1 a1 b1 ks1) = true → ∀ i (hi : i < l.length), i < j + 1 → okField kind l[i] = true := fun hgb i hi hij => by
      by_cases e : i = j
      · subst e; rw [e1]; exact hgb
      · exact hok i hi (by omega)
    have hfall : rise = true → Op.bytesLess a1.toList last.toList = true → labelledP l kind rise = false := fun hr hb => by
      rw [Bool.eq_false_iff]
      intro hd
      simp only [labelledP, Bool.and_eq_true, hr, Bool.not_true, Bool.false_or] at hd
      by_cases hj0 : j = 0
      · rw [hlast0 hj0, sH] at hb; cases hb
      · have h2 := (fB _).1 hd.2 (j - 1) (by omega)
        have x1 : l[j - 1 + 1]'(by omega) = Tree.node k1 n1 a1 b1 ks1 := by simpa only [show j - 1 + 1 = j by omega] using e1
        rw [x1, ← hlast (j - 1) (by omega) (by omega)] at h2
        have h3 : Op.bytesLess a1.toList last.toList = false := h2
        rw [h3] at hb; cases hb
    have hrise : (rise = true → Op.bytesLess a1.toList last.toList = false) → rise = true → ∀ i (hi : i + 1 < l.length), i + 1 < j + 1 → ltB l[i + 1].name (l[i]'(by omega)).name = false := fun hb hr i hi hij => by
      by_cases e : i + 1 = j
      · have x1 : l[i + 1] = Tree.node k1 n1 a1 b1 ks1 := by simpa only [e] using e1
        rw [x1, ← hlast i (by omega) e]
        exact hb hr
      · exact hst hr i hi (by omega)
    repeat' (first | refine bG ?_ | (refine bJ ?_; first | refine aR tabOk rfl rfl rfl (nb rfl) rfl ?_ | refine aZ rfl rfl (nb rfl) ?_ | (refine bI rfl rfl rfl (nb rfl) rfl rfl rfl (fun hq => ?_) (fun hq => ?_) <;> (first | (simp only [sD, sE, sB, sC, sN, sM, sT, sF] at hq; try (exfalso; omega)) | skip))| refine eK rfl rfl rfl (nb rfl) rfl rfl rfl ?_ | (refine eL tabOk rfl rfl rfl (nb rfl) rfl rfl rfl rfl rfl rfl rfl rfl (hb) (fun hq => ?_) (fun hq => ?_)) | refine eY tabOk rfl rfl rfl rfl rfl rfl rfl rfl rfl rfl rfl (hno (by assumption)) ?_ | refine eD tabOk rfl rfl rfl (nb rfl) rfl rfl rfl rfl rfl rfl rfl rfl (hno (by assumption)) ?_ | refine eE rfl rfl rfl rfl rfl rfl rfl rfl rfl ?_ | (refine bW rfl rfl rfl (nb rfl) rfl rfl rfl (lN _) (fun hq => ?_) (fun hq => ?_)) | (refine bW rfl rfl rfl (nb rfl) rfl rfl rfl (eH _ _ _ _ _ false [((57 : FuncId), isTermP)] (by decide) hl1 hf) (fun hq => ?_) (fun hq => ?_)) | refine aD rfl rfl rfl (nb rfl) rfl rfl (by omega) ?_ | refine bC rfl rfl rfl (nb rfl) rfl rfl rfl (by omega) (by omega) ?_ | refine bD rfl rfl rfl (nb rfl) rfl rfl rfl (by omega) (by omega) ?_ | refine bB tabOk rfl rfl rfl (nb rfl) rfl rfl rfl rfl rfl rfl rfl rfl rfl ?_ | refine aT tabOk rfl rfl (nb rfl) rfl ?_ | refine aN tabOk rfl rfl rfl (nb rfl) rfl rfl rfl rfl rfl rfl ?_ | refine aO tabOk rfl rfl rfl (nb rfl) rfl rfl rfl rfl ?_ | refine aK tabOk rfl rfl rfl rfl rfl rfl rfl rfl rfl rfl rfl ?_ | refine aP tabOk rfl rfl rfl (nb rfl) rfl rfl rfl rfl (by first | assumption | omega) ?_ | refine aH tabOk rfl rfl rfl (nb rfl) rfl rfl rfl rfl (by first | rfl | omega) (by first | omega | simp) ?_ | refine aB tabOk rfl rfl rfl (nb rfl) rfl rfl rfl (by assumption) ?_ | refine aB tabOk rfl rfl rfl (nb rfl) rfl rfl rfl (bM _ _ (by first | assumption | omega)) ?_ | refine aD rfl rfl rfl (nb rfl) rfl rfl (by omega) ?_ | ((fail_if_success (refine aE (b := true) rfl rfl rfl ?_)); (fail_if_success (refine aE (b := false) rfl rfl rfl ?_)); refine aQ rfl rfl rfl (fun hq => ?_) (fun hq => ?_) <;> first | subst hq | (first | (simp only [sD, sE, sB, sC, sN, sM, sT, sF] at hq; try (exfalso; omega)) | skip)) | fail) | (refine bQ ?_; first | refine bH ?_ | refine bN ?_ | refine aL ?_ | refine aX ?_ | refine bO ?_ | refine bF ?_ | refine bE ?_ | refine aA (b := true) rfl (fun _ => ?_) nTf | refine aA (b := false) rfl nFt (fun _ => ?_) | refine aY ?_ | refine aW ?_ | refine aU mixed (by kernel_rfl) ?_ | refine aC mixed (by kernel_rfl) ?_ | (refine aA rfl (fun hq => ?_) (fun hq => ?_) <;> first | subst hq | (first | (simp only [sD, sE, sB, sC, sN, sM, sT, sF] at hq; try (exfalso; omega)) | skip)) | fail) | (refine bK ?_; first | refine bT ?_ | refine aI ?_ | refine aM ?_ | fail) | (refine bA ?_; first | refine bP ?_ | refine aF ?_ | refine aG (by decide) ?_ | refine aJ ?_ | fail) | refine bL (aV (by kernel_rfl)) ?_ | fail)
    all_goals first
      | (refine bV (by first | exact .inl rfl | exact .inr rfl) (bU rfl (aS rfl)) rfl ?_; refine cE ?_; symm; first
          | exact hmeet (by assumption)
          | exact hfall rfl (by assumption)
          | (refine hbad ?_; simp_all [okField, nU, eqB, emptyB]; done))
      | exact ⟨⟨(j + 1, ml ++ [(a1, .lit (.bool true))], a1), hlt, (hs ▸ mU l _ j hlt e1), (fun h => by cases h), hlast1,
          hgood (by simp_all [okField, nU, eqB, emptyB]), hnext (by assumption), hrise (by first | (intro _; assumption) | (intro h; cases h))⟩, (by show l.length - (j + 1) < l.length - j; omega), (cB (by repeat' first | exact trivial | refine ⟨rfl, ?_⟩) (by repeat' first | exact trivial | refine ⟨rfl, ?_⟩))⟩
  · repeat' (first | refine bG ?_ | (refine bJ ?_; first | refine aR tabOk rfl rfl rfl (nb rfl) rfl ?_ | refine aZ rfl rfl (nb rfl) ?_ | (refine bI rfl rfl rfl (nb rfl) rfl rfl rfl (fun hq => ?_) (fun hq => ?_) <;> (first | (simp only [sD, sE, sB, sC, sN, sM, sT, sF] at hq; try (exfalso; omega)) | skip)) | refine aD rfl rfl rfl (nb rfl) rfl rfl (by omega) ?_ | refine bC rfl rfl rfl (nb rfl) rfl rfl rfl (by omega) (by omega) ?_ | refine bD rfl rfl rfl (nb rfl) rfl rfl rfl (by omega) (by omega) ?_ | refine bB tabOk rfl rfl rfl (nb rfl) rfl rfl rfl rfl rfl rfl rfl rfl rfl ?_ | refine aT tabOk rfl rfl (nb rfl) rfl ?_ | refine aN tabOk rfl rfl rfl (nb rfl) rfl rfl rfl rfl rfl rfl ?_ | refine aO tabOk rfl rfl rfl (nb rfl) rfl rfl rfl rfl ?_ | refine aK tabOk rfl rfl rfl rfl rfl rfl rfl rfl rfl rfl rfl ?_ | refine aP tabOk rfl rfl rfl (nb rfl) rfl rfl rfl rfl (by first | assumption | omega) ?_ | refine aH tabOk rfl rfl rfl (nb rfl) rfl rfl rfl rfl (by first | rfl | omega) (by first | omega | simp) ?_ | refine aB tabOk rfl rfl rfl (nb rfl) rfl rfl rfl (by assumption) ?_ | refine aB tabOk rfl rfl rfl (nb rfl) rfl rfl rfl (bM _ _ (by first | assumption | omega)) ?_ | refine aD rfl rfl rfl (nb rfl) rfl rfl (by omega) ?_ | ((fail_if_success (refine aE (b := true) rfl rfl rfl ?_)); (fail_if_success (refine aE (b := false) rfl rfl rfl ?_)); refine aQ rfl rfl rfl (fun hq => ?_) (fun hq => ?_) <;> first | subst hq | (first | (simp only [sD, sE, sB, sC, sN, sM, sT, sF] at hq; try (exfalso; omega)) | skip)) | fail) | (refine bQ ?_; first | refine bH ?_ | refine bN ?_ | refine aL ?_ | refine aX ?_ | refine bO ?_ | refine bF ?_ | refine bE ?_ | refine aA (b := true) rfl (fun _ => ?_) nTf | refine aA (b := false) rfl nFt (fun _ => ?_) | refine aY ?_ | refine aW ?_ | refine aU mixed (by kernel_rfl) ?_ | refine aC mixed (by kernel_rfl) ?_ | (refine aA rfl (fun hq => ?_) (fun hq => ?_) <;> first | subst hq | (first | (simp only [sD, sE, sB, sC, sN, sM, sT, sF] at hq; try (exfalso; omega)) | skip)) | fail) | (refine bK ?_; first | refine bT ?_ | refine aI ?_ | refine aM ?_ | fail) | (refine bA ?_; first | refine bP ?_ | refine aF ?_ | refine aG (by decide) ?_ | refine aJ ?_ | fail) | refine bL (aV (by kernel_rfl)) ?_ | fail)
    all_goals (refine bV (by first | exact .inl rfl | exact .inr rfl) (bU rfl (aS rfl)) rfl ?_; refine cE ?_; symm
               have z1 : fieldsP l kind = true := by rw [gN]; exact dT fun i hi => hok i hi (by omega)
               have z2 : distinctP l = true := (dE l).2 fun i i' h1 h2 => hdi i i' h1 h2 (by omega)
               have z3 : rise = true → steadyP l = true := fun hr => (fB l).2 fun i hi => hst hr i hi (by omega)
               simp only [labelledP, z1, z2, Bool.true_and]
               cases rise with
               | true => simp [z3 rfl]
               | false => rfl)
end Go.Proofs.Ytlbemgokilhdnaa.Ab
namespace Go.Proofs.Ytlbemgokilhdnaa.Ab
set_option linter.unusedVariables false
set_option linter.unusedSimpArgs false
attribute [local irreducible] AWP AOps AExit AThen ABlock ANoGoto FeetOk
theorem kD : ∀ (l : List Tree) (f : Nat), Tree.wholes l = true → Tree.wholes (l.drop f) = true
  | l, 0, h => h
  | [], f + 1, _ => rfl
  | t :: ts, f + 1, h => by
    simp only [Tree.wholes, Bool.and_eq_true] at h
    exact kD ts f h.2
theorem lO : ∀ (l : List Tree) (f : Nat), Tree.sizes (l.drop f) ≤ Tree.sizes l
  | l, 0 => Nat.le_refl _
  | [], f + 1 => Nat.le_refl _
  | t :: ts, f + 1 => by
    have := lO ts f
    simp only [List.drop_succ_cons, Tree.sizes]; omega
theorem tS (l : List Tree) (f : Nat) (h : f ≤ l.length) : IV.sl false (l.length - f) (((Tree.ivs l).drop (f * 1)).take ((l.length - f) * 1)) = IV.sl false (l.drop f).length (Tree.ivs (l.drop f)) := by
  rw [cT, cT, List.length_drop, Nat.mul_one, Nat.mul_one, ← List.map_drop, List.take_of_length_le (by simp)]
def armsP (kids : List Tree) (f : Nat) : Bool := decide (f < kids.length) && labelledP (kids.drop f) 149 false
set_option maxHeartbeats 4000000 in
set_option maxRecDepth 10000 in
theorem oW (k n : Int) (a b : ByteArray) (kids : List Tree) (f : Nat) (hf : f < 1000) (h : Tree.wholes kids = true) (hsz : Tree.sizes kids ≤ 1000000)
    (ht : ∀ t', t'.size ≤ Tree.sizes kids → t'.whole = true → ACalls Try.prog 57 [.imm t'.iv] [] (.imm (.lit (.bool (isTermP t')))) []) :
    ACalls Try.prog 91 [.imm (Tree.iv (.node k n a b kids)), .imm (.lit (.int .i64 (f : Int)))] [] (.imm (.lit (.bool (armsP kids f)))) [] := by
  have hd := lO kids f
  refine bR Try.func91 rfl rfl (nb rfl) rfl ?_
  repeat' (first | refine bG ?_ | (refine bJ ?_; first | refine aR tabOk rfl rfl rfl (nb rfl) rfl ?_ | refine aZ rfl rfl (nb rfl) ?_ | (refine bI rfl rfl rfl (nb rfl) rfl rfl rfl (fun hq => ?_) (fun hq => ?_) <;> (first | (simp only [sD, sE, sB, sC, sN, sM, sT, sF] at hq; try (exfalso; omega)) | skip))| refine dK tabOk rfl rfl rfl (nb rfl) rfl rfl rfl rfl rfl (by omega) (Nat.le_refl _) (tS kids f (by omega)) ?_ | (refine bW rfl rfl rfl (nb rfl) rfl rfl rfl (iV _ _ _ (kD kids f h) (by omega) (fun t' h1 h2 => ht t' (by omega) h2)) (fun hq => ?_) (fun hq => ?_)) | refine aD rfl rfl rfl (nb rfl) rfl rfl (by omega) ?_ | refine bC rfl rfl rfl (nb rfl) rfl rfl rfl (by omega) (by omega) ?_ | refine bD rfl rfl rfl (nb rfl) rfl rfl rfl (by omega) (by omega) ?_ | refine bB tabOk rfl rfl rfl (nb rfl) rfl rfl rfl rfl rfl rfl rfl rfl rfl ?_ | refine aT tabOk rfl rfl (nb rfl) rfl ?_ | refine aN tabOk rfl rfl rfl (nb rfl) rfl rfl rfl rfl rfl rfl ?_ | refine aO tabOk rfl rfl rfl (nb rfl) rfl rfl rfl rfl ?_ | refine aK tabOk rfl rfl rfl rfl rfl rfl rfl rfl rfl rfl rfl ?_ | refine aP tabOk rfl rfl rfl (nb rfl) rfl rfl rfl rfl (by first | assumption | omega) ?_ | refine aH tabOk rfl rfl rfl (nb rfl) rfl rfl rfl rfl (by first | rfl | omega) (by first | omega | simp) ?_ | refine aB tabOk rfl rfl rfl (nb rfl) rfl rfl rfl (by assumption) ?_ | refine aB tabOk rfl rfl rfl (nb rfl) rfl rfl rfl (bM _ _ (by first | assumption | omega)) ?_ | refine aD rfl rfl rfl (nb rfl) rfl rfl (by omega) ?_ | ((fail_if_success (refine aE (b := true) rfl rfl rfl ?_)); (fail_if_success (refine aE (b := false) rfl rfl rfl ?_)); refine aQ rfl rfl rfl (fun hq => ?_) (fun hq => ?_) <;> first | subst hq | (first | (simp only [sD, sE, sB, sC, sN, sM, sT, sF] at hq; try (exfalso; omega)) | skip)) | fail) | (refine bQ ?_; first | refine bH ?_ | refine bN ?_ | refine aL ?_ | refine aX ?_ | refine bO ?_ | refine bF ?_ | refine bE ?_ | refine aA (b := true) rfl (fun _ => ?_) nTf | refine aA (b := false) rfl nFt (fun _ => ?_) | refine aY ?_ | refine aW ?_ | refine aU mixed (by kernel_rfl) ?_ | refine aC mixed (by kernel_rfl) ?_ | (refine aA rfl (fun hq => ?_) (fun hq => ?_) <;> first | subst hq | (first | (simp only [sD, sE, sB, sC, sN, sM, sT, sF] at hq; try (exfalso; omega)) | skip)) | fail) | (refine bK ?_; first | refine bT ?_ | refine aI ?_ | refine aM ?_ | fail) | (refine bA ?_; first | refine bP ?_ | refine aF ?_ | refine aG (by decide) ?_ | refine aJ ?_ | fail) | refine bL (aV (by kernel_rfl)) ?_ | fail)
  all_goals (refine bV (by first | exact .inl rfl | exact .inr rfl) (bU rfl (aS rfl)) rfl ?_; refine cE ?_; first | (simp_all [armsP]; done) | (simp_all [armsP]; omega))
set_option maxHeartbeats 4000000 in
set_option maxRecDepth 10000 in
theorem sI (k n : Int) (a b : ByteArray) (kids : List Tree) : ACalls Try.prog 87 [.imm (Tree.iv (.node k n a b kids)), .imm (.lit (.bool false)), .imm (.lit (.slice none 0 0))] [] (.imm (.lit (.bool kids.isEmpty))) [] := by
  refine bR Try.func87 rfl rfl (nb rfl) rfl ?_
  repeat' (first | refine bG ?_ | (refine bJ ?_; first | refine aR tabOk rfl rfl rfl (nb rfl) rfl ?_ | refine aZ rfl rfl (nb rfl) ?_ | (refine bI rfl rfl rfl (nb rfl) rfl rfl rfl (fun hq => ?_) (fun hq => ?_) <;> (first | (simp only [sD, sE, sB, sC, sN, sM, sT, sF] at hq; try (exfalso; omega)) | skip)) | refine aD rfl rfl rfl (nb rfl) rfl rfl (by omega) ?_ | refine bC rfl rfl rfl (nb rfl) rfl rfl rfl (by omega) (by omega) ?_ | refine bD rfl rfl rfl (nb rfl) rfl rfl rfl (by omega) (by omega) ?_ | refine bB tabOk rfl rfl rfl (nb rfl) rfl rfl rfl rfl rfl rfl rfl rfl rfl ?_ | refine aT tabOk rfl rfl (nb rfl) rfl ?_ | refine aN tabOk rfl rfl rfl (nb rfl) rfl rfl rfl rfl rfl rfl ?_ | refine aO tabOk rfl rfl rfl (nb rfl) rfl rfl rfl rfl ?_ | refine aK tabOk rfl rfl rfl rfl rfl rfl rfl rfl rfl rfl rfl ?_ | refine aP tabOk rfl rfl rfl (nb rfl) rfl rfl rfl rfl (by first | assumption | omega) ?_ | refine aH tabOk rfl rfl rfl (nb rfl) rfl rfl rfl rfl (by first | rfl | omega) (by first | omega | simp) ?_ | refine aB tabOk rfl rfl rfl (nb rfl) rfl rfl rfl (by assumption) ?_ | refine aB tabOk rfl rfl rfl (nb rfl) rfl rfl rfl (bM _ _ (by first | assumption | omega)) ?_ | refine aD rfl rfl rfl (nb rfl) rfl rfl (by omega) ?_ | ((fail_if_success (refine aE (b := true) rfl rfl rfl ?_)); (fail_if_success (refine aE (b := false) rfl rfl rfl ?_)); refine aQ rfl rfl rfl (fun hq => ?_) (fun hq => ?_) <;> first | subst hq | (first | (simp only [sD, sE, sB, sC, sN, sM, sT, sF] at hq; try (exfalso; omega)) | skip)) | fail) | (refine bQ ?_; first | refine bH ?_ | refine bN ?_ | refine aL ?_ | refine aX ?_ | refine bO ?_ | refine bF ?_ | refine bE ?_ | refine aA (b := true) rfl (fun _ => ?_) nTf | refine aA (b := false) rfl nFt (fun _ => ?_) | refine aY ?_ | refine aW ?_ | refine aU mixed (by kernel_rfl) ?_ | refine aC mixed (by kernel_rfl) ?_ | (refine aA rfl (fun hq => ?_) (fun hq => ?_) <;> first | subst hq | (first | (simp only [sD, sE, sB, sC, sN, sM, sT, sF] at hq; try (exfalso; omega)) | skip)) | fail) | (refine bK ?_; first | refine bT ?_ | refine aI ?_ | refine aM ?_ | fail) | (refine bA ?_; first | refine bP ?_ | refine aF ?_ | refine aG (by decide) ?_ | refine aJ ?_ | fail) | refine bL (aV (by kernel_rfl)) ?_ | fail)
  · refine bV (by first | exact .inl rfl | exact .inr rfl) (bU rfl (aS rfl)) rfl ?_; refine cE ?_; cases kids <;> simp_all
  · refine cJ (ι := Unit) (fun _ => S.f ⟨[(33, .imm (.lit (.int .i64 0))), (32, .imm (.lit (.int .i64 0)))], []⟩) (fun _ => 0) () (cB (by repeat' first | exact trivial | refine ⟨rfl, ?_⟩) (by repeat' first | exact trivial | refine ⟨rfl, ?_⟩)) ?_
    intro _
    repeat' (first | refine bG ?_ | (refine bJ ?_; first | refine aR tabOk rfl rfl rfl (nb rfl) rfl ?_ | refine aZ rfl rfl (nb rfl) ?_ | (refine bI rfl rfl rfl (nb rfl) rfl rfl rfl (fun hq => ?_) (fun hq => ?_) <;> (first | (simp only [sD, sE, sB, sC, sN, sM, sT, sF] at hq; try (exfalso; omega)) | skip)) | refine aD rfl rfl rfl (nb rfl) rfl rfl (by omega) ?_ | refine bC rfl rfl rfl (nb rfl) rfl rfl rfl (by omega) (by omega) ?_ | refine bD rfl rfl rfl (nb rfl) rfl rfl rfl (by omega) (by omega) ?_ | refine bB tabOk rfl rfl rfl (nb rfl) rfl rfl rfl rfl rfl rfl rfl rfl rfl ?_ | refine aT tabOk rfl rfl (nb rfl) rfl ?_ | refine aN tabOk rfl rfl rfl (nb rfl) rfl rfl rfl rfl rfl rfl ?_ | refine aO tabOk rfl rfl rfl (nb rfl) rfl rfl rfl rfl ?_ | refine aK tabOk rfl rfl rfl rfl rfl rfl rfl rfl rfl rfl rfl ?_ | refine aP tabOk rfl rfl rfl (nb rfl) rfl rfl rfl rfl (by first | assumption | omega) ?_ | refine aH tabOk rfl rfl rfl (nb rfl) rfl rfl rfl rfl (by first | rfl | omega) (by first | omega | simp) ?_ | refine aB tabOk rfl rfl rfl (nb rfl) rfl rfl rfl (by assumption) ?_ | refine aB tabOk rfl rfl rfl (nb rfl) rfl rfl rfl (bM _ _ (by first | assumption | omega)) ?_ | refine aD rfl rfl rfl (nb rfl) rfl rfl (by omega) ?_ | ((fail_if_success (refine aE (b := true) rfl rfl rfl ?_)); (fail_if_success (refine aE (b := false) rfl rfl rfl ?_)); refine aQ rfl rfl rfl (fun hq => ?_) (fun hq => ?_) <;> first | subst hq | (first | (simp only [sD, sE, sB, sC, sN, sM, sT, sF] at hq; try (exfalso; omega)) | skip)) | fail) | (refine bQ ?_; first | refine bH ?_ | refine bN ?_ | refine aL ?_ | refine aX ?_ | refine bO ?_ | refine bF ?_ | refine bE ?_ | refine aA (b := true) rfl (fun _ => ?_) nTf | refine aA (b := false) rfl nFt (fun _ => ?_) | refine aY ?_ | refine aW ?_ | refine aU mixed (by kernel_rfl) ?_ | refine aC mixed (by kernel_rfl) ?_ | (refine aA rfl (fun hq => ?_) (fun hq => ?_) <;> first | subst hq | (first | (simp only [sD, sE, sB, sC, sN, sM, sT, sF] at hq; try (exfalso; omega)) | skip)) | fail) | (refine bK ?_; first | refine bT ?_ | refine aI ?_ | refine aM ?_ | fail) | (refine bA ?_; first | refine bP ?_ | refine aF ?_ | refine aG (by decide) ?_ | refine aJ ?_ | fail) | refine bL (aV (by kernel_rfl)) ?_ | fail)
    all_goals first
      | (exfalso; omega)
      | (refine bV (by first | exact .inl rfl | exact .inr rfl) (bU rfl (aS rfl)) rfl ?_; refine cE ?_; cases kids <;> simp_all)
theorem tT (f g : FuncId) (l : List Tree) : kidsP l false [(f, tconP), (g, isTermP)] = isT_ct l := by
  rcases l with _ | ⟨x, _ | ⟨y, _ | ⟨z, r⟩⟩⟩ <;> simp [kidsP, formsP, isT_ct]
theorem tU (f g : FuncId) (l : List Tree) : kidsP l false [(f, tkindP), (g, isTermP)] = isT_kt l := by
  rcases l with _ | ⟨x, _ | ⟨y, _ | ⟨z, r⟩⟩⟩ <;> simp [kidsP, formsP, isT_kt]
theorem tV (f g : FuncId) (l : List Tree) : kidsP l false [(f, isTermP), (g, isTermP)] = isT_tt l := by
  rcases l with _ | ⟨x, _ | ⟨y, _ | ⟨z, r⟩⟩⟩ <;> simp [kidsP, formsP, isT_tt]
theorem tW (f g : FuncId) (l : List Tree) : kidsP l false [(f, isTermP), (g, tconP)] = isT_tc l := by
  rcases l with _ | ⟨x, _ | ⟨y, _ | ⟨z, r⟩⟩⟩ <;> simp [kidsP, formsP, isT_tc]
theorem sJ (f g h : FuncId) (l : List Tree) : kidsP l false [(f, tconP), (g, isTermP), (h, tconP)] = isT_ctc l := by
  rcases l with _ | ⟨x, _ | ⟨y, _ | ⟨z, _ | ⟨u, r⟩⟩⟩⟩ <;> simp [kidsP, formsP, isT_ctc, Bool.and_assoc]
theorem sK (f g h : FuncId) (l : List Tree) : kidsP l false [(f, isTermP), (g, isTermP), (h, isTermP)] = isT_ttt l := by
  rcases l with _ | ⟨x, _ | ⟨y, _ | ⟨z, _ | ⟨u, r⟩⟩⟩⟩ <;> simp [kidsP, formsP, isT_ttt, Bool.and_assoc]
theorem tX (f : FuncId) (l : List Tree) : (kidsP l true [(f, isTermP)] && armsP l 1) = isT_ta l := by
  rcases l with _ | ⟨x, _ | ⟨y, r⟩⟩ <;> simp [kidsP, formsP, isT_ta, armsP, labelledP]
theorem sL (f g : FuncId) (l : List Tree) : (kidsP l true [(f, isTermP), (g, tconP)] && armsP l 2) = isT_tca l := by
  rcases l with _ | ⟨x, _ | ⟨y, _ | ⟨z, r⟩⟩⟩ <;> simp [kidsP, formsP, isT_tca, armsP, labelledP]
end Go.Proofs.Ytlbemgokilhdnaa.Ab
namespace Go.Proofs.Ytlbemgokilhdnaa.Ab
set_option linter.unusedVariables false
set_option linter.unusedSimpArgs false
attribute [local irreducible] AWP AOps AExit AThen ABlock ANoGoto FeetOk
theorem false_and {x y : Bool} (h : x = false) : false = (x && y) := by rw [h]; rfl
set_option maxHeartbeats 16000000 in
set_option maxRecDepth 10000 in
theorem qJ (t : Tree) : t.whole = true → t.size ≤ 1000000 → ACalls Try.prog 57 [.imm t.iv] [] (.imm (.lit (.bool (isTermP t)))) [] := by
  induction t using Tree.sind with
  | h t ih =>
    intro h hs
    obtain ⟨k, n, a, b, kids, rfl⟩ := cL h
    have hw : Tree.wholes kids = true := h
    have hz : Tree.sizes kids ≤ 1000000 := by simp only [Tree.size] at hs; omega
    have hl : kids.length < 1000000000 := by have := cA kids h; omega
    have ht : ∀ t', t'.size ≤ Tree.sizes kids → t'.whole = true → ACalls Try.prog 57 [.imm t'.iv] [] (.imm (.lit (.bool (isTermP t')))) [] := fun t' h1 h2 => ih t' (by simp only [Tree.size]; omega) h2 (by omega)
    have hfs : ∀ fs : List (FuncId × (Tree → Bool)), (∀ p ∈ fs, p = ((88 : FuncId), tconP) ∨ p = ((89 : FuncId), tkindP) ∨ p = ((57 : FuncId), isTermP)) →
        ∀ i (hi : i < fs.length) (hk : i < kids.length), ACalls Try.prog fs[i].1 [.imm kids[i].iv] [] (.imm (.lit (.bool (fs[i].2 kids[i])))) [] := fun fs hp i hi hk => by
      have hm := cP (List.getElem_mem hk)
      rcases hp fs[i] (List.getElem_mem hi) with e | e | e <;> rw [e]
      · exact tQ _ (by omega)
      · exact sG _ (by omega)
      · exact ht _ hm (bY h (List.getElem_mem hk))
    refine bR Try.func57 rfl rfl (nb rfl) rfl ?_
    repeat' (first | refine bG ?_ | (refine bJ ?_; first | refine aR tabOk rfl rfl rfl (nb rfl) rfl ?_ | refine aZ rfl rfl (nb rfl) ?_ | (refine bI rfl rfl rfl (nb rfl) rfl rfl rfl (fun hq => ?_) (fun hq => ?_) <;> (first | (simp only [sD, sE, sB, sC, sN, sM, sT, sF] at hq; try (exfalso; omega)) | skip))| (refine bW rfl rfl rfl (nb rfl) rfl rfl rfl (lN _) (fun hq => ?_) (fun hq => ?_)) | (refine bW rfl rfl rfl (nb rfl) rfl rfl rfl (qI _ _ _ _ _) (fun hq => ?_) (fun hq => ?_)) | (refine bW rfl rfl rfl (nb rfl) rfl rfl rfl (sI _ _ _ _ _) (fun hq => ?_) (fun hq => ?_)) | (refine bW rfl rfl rfl (nb rfl) rfl rfl rfl (iV kids 137 true hw hz (fun t' h1 h2 => ht t' (by omega) h2)) (fun hq => ?_) (fun hq => ?_)) | (refine bW rfl rfl rfl (nb rfl) rfl rfl rfl (oW _ _ _ _ kids 1 (by omega) hw hz ht) (fun hq => ?_) (fun hq => ?_)) | (refine bW rfl rfl rfl (nb rfl) rfl rfl rfl (oW _ _ _ _ kids 2 (by omega) hw hz ht) (fun hq => ?_) (fun hq => ?_)) | (refine bW rfl rfl rfl (nb rfl) rfl rfl rfl (eH _ _ _ _ _ _ [((88 : FuncId), tconP), ((57 : FuncId), isTermP)] (by decide) hl (hfs _ (by simp))) (fun hq => ?_) (fun hq => ?_)) | (refine bW rfl rfl rfl (nb rfl) rfl rfl rfl (eH _ _ _ _ _ _ [((89 : FuncId), tkindP), ((57 : FuncId), isTermP)] (by decide) hl (hfs _ (by simp))) (fun hq => ?_) (fun hq => ?_)) | (refine bW rfl rfl rfl (nb rfl) rfl rfl rfl (eH _ _ _ _ _ _ [((57 : FuncId), isTermP), ((57 : FuncId), isTermP)] (by decide) hl (hfs _ (by simp))) (fun hq => ?_) (fun hq => ?_)) | (refine bW rfl rfl rfl (nb rfl) rfl rfl rfl (eH _ _ _ _ _ _ [((57 : FuncId), isTermP)] (by decide) hl (hfs _ (by simp))) (fun hq => ?_) (fun hq => ?_)) | (refine bW rfl rfl rfl (nb rfl) rfl rfl rfl (eH _ _ _ _ _ _ [((57 : FuncId), isTermP), ((88 : FuncId), tconP)] (by decide) hl (hfs _ (by simp))) (fun hq => ?_) (fun hq => ?_)) | (refine bW rfl rfl rfl (nb rfl) rfl rfl rfl (eH _ _ _ _ _ _ [((88 : FuncId), tconP), ((57 : FuncId), isTermP), ((88 : FuncId), tconP)] (by decide) hl (hfs _ (by simp))) (fun hq => ?_) (fun hq => ?_)) | (refine bW rfl rfl rfl (nb rfl) rfl rfl rfl (eH _ _ _ _ _ _ [((57 : FuncId), isTermP), ((57 : FuncId), isTermP), ((57 : FuncId), isTermP)] (by decide) hl (hfs _ (by simp))) (fun hq => ?_) (fun hq => ?_)) | refine aD rfl rfl rfl (nb rfl) rfl rfl (by omega) ?_ | refine bC rfl rfl rfl (nb rfl) rfl rfl rfl (by omega) (by omega) ?_ | refine bD rfl rfl rfl (nb rfl) rfl rfl rfl (by omega) (by omega) ?_ | refine bB tabOk rfl rfl rfl (nb rfl) rfl rfl rfl rfl rfl rfl rfl rfl rfl ?_ | refine aT tabOk rfl rfl (nb rfl) rfl ?_ | refine aN tabOk rfl rfl rfl (nb rfl) rfl rfl rfl rfl rfl rfl ?_ | refine aO tabOk rfl rfl rfl (nb rfl) rfl rfl rfl rfl ?_ | refine aK tabOk rfl rfl rfl rfl rfl rfl rfl rfl rfl rfl rfl ?_ | refine aP tabOk rfl rfl rfl (nb rfl) rfl rfl rfl rfl (by first | assumption | omega) ?_ | refine aH tabOk rfl rfl rfl (nb rfl) rfl rfl rfl rfl (by first | rfl | omega) (by first | omega | simp) ?_ | refine aB tabOk rfl rfl rfl (nb rfl) rfl rfl rfl (by assumption) ?_ | refine aB tabOk rfl rfl rfl (nb rfl) rfl rfl rfl (bM _ _ (by first | assumption | omega)) ?_ | refine aD rfl rfl rfl (nb rfl) rfl rfl (by omega) ?_ | ((fail_if_success (refine aE (b := true) rfl rfl rfl ?_)); (fail_if_success (refine aE (b := false) rfl rfl rfl ?_)); refine aQ rfl rfl rfl (fun hq => ?_) (fun hq => ?_) <;> first | subst hq | (first | (simp only [sD, sE, sB, sC, sN, sM, sT, sF] at hq; try (exfalso; omega)) | skip)) | fail) | (refine bQ ?_; first | refine bH ?_ | refine bN ?_ | refine aL ?_ | refine aX ?_ | refine bO ?_ | refine bF ?_ | refine bE ?_ | refine aA (b := true) rfl (fun _ => ?_) nTf | refine aA (b := false) rfl nFt (fun _ => ?_) | refine aY ?_ | refine aW ?_ | refine aU mixed (by kernel_rfl) ?_ | refine aC mixed (by kernel_rfl) ?_ | (refine aA rfl (fun hq => ?_) (fun hq => ?_) <;> first | subst hq | (first | (simp only [sD, sE, sB, sC, sN, sM, sT, sF] at hq; try (exfalso; omega)) | skip)) | fail) | (refine bK ?_; first | refine bT ?_ | refine aI ?_ | refine aM ?_ | fail) | (refine bA ?_; first | refine bP ?_ | refine aF ?_ | refine aG (by decide) ?_ | refine aJ ?_ | fail) | refine bL (aV (by kernel_rfl)) ?_ | fail)
    all_goals
      refine bV (by first | exact .inl rfl | exact .inr rfl) (bU rfl (aS rfl)) rfl ?_
      refine cE ?_
      clear hfs ht ih
      have e1 := (tX 57 kids).symm
      have e2 := (sL 57 88 kids).symm
      have e3 : (fieldsP kids 137 && distinctP kids && steadyP kids) = labelledP kids 137 true := by simp [labelledP]
      try simp only [tT, tU, tV, nU, tW, sJ, sK] at *
      first | (have hk : k = 130 := (by assumption); subst hk) | (have hk : k = 131 := (by assumption); subst hk) | (have hk : k = 132 := (by assumption); subst hk) | (have hk : k = 133 := (by assumption); subst hk) | (have hk : k = 134 := (by assumption); subst hk) | (have hk : k = 135 := (by assumption); subst hk) | (have hk : k = 136 := (by assumption); subst hk) | (have hk : k = 138 := (by assumption); subst hk) | (have hk : k = 139 := (by assumption); subst hk) | (have hk : k = 140 := (by assumption); subst hk) | (have hk : k = 141 := (by assumption); subst hk) | (have hk : k = 142 := (by assumption); subst hk) | (have hk : k = 143 := (by assumption); subst hk) | (have hk : k = 144 := (by assumption); subst hk) | (have hk : k = 145 := (by assumption); subst hk) | (have hk : k = 146 := (by assumption); subst hk) | (have hk : k = 147 := (by assumption); subst hk) | (have hk : k = 148 := (by assumption); subst hk) | skip
      rw [isTermP]
      first | (have h3 : eqB a emptyB = true := beq_iff_eq.2 (by assumption); have h4 : eqB b emptyB = true := beq_iff_eq.2 (by assumption); simp [headP, namedK, h3, h4, *]; done) | (have h3 : eqB a emptyB = false := beq_eq_false_iff_ne.2 (by assumption); have h4 : eqB b emptyB = true := beq_iff_eq.2 (by assumption); simp [headP, namedK, h3, h4, *]; done) | (simp [headP, namedK, eqB, emptyB, *]; done) | (refine false_and ?_; have h1 : (k == 138) = false := beq_eq_false_iff_ne.2 (by assumption); have h2 : (k == 146) = false := beq_eq_false_iff_ne.2 (by assumption); have h3 : eqB a emptyB = false := beq_eq_false_iff_ne.2 (by assumption); simp [headP, namedK, h1, h2, h3]; done) | (refine false_and ?_; have h1 : (k == 138) = false := beq_eq_false_iff_ne.2 (by assumption); have h2 : (k == 146) = false := beq_eq_false_iff_ne.2 (by assumption); clear e1 e2 e3; simp_all [headP, namedK, eqB, emptyB]; done) | (refine false_and ?_; clear e1 e2 e3; simp_all [headP, namedK, eqB, emptyB]; done) | skip
def tcheckP (t : Tree) : Int := checkP isTermP t
set_option maxHeartbeats 4000000 in
set_option maxRecDepth 10000 in
theorem qK (t : Tree) (hs : t.size ≤ 1000000) : ACalls Try.prog 27 [.imm t.iv] [] (.imm (.lit (.int .i64 (tcheckP t)))) [] := by
  refine bR Try.func27 rfl rfl (nb rfl) rfl ?_
  repeat' (first | refine bG ?_ | (refine bJ ?_; first | refine aR tabOk rfl rfl rfl (nb rfl) rfl ?_ | refine aZ rfl rfl (nb rfl) ?_ | (refine bI rfl rfl rfl (nb rfl) rfl rfl rfl (fun hq => ?_) (fun hq => ?_) <;> (first | (simp only [sD, sE, sB, sC, sN, sM, sT, sF] at hq; try (exfalso; omega)) | skip))| refine cN 1000 tabOk rfl rfl rfl (nb rfl) rfl rfl rfl rfl rfl rfl ?_ | refine cC rfl rfl (nb rfl) rfl rfl rfl rfl (qG t 65536 hs (by omega) (by omega)) (by exact ⟨rfl, trivial⟩) rfl (by simp) ?_ | (refine bW rfl rfl rfl (nb rfl) rfl rfl rfl (qJ t (eO t _ (by assumption)) hs) (fun hq => ?_) (fun hq => ?_)) | refine aD rfl rfl rfl (nb rfl) rfl rfl (by omega) ?_ | refine bC rfl rfl rfl (nb rfl) rfl rfl rfl (by omega) (by omega) ?_ | refine bD rfl rfl rfl (nb rfl) rfl rfl rfl (by omega) (by omega) ?_ | refine bB tabOk rfl rfl rfl (nb rfl) rfl rfl rfl rfl rfl rfl rfl rfl rfl ?_ | refine aT tabOk rfl rfl (nb rfl) rfl ?_ | refine aN tabOk rfl rfl rfl (nb rfl) rfl rfl rfl rfl rfl rfl ?_ | refine aO tabOk rfl rfl rfl (nb rfl) rfl rfl rfl rfl ?_ | refine aK tabOk rfl rfl rfl rfl rfl rfl rfl rfl rfl rfl rfl ?_ | refine aP tabOk rfl rfl rfl (nb rfl) rfl rfl rfl rfl (by first | assumption | omega) ?_ | refine aH tabOk rfl rfl rfl (nb rfl) rfl rfl rfl rfl (by first | rfl | omega) (by first | omega | simp) ?_ | refine aB tabOk rfl rfl rfl (nb rfl) rfl rfl rfl (by assumption) ?_ | refine aB tabOk rfl rfl rfl (nb rfl) rfl rfl rfl (bM _ _ (by first | assumption | omega)) ?_ | refine aD rfl rfl rfl (nb rfl) rfl rfl (by omega) ?_ | ((fail_if_success (refine aE (b := true) rfl rfl rfl ?_)); (fail_if_success (refine aE (b := false) rfl rfl rfl ?_)); refine aQ rfl rfl rfl (fun hq => ?_) (fun hq => ?_) <;> first | subst hq | (first | (simp only [sD, sE, sB, sC, sN, sM, sT, sF] at hq; try (exfalso; omega)) | skip)) | fail) | (refine bQ ?_; first | refine bH ?_ | refine bN ?_ | refine aL ?_ | refine aX ?_ | refine bO ?_ | refine bF ?_ | refine bE ?_ | refine aA (b := true) rfl (fun _ => ?_) nTf | refine aA (b := false) rfl nFt (fun _ => ?_) | refine aY ?_ | refine aW ?_ | refine aU mixed (by kernel_rfl) ?_ | refine aC mixed (by kernel_rfl) ?_ | (refine aA rfl (fun hq => ?_) (fun hq => ?_) <;> first | subst hq | (first | (simp only [sD, sE, sB, sC, sN, sM, sT, sF] at hq; try (exfalso; omega)) | skip)) | fail) | (refine bK ?_; first | refine bT ?_ | refine aI ?_ | refine aM ?_ | fail) | (refine bA ?_; first | refine bP ?_ | refine aF ?_ | refine aG (by decide) ?_ | refine aJ ?_ | fail) | refine bL (aV (by kernel_rfl)) ?_ | fail)
  all_goals (refine bV (by first | exact .inl rfl | exact .inr rfl) (bU rfl (aS rfl)) rfl ?_; refine fE ?_; simp_all [tcheckP, checkP])
end Go.Proofs.Ytlbemgokilhdnaa.Ab
namespace Go.Proofs.Ytlbemgokilhdnaa.Ab
set_option linter.unusedVariables false
set_option linter.unusedSimpArgs false
attribute [local irreducible] AWP AOps AExit AThen ABlock ANoGoto FeetOk
def zipP (R : Tree → Tree → Bool) : List Tree → List Tree → Bool
  | [], [] => true
  | x :: xs, y :: ys => R x y && zipP R xs ys
  | _, _ => false
theorem lP (R : Tree → Tree → Bool) : ∀ (l l' : List Tree), l.length ≠ l'.length → zipP R l l' = false
  | [], [], h => absurd rfl h
  | x :: xs, y :: ys, h => by rw [zipP, lP R xs ys (by simpa using h), Bool.and_false]
  | [], _ :: _, _ => rfl
  | _ :: _, [], _ => rfl
theorem iW (R : Tree → Tree → Bool) : ∀ (l l' : List Tree), l.length = l'.length → (zipP R l l' = true ↔ ∀ i (hi : i < l.length) (hk : i < l'.length), R l[i] l'[i] = true)
  | [], [], _ => by simp [zipP]
  | [], _ :: _, h => by simp at h
  | _ :: _, [], h => by simp at h
  | x :: xs, y :: ys, h => by
    rw [zipP, Bool.and_eq_true, iW R xs ys (by simpa using h)]
    constructor
    · rintro ⟨h1, h2⟩ i hi hk
      cases i with
      | zero => exact h1
      | succ i => exact h2 i (by simpa using hi) (by simpa using hk)
    · intro h
      exact ⟨h 0 (by simp) (by simp), fun i hi hk => h (i + 1) (by simpa using hi) (by simpa using hk)⟩
set_option maxHeartbeats 4000000 in
set_option maxRecDepth 10000 in
theorem mG (l l' : List Tree) (f : FuncId) (R : Tree → Tree → Bool) (hl : l.length < 1000000000) (hl' : l'.length < 1000000000)
    (hf : ∀ i (hi : i < l.length) (hk : i < l'.length), ACalls Try.prog f [.imm l[i].iv, .imm l'[i].iv] [] (.imm (.lit (.bool (R l[i] l'[i])))) []) :
    ACalls Try.prog 63 [.imm (.sl false l.length (Tree.ivs l)), .imm (.sl false l'.length (Tree.ivs l')), .imm (.func f [] [])] [] (.imm (.lit (.bool (zipP R l l')))) [] := by
  refine bR Try.func63 rfl rfl (nb rfl) rfl ?_
  repeat' (first | refine bG ?_ | (refine bJ ?_; first | refine aR tabOk rfl rfl rfl (nb rfl) rfl ?_ | refine aZ rfl rfl (nb rfl) ?_ | (refine bI rfl rfl rfl (nb rfl) rfl rfl rfl (fun hq => ?_) (fun hq => ?_) <;> (first | (simp only [sD, sE, sB, sC, sN, sM, sT, sF] at hq; try (exfalso; omega)) | skip)) | refine aD rfl rfl rfl (nb rfl) rfl rfl (by omega) ?_ | refine bC rfl rfl rfl (nb rfl) rfl rfl rfl (by omega) (by omega) ?_ | refine bD rfl rfl rfl (nb rfl) rfl rfl rfl (by omega) (by omega) ?_ | refine bB tabOk rfl rfl rfl (nb rfl) rfl rfl rfl rfl rfl rfl rfl rfl rfl ?_ | refine aT tabOk rfl rfl (nb rfl) rfl ?_ | refine aN tabOk rfl rfl rfl (nb rfl) rfl rfl rfl rfl rfl rfl ?_ | refine aO tabOk rfl rfl rfl (nb rfl) rfl rfl rfl rfl ?_ | refine aK tabOk rfl rfl rfl rfl rfl rfl rfl rfl rfl rfl rfl ?_ | refine aP tabOk rfl rfl rfl (nb rfl) rfl rfl rfl rfl (by first | assumption | omega) ?_ | refine aH tabOk rfl rfl rfl (nb rfl) rfl rfl rfl rfl (by first | rfl | omega) (by first | omega | simp) ?_ | refine aB tabOk rfl rfl rfl (nb rfl) rfl rfl rfl (by assumption) ?_ | refine aB tabOk rfl rfl rfl (nb rfl) rfl rfl rfl (bM _ _ (by first | assumption | omega)) ?_ | refine aD rfl rfl rfl (nb rfl) rfl rfl (by omega) ?_ | ((fail_if_success (refine aE (b := true) rfl rfl rfl ?_)); (fail_if_success (refine aE (b := false) rfl rfl rfl ?_)); refine aQ rfl rfl rfl (fun hq => ?_) (fun hq => ?_) <;> first | subst hq | (first | (simp only [sD, sE, sB, sC, sN, sM, sT, sF] at hq; try (exfalso; omega)) | skip)) | fail) | (refine bQ ?_; first | refine bH ?_ | refine bN ?_ | refine aL ?_ | refine aX ?_ | refine bO ?_ | refine bF ?_ | refine bE ?_ | refine aA (b := true) rfl (fun _ => ?_) nTf | refine aA (b := false) rfl nFt (fun _ => ?_) | refine aY ?_ | refine aW ?_ | refine aU mixed (by kernel_rfl) ?_ | refine aC mixed (by kernel_rfl) ?_ | (refine aA rfl (fun hq => ?_) (fun hq => ?_) <;> first | subst hq | (first | (simp only [sD, sE, sB, sC, sN, sM, sT, sF] at hq; try (exfalso; omega)) | skip)) | fail) | (refine bK ?_; first | refine bT ?_ | refine aI ?_ | refine aM ?_ | fail) | (refine bA ?_; first | refine bP ?_ | refine aF ?_ | refine aG (by decide) ?_ | refine aJ ?_ | fail) | refine bL (aV (by kernel_rfl)) ?_ | fail)
  · refine bV (by first | exact .inl rfl | exact .inr rfl) (bU rfl (aS rfl)) rfl ?_; exact cE (lP R l l' (by omega)).symm
  · have hle : l.length = l'.length := by omega
    refine cJ (ι := {j : Nat // j ≤ l.length ∧ ∀ i (hi : i < l.length) (hk : i < l'.length), i < j → R l[i] l'[i] = true}) (fun j => S.f ⟨[(17, .imm (.lit (.int .i64 (j.1 : Int)))), (16, .imm (.lit (.int .i64 (l.length : Int)))), (15, .imm (.sl false l.length (Tree.ivs l))), (1, .imm (.sl false l'.length (Tree.ivs l'))), (2, .imm (.func f [] []))], []⟩) (fun j => l.length - j.1) ⟨0, Nat.zero_le _, fun i _ _ hi => absurd hi (Nat.not_lt_zero _)⟩ (cB (by repeat' first | exact trivial | refine ⟨rfl, ?_⟩) (by repeat' first | exact trivial | refine ⟨rfl, ?_⟩)) ?_
    rintro ⟨j, hj, hok⟩
    dsimp only
    by_cases hlt : j < l.length
    · have hltk : j < l'.length := by omega
      repeat' (first | refine bG ?_ | (refine bJ ?_; first | refine aR tabOk rfl rfl rfl (nb rfl) rfl ?_ | refine aZ rfl rfl (nb rfl) ?_ | (refine bI rfl rfl rfl (nb rfl) rfl rfl rfl (fun hq => ?_) (fun hq => ?_) <;> (first | (simp only [sD, sE, sB, sC, sN, sM, sT, sF] at hq; try (exfalso; omega)) | skip))| (refine bW rfl rfl rfl (nb rfl) rfl rfl rfl (hf j hlt hltk) (fun hq => ?_) (fun hq => ?_)) | refine aD rfl rfl rfl (nb rfl) rfl rfl (by omega) ?_ | refine bC rfl rfl rfl (nb rfl) rfl rfl rfl (by omega) (by omega) ?_ | refine bD rfl rfl rfl (nb rfl) rfl rfl rfl (by omega) (by omega) ?_ | refine bB tabOk rfl rfl rfl (nb rfl) rfl rfl rfl rfl rfl rfl rfl rfl rfl ?_ | refine aT tabOk rfl rfl (nb rfl) rfl ?_ | refine aN tabOk rfl rfl rfl (nb rfl) rfl rfl rfl rfl rfl rfl ?_ | refine aO tabOk rfl rfl rfl (nb rfl) rfl rfl rfl rfl ?_ | refine aK tabOk rfl rfl rfl rfl rfl rfl rfl rfl rfl rfl rfl ?_ | refine aP tabOk rfl rfl rfl (nb rfl) rfl rfl rfl rfl (by first | assumption | omega) ?_ | refine aH tabOk rfl rfl rfl (nb rfl) rfl rfl rfl rfl (by first | rfl | omega) (by first | omega | simp) ?_ | refine aB tabOk rfl rfl rfl (nb rfl) rfl rfl rfl (by assumption) ?_ | refine aB tabOk rfl rfl rfl (nb rfl) rfl rfl rfl (bM _ _ (by first | assumption | omega)) ?_ | refine aD rfl rfl rfl (nb rfl) rfl rfl (by omega) ?_ | ((fail_if_success (refine aE (b := true) rfl rfl rfl ?_)); (fail_if_success (refine aE (b := false) rfl rfl rfl ?_)); refine aQ rfl rfl rfl (fun hq => ?_) (fun hq => ?_) <;> first | subst hq | (first | (simp only [sD, sE, sB, sC, sN, sM, sT, sF] at hq; try (exfalso; omega)) | skip)) | fail) | (refine bQ ?_; first | refine bH ?_ | refine bN ?_ | refine aL ?_ | refine aX ?_ | refine bO ?_ | refine bF ?_ | refine bE ?_ | refine aA (b := true) rfl (fun _ => ?_) nTf | refine aA (b := false) rfl nFt (fun _ => ?_) | refine aY ?_ | refine aW ?_ | refine aU mixed (by kernel_rfl) ?_ | refine aC mixed (by kernel_rfl) ?_ | (refine aA rfl (fun hq => ?_) (fun hq => ?_) <;> first | subst hq | (first | (simp only [sD, sE, sB, sC, sN, sM, sT, sF] at hq; try (exfalso; omega)) | skip)) | fail) | (refine bK ?_; first | refine bT ?_ | refine aI ?_ | refine aM ?_ | fail) | (refine bA ?_; first | refine bP ?_ | refine aF ?_ | refine aG (by decide) ?_ | refine aJ ?_ | fail) | refine bL (aV (by kernel_rfl)) ?_ | fail)
      all_goals first
        | (have hq : R l[j] l'[j] = false := by assumption
           refine bV (by first | exact .inl rfl | exact .inr rfl) (bU rfl (aS rfl)) rfl ?_; refine cE ?_; symm; rw [Bool.eq_false_iff]; intro hc
           have := (iW R l l' hle).1 hc j hlt hltk
           rw [hq] at this; cases this; done)
        | (have hq : R l[j] l'[j] = true := by assumption
           exact ⟨⟨j + 1, hlt, fun i hi hk hij => by
             by_cases e : i = j
             · subst e; exact hq
             · exact hok i hi hk (by omega)⟩, (by show l.length - (j + 1) < l.length - j; omega), (cB (by repeat' first | exact trivial | refine ⟨rfl, ?_⟩) (by repeat' first | exact trivial | refine ⟨rfl, ?_⟩))⟩)
    · repeat' (first | refine bG ?_ | (refine bJ ?_; first | refine aR tabOk rfl rfl rfl (nb rfl) rfl ?_ | refine aZ rfl rfl (nb rfl) ?_ | (refine bI rfl rfl rfl (nb rfl) rfl rfl rfl (fun hq => ?_) (fun hq => ?_) <;> (first | (simp only [sD, sE, sB, sC, sN, sM, sT, sF] at hq; try (exfalso; omega)) | skip)) | refine aD rfl rfl rfl (nb rfl) rfl rfl (by omega) ?_ | refine bC rfl rfl rfl (nb rfl) rfl rfl rfl (by omega) (by omega) ?_ | refine bD rfl rfl rfl (nb rfl) rfl rfl rfl (by omega) (by omega) ?_ | refine bB tabOk rfl rfl rfl (nb rfl) rfl rfl rfl rfl rfl rfl rfl rfl rfl ?_ | refine aT tabOk rfl rfl (nb rfl) rfl ?_ | refine aN tabOk rfl rfl rfl (nb rfl) rfl rfl rfl rfl rfl rfl ?_ | refine aO tabOk rfl rfl rfl (nb rfl) rfl rfl rfl rfl ?_ | refine aK tabOk rfl rfl rfl rfl rfl rfl rfl rfl rfl rfl rfl ?_ | refine aP tabOk rfl rfl rfl (nb rfl) rfl rfl rfl rfl (by first | assumption | omega) ?_ | refine aH tabOk rfl rfl rfl (nb rfl) rfl rfl rfl rfl (by first | rfl | omega) (by first | omega | simp) ?_ | refine aB tabOk rfl rfl rfl (nb rfl) rfl rfl rfl (by assumption) ?_ | refine aB tabOk rfl rfl rfl (nb rfl) rfl rfl rfl (bM _ _ (by first | assumption | omega)) ?_ | refine aD rfl rfl rfl (nb rfl) rfl rfl (by omega) ?_ | ((fail_if_success (refine aE (b := true) rfl rfl rfl ?_)); (fail_if_success (refine aE (b := false) rfl rfl rfl ?_)); refine aQ rfl rfl rfl (fun hq => ?_) (fun hq => ?_) <;> first | subst hq | (first | (simp only [sD, sE, sB, sC, sN, sM, sT, sF] at hq; try (exfalso; omega)) | skip)) | fail) | (refine bQ ?_; first | refine bH ?_ | refine bN ?_ | refine aL ?_ | refine aX ?_ | refine bO ?_ | refine bF ?_ | refine bE ?_ | refine aA (b := true) rfl (fun _ => ?_) nTf | refine aA (b := false) rfl nFt (fun _ => ?_) | refine aY ?_ | refine aW ?_ | refine aU mixed (by kernel_rfl) ?_ | refine aC mixed (by kernel_rfl) ?_ | (refine aA rfl (fun hq => ?_) (fun hq => ?_) <;> first | subst hq | (first | (simp only [sD, sE, sB, sC, sN, sM, sT, sF] at hq; try (exfalso; omega)) | skip)) | fail) | (refine bK ?_; first | refine bT ?_ | refine aI ?_ | refine aM ?_ | fail) | (refine bA ?_; first | refine bP ?_ | refine aF ?_ | refine aG (by decide) ?_ | refine aJ ?_ | fail) | refine bL (aV (by kernel_rfl)) ?_ | fail)
      all_goals (refine bV (by first | exact .inl rfl | exact .inr rfl) (bU rfl (aS rfl)) rfl ?_; refine cE ?_; symm; rw [iW R l l' hle]; exact fun i hi hk => hok i hi hk (by omega))
end Go.Proofs.Ytlbemgokilhdnaa.Ab
namespace Go.Proofs.Ytlbemgokilhdnaa.Ab
set_option linter.unusedVariables false
set_option linter.unusedSimpArgs false
attribute [local irreducible] AWP AOps AExit AThen ABlock ANoGoto FeetOk
mutual
def sameP : Tree → Tree → Bool
  | .nil, .nil => true
  | .node k n a b ks, .node k' n' a' b' ks' => (((k == k' && n == n') && eqB a a') && eqB b b') && samePs ks ks'
  | _, _ => false
def samePs : List Tree → List Tree → Bool
  | [], [] => true
  | x :: xs, y :: ys => sameP x y && samePs xs ys
  | _, _ => false
end
theorem gA : ∀ l l' : List Tree, samePs l l' = zipP sameP l l'
  | [], [] => by simp [samePs, zipP]
  | t :: ts, u :: us => by simp [samePs, zipP, gA ts us]
  | [], _ :: _ => by simp [samePs, zipP]
  | _ :: _, [] => by simp [samePs, zipP]
theorem jM (t : Tree) : ∀ u, sameP t u = true ↔ t = u := by
  induction t using Tree.ind with
  | h1 => intro u; cases u <;> simp [sameP]
  | h2 k n a b ks ih =>
    intro u
    cases u with
    | nil => simp [sameP]
    | node k' n' a' b' ks' =>
      have key : ∀ (l l' : List Tree), (∀ t ∈ l, t ∈ ks) → (samePs l l' = true ↔ l = l') := by
        intro l
        induction l with
        | nil => intro l' _; cases l' <;> simp [samePs]
        | cons x xs ihl =>
          intro l' hm
          cases l' with
          | nil => simp [samePs]
          | cons y ys =>
            rw [samePs, Bool.and_eq_true, ih x (hm x (by simp)) y, ihl ys (fun t ht => hm t (by simp [ht]))]
            simp
      simp only [sameP, Bool.and_eq_true, beq_iff_eq, cU, key ks ks' (fun _ h => h), Tree.node.injEq]
      constructor
      · rintro ⟨⟨⟨⟨h1, h2⟩, h3⟩, h4⟩, h5⟩; exact ⟨h1, h2, h3, h4, h5⟩
      · rintro ⟨h1, h2, h3, h4, h5⟩; exact ⟨⟨⟨⟨h1, h2⟩, h3⟩, h4⟩, h5⟩
set_option maxHeartbeats 8000000 in
set_option maxRecDepth 10000 in
theorem wB (t : Tree) : ∀ u : Tree, (t = .nil ∨ t.whole = true) → (u = .nil ∨ u.whole = true) → t.size ≤ 1000000 → u.size ≤ 1000000 → ACalls Try.prog 67 [.imm t.iv, .imm u.iv] [] (.imm (.lit (.bool (sameP t u)))) [] := by
  induction t using Tree.ind with
  | h1 =>
    intro u _ _ _ _
    cases u with
    | nil =>
      rw [show sameP .nil .nil = true by simp [sameP]]
      refine bR Try.func67 rfl rfl (nb rfl) rfl ?_
      repeat' (first | refine bG ?_ | (refine bJ ?_; first | refine aR tabOk rfl rfl rfl (nb rfl) rfl ?_ | refine aZ rfl rfl (nb rfl) ?_ | (refine bI rfl rfl rfl (nb rfl) rfl rfl rfl (fun hq => ?_) (fun hq => ?_) <;> (first | (simp only [sD, sE, sB, sC, sN, sM, sT, sF] at hq; try (exfalso; omega)) | skip)) | refine aD rfl rfl rfl (nb rfl) rfl rfl (by omega) ?_ | refine bC rfl rfl rfl (nb rfl) rfl rfl rfl (by omega) (by omega) ?_ | refine bD rfl rfl rfl (nb rfl) rfl rfl rfl (by omega) (by omega) ?_ | refine bB tabOk rfl rfl rfl (nb rfl) rfl rfl rfl rfl rfl rfl rfl rfl rfl ?_ | refine aT tabOk rfl rfl (nb rfl) rfl ?_ | refine aN tabOk rfl rfl rfl (nb rfl) rfl rfl rfl rfl rfl rfl ?_ | refine aO tabOk rfl rfl rfl (nb rfl) rfl rfl rfl rfl ?_ | refine aK tabOk rfl rfl rfl rfl rfl rfl rfl rfl rfl rfl rfl ?_ | refine aP tabOk rfl rfl rfl (nb rfl) rfl rfl rfl rfl (by first | assumption | omega) ?_ | refine aH tabOk rfl rfl rfl (nb rfl) rfl rfl rfl rfl (by first | rfl | omega) (by first | omega | simp) ?_ | refine aB tabOk rfl rfl rfl (nb rfl) rfl rfl rfl (by assumption) ?_ | refine aB tabOk rfl rfl rfl (nb rfl) rfl rfl rfl (bM _ _ (by first | assumption | omega)) ?_ | refine aD rfl rfl rfl (nb rfl) rfl rfl (by omega) ?_ | ((fail_if_success (refine aE (b := true) rfl rfl rfl ?_)); (fail_if_success (refine aE (b := false) rfl rfl rfl ?_)); refine aQ rfl rfl rfl (fun hq => ?_) (fun hq => ?_) <;> first | subst hq | (first | (simp only [sD, sE, sB, sC, sN, sM, sT, sF] at hq; try (exfalso; omega)) | skip)) | fail) | (refine bQ ?_; first | refine bH ?_ | refine bN ?_ | refine aL ?_ | refine aX ?_ | refine bO ?_ | refine bF ?_ | refine bE ?_ | refine aA (b := true) rfl (fun _ => ?_) nTf | refine aA (b := false) rfl nFt (fun _ => ?_) | refine aY ?_ | refine aW ?_ | refine aU mixed (by kernel_rfl) ?_ | refine aC mixed (by kernel_rfl) ?_ | (refine aA rfl (fun hq => ?_) (fun hq => ?_) <;> first | subst hq | (first | (simp only [sD, sE, sB, sC, sN, sM, sT, sF] at hq; try (exfalso; omega)) | skip)) | fail) | (refine bK ?_; first | refine bT ?_ | refine aI ?_ | refine aM ?_ | fail) | (refine bA ?_; first | refine bP ?_ | refine aF ?_ | refine aG (by decide) ?_ | refine aJ ?_ | fail) | refine bL (aV (by kernel_rfl)) ?_ | fail)
      all_goals first
        | exact absurd rfl (by assumption)
        | exact bZ (by first | exact .inl rfl | exact .inr rfl) (bU rfl (aS rfl)) rfl
    | node k n a b ks =>
      rw [show sameP .nil (.node k n a b ks) = false by simp [sameP]]
      refine bR Try.func67 rfl rfl (nb rfl) rfl ?_
      repeat' (first | refine bG ?_ | (refine bJ ?_; first | refine aR tabOk rfl rfl rfl (nb rfl) rfl ?_ | refine aZ rfl rfl (nb rfl) ?_ | (refine bI rfl rfl rfl (nb rfl) rfl rfl rfl (fun hq => ?_) (fun hq => ?_) <;> (first | (simp only [sD, sE, sB, sC, sN, sM, sT, sF] at hq; try (exfalso; omega)) | skip)) | refine aD rfl rfl rfl (nb rfl) rfl rfl (by omega) ?_ | refine bC rfl rfl rfl (nb rfl) rfl rfl rfl (by omega) (by omega) ?_ | refine bD rfl rfl rfl (nb rfl) rfl rfl rfl (by omega) (by omega) ?_ | refine bB tabOk rfl rfl rfl (nb rfl) rfl rfl rfl rfl rfl rfl rfl rfl rfl ?_ | refine aT tabOk rfl rfl (nb rfl) rfl ?_ | refine aN tabOk rfl rfl rfl (nb rfl) rfl rfl rfl rfl rfl rfl ?_ | refine aO tabOk rfl rfl rfl (nb rfl) rfl rfl rfl rfl ?_ | refine aK tabOk rfl rfl rfl rfl rfl rfl rfl rfl rfl rfl rfl ?_ | refine aP tabOk rfl rfl rfl (nb rfl) rfl rfl rfl rfl (by first | assumption | omega) ?_ | refine aH tabOk rfl rfl rfl (nb rfl) rfl rfl rfl rfl (by first | rfl | omega) (by first | omega | simp) ?_ | refine aB tabOk rfl rfl rfl (nb rfl) rfl rfl rfl (by assumption) ?_ | refine aB tabOk rfl rfl rfl (nb rfl) rfl rfl rfl (bM _ _ (by first | assumption | omega)) ?_ | refine aD rfl rfl rfl (nb rfl) rfl rfl (by omega) ?_ | ((fail_if_success (refine aE (b := true) rfl rfl rfl ?_)); (fail_if_success (refine aE (b := false) rfl rfl rfl ?_)); refine aQ rfl rfl rfl (fun hq => ?_) (fun hq => ?_) <;> first | subst hq | (first | (simp only [sD, sE, sB, sC, sN, sM, sT, sF] at hq; try (exfalso; omega)) | skip)) | fail) | (refine bQ ?_; first | refine bH ?_ | refine bN ?_ | refine aL ?_ | refine aX ?_ | refine bO ?_ | refine bF ?_ | refine bE ?_ | refine aA (b := true) rfl (fun _ => ?_) nTf | refine aA (b := false) rfl nFt (fun _ => ?_) | refine aY ?_ | refine aW ?_ | refine aU mixed (by kernel_rfl) ?_ | refine aC mixed (by kernel_rfl) ?_ | (refine aA rfl (fun hq => ?_) (fun hq => ?_) <;> first | subst hq | (first | (simp only [sD, sE, sB, sC, sN, sM, sT, sF] at hq; try (exfalso; omega)) | skip)) | fail) | (refine bK ?_; first | refine bT ?_ | refine aI ?_ | refine aM ?_ | fail) | (refine bA ?_; first | refine bP ?_ | refine aF ?_ | refine aG (by decide) ?_ | refine aJ ?_ | fail) | refine bL (aV (by kernel_rfl)) ?_ | fail)
      all_goals first
        | exact absurd rfl (by assumption)
        | exact bZ (by first | exact .inl rfl | exact .inr rfl) (bU rfl (aS rfl)) rfl
  | h2 k n a b ks ih =>
    intro u hw hw2 hs hs2
    cases u with
    | nil =>
      rw [show sameP (.node k n a b ks) .nil = false by simp [sameP]]
      refine bR Try.func67 rfl rfl (nb rfl) rfl ?_
      repeat' (first | refine bG ?_ | (refine bJ ?_; first | refine aR tabOk rfl rfl rfl (nb rfl) rfl ?_ | refine aZ rfl rfl (nb rfl) ?_ | (refine bI rfl rfl rfl (nb rfl) rfl rfl rfl (fun hq => ?_) (fun hq => ?_) <;> (first | (simp only [sD, sE, sB, sC, sN, sM, sT, sF] at hq; try (exfalso; omega)) | skip)) | refine aD rfl rfl rfl (nb rfl) rfl rfl (by omega) ?_ | refine bC rfl rfl rfl (nb rfl) rfl rfl rfl (by omega) (by omega) ?_ | refine bD rfl rfl rfl (nb rfl) rfl rfl rfl (by omega) (by omega) ?_ | refine bB tabOk rfl rfl rfl (nb rfl) rfl rfl rfl rfl rfl rfl rfl rfl rfl ?_ | refine aT tabOk rfl rfl (nb rfl) rfl ?_ | refine aN tabOk rfl rfl rfl (nb rfl) rfl rfl rfl rfl rfl rfl ?_ | refine aO tabOk rfl rfl rfl (nb rfl) rfl rfl rfl rfl ?_ | refine aK tabOk rfl rfl rfl rfl rfl rfl rfl rfl rfl rfl rfl ?_ | refine aP tabOk rfl rfl rfl (nb rfl) rfl rfl rfl rfl (by first | assumption | omega) ?_ | refine aH tabOk rfl rfl rfl (nb rfl) rfl rfl rfl rfl (by first | rfl | omega) (by first | omega | simp) ?_ | refine aB tabOk rfl rfl rfl (nb rfl) rfl rfl rfl (by assumption) ?_ | refine aB tabOk rfl rfl rfl (nb rfl) rfl rfl rfl (bM _ _ (by first | assumption | omega)) ?_ | refine aD rfl rfl rfl (nb rfl) rfl rfl (by omega) ?_ | ((fail_if_success (refine aE (b := true) rfl rfl rfl ?_)); (fail_if_success (refine aE (b := false) rfl rfl rfl ?_)); refine aQ rfl rfl rfl (fun hq => ?_) (fun hq => ?_) <;> first | subst hq | (first | (simp only [sD, sE, sB, sC, sN, sM, sT, sF] at hq; try (exfalso; omega)) | skip)) | fail) | (refine bQ ?_; first | refine bH ?_ | refine bN ?_ | refine aL ?_ | refine aX ?_ | refine bO ?_ | refine bF ?_ | refine bE ?_ | refine aA (b := true) rfl (fun _ => ?_) nTf | refine aA (b := false) rfl nFt (fun _ => ?_) | refine aY ?_ | refine aW ?_ | refine aU mixed (by kernel_rfl) ?_ | refine aC mixed (by kernel_rfl) ?_ | (refine aA rfl (fun hq => ?_) (fun hq => ?_) <;> first | subst hq | (first | (simp only [sD, sE, sB, sC, sN, sM, sT, sF] at hq; try (exfalso; omega)) | skip)) | fail) | (refine bK ?_; first | refine bT ?_ | refine aI ?_ | refine aM ?_ | fail) | (refine bA ?_; first | refine bP ?_ | refine aF ?_ | refine aG (by decide) ?_ | refine aJ ?_ | fail) | refine bL (aV (by kernel_rfl)) ?_ | fail)
      all_goals first
        | exact absurd rfl (by assumption)
        | exact bZ (by first | exact .inl rfl | exact .inr rfl) (bU rfl (aS rfl)) rfl
    | node k' n' a' b' ks' =>
      have hw : (Tree.node k n a b ks).whole = true := by
        rcases hw with h | h
        · cases h
        · exact h
      have hw2 : (Tree.node k' n' a' b' ks').whole = true := by
        rcases hw2 with h | h
        · cases h
        · exact h
      have hl := cA ks hw
      have hl2 := cA ks' hw2
      simp only [Tree.size] at hs hs2
      have hf : ∀ i (hi : i < ks.length) (hk : i < ks'.length), ACalls Try.prog 67 [.imm ks[i].iv, .imm ks'[i].iv] [] (.imm (.lit (.bool (sameP ks[i] ks'[i])))) [] := fun i hi hk => by
        have h1 := List.getElem_mem hi
        have h2 := List.getElem_mem hk
        have h3 := cP h1
        have h4 := cP h2
        exact ih _ h1 _ (.inr (bY hw h1)) (.inr (bY hw2 h2)) (by omega) (by omega)
      have ce := mG ks ks' 67 sameP (by omega) (by omega) hf
      clear ih hf
      have e : sameP (.node k n a b ks) (.node k' n' a' b' ks') = ((((k == k' && n == n') && eqB a a') && eqB b b') && zipP sameP ks ks') := by rw [sameP, gA]
      rw [e]
      generalize zipP sameP ks ks' = Z at *
      refine bR Try.func67 rfl rfl (nb rfl) rfl ?_
      repeat' (first | refine bG ?_ | (refine bJ ?_; first | refine aR tabOk rfl rfl rfl (nb rfl) rfl ?_ | refine aZ rfl rfl (nb rfl) ?_ | (refine bI rfl rfl rfl (nb rfl) rfl rfl rfl (fun hq => ?_) (fun hq => ?_) <;> (first | (simp only [sD, sE, sB, sC, sN, sM, sT, sF] at hq; try (exfalso; omega)) | skip))| (refine bW rfl rfl rfl (nb rfl) rfl rfl rfl (ce) (fun hq => ?_) (fun hq => ?_)) | refine aD rfl rfl rfl (nb rfl) rfl rfl (by omega) ?_ | refine bC rfl rfl rfl (nb rfl) rfl rfl rfl (by omega) (by omega) ?_ | refine bD rfl rfl rfl (nb rfl) rfl rfl rfl (by omega) (by omega) ?_ | refine bB tabOk rfl rfl rfl (nb rfl) rfl rfl rfl rfl rfl rfl rfl rfl rfl ?_ | refine aT tabOk rfl rfl (nb rfl) rfl ?_ | refine aN tabOk rfl rfl rfl (nb rfl) rfl rfl rfl rfl rfl rfl ?_ | refine aO tabOk rfl rfl rfl (nb rfl) rfl rfl rfl rfl ?_ | refine aK tabOk rfl rfl rfl rfl rfl rfl rfl rfl rfl rfl rfl ?_ | refine aP tabOk rfl rfl rfl (nb rfl) rfl rfl rfl rfl (by first | assumption | omega) ?_ | refine aH tabOk rfl rfl rfl (nb rfl) rfl rfl rfl rfl (by first | rfl | omega) (by first | omega | simp) ?_ | refine aB tabOk rfl rfl rfl (nb rfl) rfl rfl rfl (by assumption) ?_ | refine aB tabOk rfl rfl rfl (nb rfl) rfl rfl rfl (bM _ _ (by first | assumption | omega)) ?_ | refine aD rfl rfl rfl (nb rfl) rfl rfl (by omega) ?_ | ((fail_if_success (refine aE (b := true) rfl rfl rfl ?_)); (fail_if_success (refine aE (b := false) rfl rfl rfl ?_)); refine aQ rfl rfl rfl (fun hq => ?_) (fun hq => ?_) <;> first | subst hq | (first | (simp only [sD, sE, sB, sC, sN, sM, sT, sF] at hq; try (exfalso; omega)) | skip)) | fail) | (refine bQ ?_; first | refine bH ?_ | refine bN ?_ | refine aL ?_ | refine aX ?_ | refine bO ?_ | refine bF ?_ | refine bE ?_ | refine aA (b := true) rfl (fun _ => ?_) nTf | refine aA (b := false) rfl nFt (fun _ => ?_) | refine aY ?_ | refine aW ?_ | refine aU mixed (by kernel_rfl) ?_ | refine aC mixed (by kernel_rfl) ?_ | (refine aA rfl (fun hq => ?_) (fun hq => ?_) <;> first | subst hq | (first | (simp only [sD, sE, sB, sC, sN, sM, sT, sF] at hq; try (exfalso; omega)) | skip)) | fail) | (refine bK ?_; first | refine bT ?_ | refine aI ?_ | refine aM ?_ | fail) | (refine bA ?_; first | refine bP ?_ | refine aF ?_ | refine aG (by decide) ?_ | refine aJ ?_ | fail) | refine bL (aV (by kernel_rfl)) ?_ | fail)
      all_goals first
        | exact absurd rfl (by assumption)
        | (refine bV (by first | exact .inl rfl | exact .inr rfl) (bU rfl (aS rfl)) rfl ?_; refine cE ?_; simp_all [eqB])
/-- What stands at a label. -/
def isLab (label : ByteArray) (t : Tree) : Bool := decide (t.kind = 163) && eqB t.name label
def kid0 : Tree → Tree
  | .node _ _ _ _ (c :: _) => c
  | _ => .nil
def fieldP (label : ByteArray) : List Tree → Tree × Bool
  | [] => (.nil, false)
  | t :: ts => if isLab label t = true then (kid0 t, true) else fieldP label ts
theorem gO (label : ByteArray) : ∀ (l : List Tree) (j : Nat), (findP (isLab label) l j < 0 ∧ fieldP label l = (.nil, false)) ∨ ∃ i, ∃ h : i < l.length, findP (isLab label) l j = ((i + j : Nat) : Int) ∧ fieldP label l = (kid0 l[i], true) ∧ isLab label l[i] = true
  | [], j => .inl ⟨by simp [findP], rfl⟩
  | t :: ts, j => by
    rw [findP, fieldP]
    by_cases h : isLab label t = true
    · rw [if_pos h, if_pos h]
      exact .inr ⟨0, by simp, by omega, rfl, h⟩
    · rw [if_neg h, if_neg h]
      rcases gO label ts (j + 1) with h1 | ⟨i, h1, h2, h3, h4⟩
      · exact .inl h1
      · exact .inr ⟨i + 1, by simpa using h1, by rw [h2]; omega, by rw [h3]; rfl, by simpa using h4⟩
set_option maxHeartbeats 4000000 in
set_option maxRecDepth 10000 in
theorem vI (t : Tree) (label : ByteArray) (hw : t.whole = true) : ACalls Try.prog 102 [.imm t.iv, .obj 1001 0] [(1001, .cells [.imm (.lit (.string label))])] (.imm (.lit (.bool (isLab label t)))) [(1001, .cells [.imm (.lit (.string label))])] := by
  obtain ⟨k, n, a, b, kids, rfl⟩ := cL hw
  have e : isLab label (.node k n a b kids) = (decide (k = 163) && eqB a label) := rfl
  rw [e]
  refine cG [1001] Try.func102 rfl rfl (nb rfl) rfl rfl ?_
  repeat' (first | refine bG ?_ | (refine bJ ?_; first | refine aR tabOk rfl rfl rfl (nb rfl) rfl ?_ | refine aZ rfl rfl (nb rfl) ?_ | (refine bI rfl rfl rfl (nb rfl) rfl rfl rfl (fun hq => ?_) (fun hq => ?_) <;> (first | (simp only [sD, sE, sB, sC, sN, sM, sT, sF] at hq; try (exfalso; omega)) | skip)) | refine aD rfl rfl rfl (nb rfl) rfl rfl (by omega) ?_ | refine bC rfl rfl rfl (nb rfl) rfl rfl rfl (by omega) (by omega) ?_ | refine bD rfl rfl rfl (nb rfl) rfl rfl rfl (by omega) (by omega) ?_ | refine bB tabOk rfl rfl rfl (nb rfl) rfl rfl rfl rfl rfl rfl rfl rfl rfl ?_ | refine aT tabOk rfl rfl (nb rfl) rfl ?_ | refine aN tabOk rfl rfl rfl (nb rfl) rfl rfl rfl rfl rfl rfl ?_ | refine aO tabOk rfl rfl rfl (nb rfl) rfl rfl rfl rfl ?_ | refine aK tabOk rfl rfl rfl rfl rfl rfl rfl rfl rfl rfl rfl ?_ | refine aP tabOk rfl rfl rfl (nb rfl) rfl rfl rfl rfl (by first | assumption | omega) ?_ | refine aH tabOk rfl rfl rfl (nb rfl) rfl rfl rfl rfl (by first | rfl | omega) (by first | omega | simp) ?_ | refine aB tabOk rfl rfl rfl (nb rfl) rfl rfl rfl (by assumption) ?_ | refine aB tabOk rfl rfl rfl (nb rfl) rfl rfl rfl (bM _ _ (by first | assumption | omega)) ?_ | refine aD rfl rfl rfl (nb rfl) rfl rfl (by omega) ?_ | ((fail_if_success (refine aE (b := true) rfl rfl rfl ?_)); (fail_if_success (refine aE (b := false) rfl rfl rfl ?_)); refine aQ rfl rfl rfl (fun hq => ?_) (fun hq => ?_) <;> first | subst hq | (first | (simp only [sD, sE, sB, sC, sN, sM, sT, sF] at hq; try (exfalso; omega)) | skip)) | fail) | (refine bQ ?_; first | refine bH ?_ | refine bN ?_ | refine aL ?_ | refine aX ?_ | refine bO ?_ | refine bF ?_ | refine bE ?_ | refine aA (b := true) rfl (fun _ => ?_) nTf | refine aA (b := false) rfl nFt (fun _ => ?_) | refine aY ?_ | refine aW ?_ | refine aU mixed (by kernel_rfl) ?_ | refine aC mixed (by kernel_rfl) ?_ | (refine aA rfl (fun hq => ?_) (fun hq => ?_) <;> first | subst hq | (first | (simp only [sD, sE, sB, sC, sN, sM, sT, sF] at hq; try (exfalso; omega)) | skip)) | fail) | (refine bK ?_; first | refine bT ?_ | refine aI ?_ | refine aM ?_ | fail) | (refine bA ?_; first | refine bP ?_ | refine aF ?_ | refine aG (by decide) ?_ | refine aJ ?_ | fail) | refine bL (aV (by kernel_rfl)) ?_ | fail)
  all_goals (refine cK (cF (by first | exact .inl rfl | exact .inr rfl) (bU rfl (aS rfl)) rfl (by repeat' first | exact trivial | refine ⟨rfl, ?_⟩) rfl ?_); refine cE ?_; simp_all [eqB])
set_option maxHeartbeats 8000000 in
set_option maxRecDepth 10000 in
theorem rB (k n : Int) (a b : ByteArray) (kids : List Tree) (label : ByteArray) (hw : Tree.wholes kids = true) (hl : kids.length < 1000000000) (hk : ∀ t ∈ kids, t.kind = 163 → ∃ n' a' b' c, t = .node 163 n' a' b' [c]) :
    ACalls Try.prog 68 [.imm (Tree.iv (.node k n a b kids)), .imm (.lit (.string label))] [] (.imm (.tup [(fieldP label kids).1.iv, .lit (.bool (fieldP label kids).2)])) [] := by
  have ci := nT kids 102 (.lit (.string label)) (isLab label) hl (fun j h => vI _ label (bY hw (List.getElem_mem h)))
  rcases gO label kids 0 with ⟨h1, h2⟩ | ⟨i, h1, h2, h3, h4⟩
  · rw [h2]
    generalize findP (isLab label) kids 0 = Q at *
    refine bR Try.func68 rfl rfl (nb rfl) rfl ?_
    repeat' (first | refine bG ?_ | (refine bJ ?_; first | refine aR tabOk rfl rfl rfl (nb rfl) rfl ?_ | refine aZ rfl rfl (nb rfl) ?_ | (refine bI rfl rfl rfl (nb rfl) rfl rfl rfl (fun hq => ?_) (fun hq => ?_) <;> (first | (simp only [sD, sE, sB, sC, sN, sM, sT, sF] at hq; try (exfalso; omega)) | skip))| refine cM 1001 (d := 3) rfl rfl rfl (nb rfl) rfl rfl rfl rfl rfl rfl rfl ?_ | refine cC rfl rfl (nb rfl) rfl rfl rfl rfl ci (by repeat' first | exact trivial | refine ⟨rfl, ?_⟩) rfl (by show ([1001] : List Nat).Nodup; decide) ?_ | refine aD rfl rfl rfl (nb rfl) rfl rfl (by omega) ?_ | refine bC rfl rfl rfl (nb rfl) rfl rfl rfl (by omega) (by omega) ?_ | refine bD rfl rfl rfl (nb rfl) rfl rfl rfl (by omega) (by omega) ?_ | refine bB tabOk rfl rfl rfl (nb rfl) rfl rfl rfl rfl rfl rfl rfl rfl rfl ?_ | refine aT tabOk rfl rfl (nb rfl) rfl ?_ | refine aN tabOk rfl rfl rfl (nb rfl) rfl rfl rfl rfl rfl rfl ?_ | refine aO tabOk rfl rfl rfl (nb rfl) rfl rfl rfl rfl ?_ | refine aK tabOk rfl rfl rfl rfl rfl rfl rfl rfl rfl rfl rfl ?_ | refine aP tabOk rfl rfl rfl (nb rfl) rfl rfl rfl rfl (by first | assumption | omega) ?_ | refine aH tabOk rfl rfl rfl (nb rfl) rfl rfl rfl rfl (by first | rfl | omega) (by first | omega | simp) ?_ | refine aB tabOk rfl rfl rfl (nb rfl) rfl rfl rfl (by assumption) ?_ | refine aB tabOk rfl rfl rfl (nb rfl) rfl rfl rfl (bM _ _ (by first | assumption | omega)) ?_ | refine aD rfl rfl rfl (nb rfl) rfl rfl (by omega) ?_ | ((fail_if_success (refine aE (b := true) rfl rfl rfl ?_)); (fail_if_success (refine aE (b := false) rfl rfl rfl ?_)); refine aQ rfl rfl rfl (fun hq => ?_) (fun hq => ?_) <;> first | subst hq | (first | (simp only [sD, sE, sB, sC, sN, sM, sT, sF] at hq; try (exfalso; omega)) | skip)) | fail) | (refine bQ ?_; first | refine bH ?_ | refine bN ?_ | refine aL ?_ | refine aX ?_ | refine bO ?_ | refine bF ?_ | refine bE ?_ | refine aA (b := true) rfl (fun _ => ?_) nTf | refine aA (b := false) rfl nFt (fun _ => ?_) | refine aY ?_ | refine aW ?_ | refine aU mixed (by kernel_rfl) ?_ | refine aC mixed (by kernel_rfl) ?_ | (refine aA rfl (fun hq => ?_) (fun hq => ?_) <;> first | subst hq | (first | (simp only [sD, sE, sB, sC, sN, sM, sT, sF] at hq; try (exfalso; omega)) | skip)) | fail) | (refine bK ?_; first | refine bT ?_ | refine aI ?_ | refine aM ?_ | fail) | (refine bA ?_; first | refine bP ?_ | refine aF ?_ | refine aG (by decide) ?_ | refine aJ ?_ | fail) | refine bL (aV (by kernel_rfl)) ?_ | fail)
    all_goals first
      | (exfalso; omega)
      | (refine bV (by first | exact .inl rfl | exact .inr rfl) (bX rfl (aS rfl) (aS rfl)) rfl ?_; rfl)
  · rw [h3]
    rw [h2] at ci
    have hm := List.getElem_mem h1
    unfold isLab at h4
    rw [Bool.and_eq_true, decide_eq_true_eq] at h4
    obtain ⟨n', a', b', c, e⟩ := hk _ hm h4.1
    have hget := bM kids i h1
    rw [e] at hget ⊢
    dsimp only [kid0]
    clear h2 h3 h4 e hm
    rw [Nat.add_zero] at ci
    refine bR Try.func68 rfl rfl (nb rfl) rfl ?_
    repeat' (first | refine bG ?_ | (refine bJ ?_; first | refine aR tabOk rfl rfl rfl (nb rfl) rfl ?_ | refine aZ rfl rfl (nb rfl) ?_ | (refine bI rfl rfl rfl (nb rfl) rfl rfl rfl (fun hq => ?_) (fun hq => ?_) <;> (first | (simp only [sD, sE, sB, sC, sN, sM, sT, sF] at hq; try (exfalso; omega)) | skip))| refine cM 1001 (d := 3) rfl rfl rfl (nb rfl) rfl rfl rfl rfl rfl rfl rfl ?_ | refine cC rfl rfl (nb rfl) rfl rfl rfl rfl ci (by repeat' first | exact trivial | refine ⟨rfl, ?_⟩) rfl (by show ([1001] : List Nat).Nodup; decide) ?_ | refine aB tabOk rfl rfl rfl (nb rfl) rfl rfl rfl hget ?_ | refine aD rfl rfl rfl (nb rfl) rfl rfl (by omega) ?_ | refine bC rfl rfl rfl (nb rfl) rfl rfl rfl (by omega) (by omega) ?_ | refine bD rfl rfl rfl (nb rfl) rfl rfl rfl (by omega) (by omega) ?_ | refine bB tabOk rfl rfl rfl (nb rfl) rfl rfl rfl rfl rfl rfl rfl rfl rfl ?_ | refine aT tabOk rfl rfl (nb rfl) rfl ?_ | refine aN tabOk rfl rfl rfl (nb rfl) rfl rfl rfl rfl rfl rfl ?_ | refine aO tabOk rfl rfl rfl (nb rfl) rfl rfl rfl rfl ?_ | refine aK tabOk rfl rfl rfl rfl rfl rfl rfl rfl rfl rfl rfl ?_ | refine aP tabOk rfl rfl rfl (nb rfl) rfl rfl rfl rfl (by first | assumption | omega) ?_ | refine aH tabOk rfl rfl rfl (nb rfl) rfl rfl rfl rfl (by first | rfl | omega) (by first | omega | simp) ?_ | refine aB tabOk rfl rfl rfl (nb rfl) rfl rfl rfl (by assumption) ?_ | refine aB tabOk rfl rfl rfl (nb rfl) rfl rfl rfl (bM _ _ (by first | assumption | omega)) ?_ | refine aD rfl rfl rfl (nb rfl) rfl rfl (by omega) ?_ | ((fail_if_success (refine aE (b := true) rfl rfl rfl ?_)); (fail_if_success (refine aE (b := false) rfl rfl rfl ?_)); refine aQ rfl rfl rfl (fun hq => ?_) (fun hq => ?_) <;> first | subst hq | (first | (simp only [sD, sE, sB, sC, sN, sM, sT, sF] at hq; try (exfalso; omega)) | skip)) | fail) | (refine bQ ?_; first | refine bH ?_ | refine bN ?_ | refine aL ?_ | refine aX ?_ | refine bO ?_ | refine bF ?_ | refine bE ?_ | refine aA (b := true) rfl (fun _ => ?_) nTf | refine aA (b := false) rfl nFt (fun _ => ?_) | refine aY ?_ | refine aW ?_ | refine aU mixed (by kernel_rfl) ?_ | refine aC mixed (by kernel_rfl) ?_ | (refine aA rfl (fun hq => ?_) (fun hq => ?_) <;> first | subst hq | (first | (simp only [sD, sE, sB, sC, sN, sM, sT, sF] at hq; try (exfalso; omega)) | skip)) | fail) | (refine bK ?_; first | refine bT ?_ | refine aI ?_ | refine aM ?_ | fail) | (refine bA ?_; first | refine bP ?_ | refine aF ?_ | refine aG (by decide) ?_ | refine aJ ?_ | fail) | refine bL (aV (by kernel_rfl)) ?_ | fail)
    all_goals first
      | (exfalso; omega)
      | (refine bV (by first | exact .inl rfl | exact .inr rfl) (bX rfl (aS rfl) (aS rfl)) rfl ?_; rfl)
end Go.Proofs.Ytlbemgokilhdnaa.Ab
