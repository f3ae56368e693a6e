/- Words, walks and laws under the claim's statement: what it uses of them. No condition of its own. -/
import Derived.Test.YtlbemgokilhdnaaYL0
import Derived.Test.YtlbemgokilhdnaaYAb1
import Derived.Test.YtlbemgokilhdnaaYP0
import Derived.Laws.BytesArg
import Derived.Test.YtlbemgokilhdnaaYS0
import Derived.Test.YtlbemgokilhdnaaYAb0
namespace Go.Proofs.Ytlbemgokilhdnaa.Ab
set_option linter.unusedVariables false
set_option linter.unusedSimpArgs false
attribute [local irreducible] AWP AOps AExit AThen ABlock ANoGoto FeetOk
/-- What Subst makes of a variable; how much was put in, and the error so far. -/
def substV (i own : Int) (by_ : Tree) (n d : Int) (s : Int × Int) : Tree × (Int × Int) :=
  if s.2 ≠ 0 ∨ n < d ∨ n - d < i then (varT n, s)
  else if n - d > i then (varT (n - 1), s)
  else if s.1 + own > 65536 ∨ (shiftP by_ d 0).2 ≠ 0 then (varT n, (s.1 + own, 3))
  else ((shiftP by_ d 0).1, (s.1 + own, s.2))
set_option maxHeartbeats 16000000 in
set_option maxRecDepth 10000 in
theorem xS (i own : Int) (by_ : Tree) (pb : List IV) (hpb : by_.iv = .ptr pb 0) (hbs : by_.size ≤ 1000000) (n d : Int) (sz e : Int) (hi : 0 ≤ i) (ho0 : 0 ≤ own) (ho : own ≤ 65536) (hs0 : 0 ≤ sz) (hs : sz ≤ 131072) (hn0 : 0 ≤ n) (hn : n ≤ 65536) (hd0 : 0 ≤ d) (hd : d ≤ 1000000) :
    ACalls Try.prog 133 [.imm (varT n).iv, .imm (.lit (.int .i64 d)), .obj 1000 0, .obj 1001 0, .obj 1002 0, .obj 1003 0, .obj 1004 0] [(1000, .cells [.imm (.lit (.int .i64 e))]), (1001, .cells [.imm (.lit (.int .i64 i))]), (1002, .cells [.imm (.lit (.int .i64 sz))]), (1003, .cells [.imm (.lit (.int .i64 own))]), (1004, .cells [.imm (.ptr pb 0)])]
      (.imm (substV i own by_ n d (sz, e)).1.iv) [(1000, .cells [.imm (.lit (.int .i64 (substV i own by_ n d (sz, e)).2.2))]), (1001, .cells [.imm (.lit (.int .i64 i))]), (1002, .cells [.imm (.lit (.int .i64 (substV i own by_ n d (sz, e)).2.1))]), (1003, .cells [.imm (.lit (.int .i64 own))]), (1004, .cells [.imm (.ptr pb 0)])] := by
  by_cases h1 : e ≠ 0 ∨ n < d ∨ n - d < i
  · have er : substV i own by_ n d (sz, e) = (varT n, (sz, e)) := if_pos h1
    rw [er]
    unfold varT
    refine cJ [1000, 1001, 1002, 1003, 1004] Try.func133 rfl rfl (nb rfl) rfl rfl ?_
    repeat' (first | refine bM ?_ | (refine bP ?_; first | refine aX tabOk rfl rfl rfl (nb rfl) rfl ?_ | refine bF rfl rfl (nb rfl) ?_ | (refine bO rfl rfl rfl (nb rfl) rfl rfl rfl (fun hq => ?_) (fun hq => ?_) <;> (first | (simp only [sD, sE, sB, sC, sN, sM, sT, sF] at hq; try (exfalso; omega)) | skip)) | refine aE rfl rfl rfl (nb rfl) rfl rfl (by omega) ?_ | refine bI rfl rfl rfl (nb rfl) rfl rfl rfl (by omega) (by omega) ?_ | refine bJ rfl rfl rfl (nb rfl) rfl rfl rfl (by omega) (by omega) ?_ | refine bH tabOk rfl rfl rfl (nb rfl) rfl rfl rfl rfl rfl rfl rfl rfl rfl ?_ | refine aZ tabOk rfl rfl (nb rfl) rfl ?_ | refine aU tabOk rfl rfl rfl (nb rfl) rfl rfl rfl rfl rfl rfl ?_ | refine aV tabOk rfl rfl rfl (nb rfl) rfl rfl rfl rfl ?_ | refine aN tabOk rfl rfl rfl rfl rfl rfl rfl rfl rfl rfl rfl ?_ | refine aR tabOk rfl rfl rfl (nb rfl) rfl rfl rfl rfl (by first | assumption | omega) ?_ | refine aJ tabOk rfl rfl rfl (nb rfl) rfl rfl rfl rfl (by first | rfl | omega) (by first | omega | simp) ?_ | refine aC tabOk rfl rfl rfl (nb rfl) rfl rfl rfl (by assumption) ?_ | refine aC tabOk rfl rfl rfl (nb rfl) rfl rfl rfl (bS _ _ (by first | assumption | omega)) ?_ | refine aE rfl rfl rfl (nb rfl) rfl rfl (by omega) ?_ | ((fail_if_success (refine aG (b := true) rfl rfl rfl ?_)); (fail_if_success (refine aG (b := false) rfl rfl rfl ?_)); refine aW rfl rfl rfl (fun hq => ?_) (fun hq => ?_) <;> first | subst hq | (first | (simp only [sD, sE, sB, sC, sN, sM, sT, sF] at hq; try (exfalso; omega)) | skip)) | fail) | (refine bW ?_; first | refine bN ?_ | refine bT ?_ | refine aQ ?_ | refine bD ?_ | refine bU ?_ | refine bL ?_ | refine bK ?_ | refine aA (b := true) rfl (fun _ => ?_) nTf | refine aA (b := false) rfl nFt (fun _ => ?_) | refine bE ?_ | refine bC ?_ | refine bA mixed (by kernel_rfl) ?_ | refine aD mixed (by kernel_rfl) ?_ | (refine aA rfl (fun hq => ?_) (fun hq => ?_) <;> first | subst hq | (first | (simp only [sD, sE, sB, sC, sN, sM, sT, sF] at hq; try (exfalso; omega)) | skip)) | fail) | (refine bQ ?_; first | refine bZ ?_ | refine aK ?_ | refine aT ?_ | fail) | (refine bG ?_; first | refine bV ?_ | refine aH ?_ | refine aI (by decide) ?_ | refine aM ?_ | fail) | refine bR (bB (by kernel_rfl)) ?_ | fail)
    all_goals first
      | exact absurd rfl (by assumption)
      | (exfalso; omega)
      | (refine cO (cM (by first | exact .inl rfl | exact .inr rfl) (cB rfl (aY rfl)) rfl (by repeat' first | exact trivial | refine ⟨rfl, ?_⟩) rfl ?_); rfl)
  · have he : e = 0 := by omega
    subst he
    by_cases h2 : n - d > i
    · have er : substV i own by_ n d (sz, 0) = (varT (n - 1), (sz, 0)) := by unfold substV; rw [if_neg h1, if_pos h2]
      rw [er]
      have cm := uX 110 n emptyB emptyB [] (-1) (by omega) (by omega)
      rw [show n + -1 = n - 1 by omega] at cm
      generalize varT (n - 1) = Z at *
      unfold varT
      refine cJ [1000, 1001, 1002, 1003, 1004] Try.func133 rfl rfl (nb rfl) rfl rfl ?_
      repeat' (first | refine bM ?_ | (refine bP ?_; first | refine aX tabOk rfl rfl rfl (nb rfl) rfl ?_ | refine bF rfl rfl (nb rfl) ?_ | (refine bO rfl rfl rfl (nb rfl) rfl rfl rfl (fun hq => ?_) (fun hq => ?_) <;> (first | (simp only [sD, sE, sB, sC, sN, sM, sT, sF] at hq; try (exfalso; omega)) | skip))| refine bX rfl rfl (nb rfl) rfl rfl rfl rfl (cm) ?_ | refine aE rfl rfl rfl (nb rfl) rfl rfl (by omega) ?_ | refine bI rfl rfl rfl (nb rfl) rfl rfl rfl (by omega) (by omega) ?_ | refine bJ rfl rfl rfl (nb rfl) rfl rfl rfl (by omega) (by omega) ?_ | refine bH tabOk rfl rfl rfl (nb rfl) rfl rfl rfl rfl rfl rfl rfl rfl rfl ?_ | refine aZ tabOk rfl rfl (nb rfl) rfl ?_ | refine aU tabOk rfl rfl rfl (nb rfl) rfl rfl rfl rfl rfl rfl ?_ | refine aV tabOk rfl rfl rfl (nb rfl) rfl rfl rfl rfl ?_ | refine aN tabOk rfl rfl rfl rfl rfl rfl rfl rfl rfl rfl rfl ?_ | refine aR tabOk rfl rfl rfl (nb rfl) rfl rfl rfl rfl (by first | assumption | omega) ?_ | refine aJ tabOk rfl rfl rfl (nb rfl) rfl rfl rfl rfl (by first | rfl | omega) (by first | omega | simp) ?_ | refine aC tabOk rfl rfl rfl (nb rfl) rfl rfl rfl (by assumption) ?_ | refine aC tabOk rfl rfl rfl (nb rfl) rfl rfl rfl (bS _ _ (by first | assumption | omega)) ?_ | refine aE rfl rfl rfl (nb rfl) rfl rfl (by omega) ?_ | ((fail_if_success (refine aG (b := true) rfl rfl rfl ?_)); (fail_if_success (refine aG (b := false) rfl rfl rfl ?_)); refine aW rfl rfl rfl (fun hq => ?_) (fun hq => ?_) <;> first | subst hq | (first | (simp only [sD, sE, sB, sC, sN, sM, sT, sF] at hq; try (exfalso; omega)) | skip)) | fail) | (refine bW ?_; first | refine bN ?_ | refine bT ?_ | refine aQ ?_ | refine bD ?_ | refine bU ?_ | refine bL ?_ | refine bK ?_ | refine aA (b := true) rfl (fun _ => ?_) nTf | refine aA (b := false) rfl nFt (fun _ => ?_) | refine bE ?_ | refine bC ?_ | refine bA mixed (by kernel_rfl) ?_ | refine aD mixed (by kernel_rfl) ?_ | (refine aA rfl (fun hq => ?_) (fun hq => ?_) <;> first | subst hq | (first | (simp only [sD, sE, sB, sC, sN, sM, sT, sF] at hq; try (exfalso; omega)) | skip)) | fail) | (refine bQ ?_; first | refine bZ ?_ | refine aK ?_ | refine aT ?_ | fail) | (refine bG ?_; first | refine bV ?_ | refine aH ?_ | refine aI (by decide) ?_ | refine aM ?_ | fail) | refine bR (bB (by kernel_rfl)) ?_ | fail)
      all_goals first
        | exact absurd rfl (by assumption)
        | (exfalso; omega)
        | (refine cO (cM (by first | exact .inl rfl | exact .inr rfl) (cB rfl (aY rfl)) rfl (by repeat' first | exact trivial | refine ⟨rfl, ?_⟩) rfl ?_); rfl)
    · have cs := zG by_ d 0 hbs
      rw [hpb] at cs
      by_cases h3 : sz + own > 65536
      · have er : substV i own by_ n d (sz, 0) = (varT n, (sz + own, 3)) := by unfold substV; rw [if_neg h1, if_neg h2, if_pos (.inl h3)]
        rw [er]
        unfold varT
        refine cJ [1000, 1001, 1002, 1003, 1004] Try.func133 rfl rfl (nb rfl) rfl rfl ?_
        repeat' (first | refine bM ?_ | (refine bP ?_; first | refine aX tabOk rfl rfl rfl (nb rfl) rfl ?_ | refine bF rfl rfl (nb rfl) ?_ | (refine bO rfl rfl rfl (nb rfl) rfl rfl rfl (fun hq => ?_) (fun hq => ?_) <;> (first | (simp only [sD, sE, sB, sC, sN, sM, sT, sF] at hq; try (exfalso; omega)) | skip))| refine bI (z := sz + own) rfl rfl rfl (nb rfl) rfl rfl rfl (by omega) (by omega) ?_ | refine aE rfl rfl rfl (nb rfl) rfl rfl (by omega) ?_ | refine bI rfl rfl rfl (nb rfl) rfl rfl rfl (by omega) (by omega) ?_ | refine bJ rfl rfl rfl (nb rfl) rfl rfl rfl (by omega) (by omega) ?_ | refine bH tabOk rfl rfl rfl (nb rfl) rfl rfl rfl rfl rfl rfl rfl rfl rfl ?_ | refine aZ tabOk rfl rfl (nb rfl) rfl ?_ | refine aU tabOk rfl rfl rfl (nb rfl) rfl rfl rfl rfl rfl rfl ?_ | refine aV tabOk rfl rfl rfl (nb rfl) rfl rfl rfl rfl ?_ | refine aN tabOk rfl rfl rfl rfl rfl rfl rfl rfl rfl rfl rfl ?_ | refine aR tabOk rfl rfl rfl (nb rfl) rfl rfl rfl rfl (by first | assumption | omega) ?_ | refine aJ tabOk rfl rfl rfl (nb rfl) rfl rfl rfl rfl (by first | rfl | omega) (by first | omega | simp) ?_ | refine aC tabOk rfl rfl rfl (nb rfl) rfl rfl rfl (by assumption) ?_ | refine aC tabOk rfl rfl rfl (nb rfl) rfl rfl rfl (bS _ _ (by first | assumption | omega)) ?_ | refine aE rfl rfl rfl (nb rfl) rfl rfl (by omega) ?_ | ((fail_if_success (refine aG (b := true) rfl rfl rfl ?_)); (fail_if_success (refine aG (b := false) rfl rfl rfl ?_)); refine aW rfl rfl rfl (fun hq => ?_) (fun hq => ?_) <;> first | subst hq | (first | (simp only [sD, sE, sB, sC, sN, sM, sT, sF] at hq; try (exfalso; omega)) | skip)) | fail) | (refine bW ?_; first | refine bN ?_ | refine bT ?_ | refine aQ ?_ | refine bD ?_ | refine bU ?_ | refine bL ?_ | refine bK ?_ | refine aA (b := true) rfl (fun _ => ?_) nTf | refine aA (b := false) rfl nFt (fun _ => ?_) | refine bE ?_ | refine bC ?_ | refine bA mixed (by kernel_rfl) ?_ | refine aD mixed (by kernel_rfl) ?_ | (refine aA rfl (fun hq => ?_) (fun hq => ?_) <;> first | subst hq | (first | (simp only [sD, sE, sB, sC, sN, sM, sT, sF] at hq; try (exfalso; omega)) | skip)) | fail) | (refine bQ ?_; first | refine bZ ?_ | refine aK ?_ | refine aT ?_ | fail) | (refine bG ?_; first | refine bV ?_ | refine aH ?_ | refine aI (by decide) ?_ | refine aM ?_ | fail) | refine bR (bB (by kernel_rfl)) ?_ | fail)
        all_goals first
          | exact absurd rfl (by assumption)
          | (exfalso; omega)
          | (refine cO (cM (by first | exact .inl rfl | exact .inr rfl) (cB rfl (aY rfl)) rfl (by repeat' first | exact trivial | refine ⟨rfl, ?_⟩) rfl ?_); rfl)
      · by_cases h4 : (shiftP by_ d 0).2 = 0
        · have er : substV i own by_ n d (sz, 0) = ((shiftP by_ d 0).1, (sz + own, 0)) := by unfold substV; rw [if_neg h1, if_neg h2, if_neg (fun h => h.elim h3 (fun h => h h4))]
          rw [er]
          rw [h4] at cs
          clear er h4 hpb
          generalize (shiftP by_ d 0).1 = Z at *
          unfold varT
          refine cJ [1000, 1001, 1002, 1003, 1004] Try.func133 rfl rfl (nb rfl) rfl rfl ?_
          repeat' (first | refine bM ?_ | (refine bP ?_; first | refine aX tabOk rfl rfl rfl (nb rfl) rfl ?_ | refine bF rfl rfl (nb rfl) ?_ | (refine bO rfl rfl rfl (nb rfl) rfl rfl rfl (fun hq => ?_) (fun hq => ?_) <;> (first | (simp only [sD, sE, sB, sC, sN, sM, sT, sF] at hq; try (exfalso; omega)) | skip))| refine bX rfl rfl (nb rfl) rfl rfl rfl rfl (cs) ?_ | refine bI (z := sz + own) rfl rfl rfl (nb rfl) rfl rfl rfl (by omega) (by omega) ?_ | refine aE rfl rfl rfl (nb rfl) rfl rfl (by omega) ?_ | refine bI rfl rfl rfl (nb rfl) rfl rfl rfl (by omega) (by omega) ?_ | refine bJ rfl rfl rfl (nb rfl) rfl rfl rfl (by omega) (by omega) ?_ | refine bH tabOk rfl rfl rfl (nb rfl) rfl rfl rfl rfl rfl rfl rfl rfl rfl ?_ | refine aZ tabOk rfl rfl (nb rfl) rfl ?_ | refine aU tabOk rfl rfl rfl (nb rfl) rfl rfl rfl rfl rfl rfl ?_ | refine aV tabOk rfl rfl rfl (nb rfl) rfl rfl rfl rfl ?_ | refine aN tabOk rfl rfl rfl rfl rfl rfl rfl rfl rfl rfl rfl ?_ | refine aR tabOk rfl rfl rfl (nb rfl) rfl rfl rfl rfl (by first | assumption | omega) ?_ | refine aJ tabOk rfl rfl rfl (nb rfl) rfl rfl rfl rfl (by first | rfl | omega) (by first | omega | simp) ?_ | refine aC tabOk rfl rfl rfl (nb rfl) rfl rfl rfl (by assumption) ?_ | refine aC tabOk rfl rfl rfl (nb rfl) rfl rfl rfl (bS _ _ (by first | assumption | omega)) ?_ | refine aE rfl rfl rfl (nb rfl) rfl rfl (by omega) ?_ | ((fail_if_success (refine aG (b := true) rfl rfl rfl ?_)); (fail_if_success (refine aG (b := false) rfl rfl rfl ?_)); refine aW rfl rfl rfl (fun hq => ?_) (fun hq => ?_) <;> first | subst hq | (first | (simp only [sD, sE, sB, sC, sN, sM, sT, sF] at hq; try (exfalso; omega)) | skip)) | fail) | (refine bW ?_; first | refine bN ?_ | refine bT ?_ | refine aQ ?_ | refine bD ?_ | refine bU ?_ | refine bL ?_ | refine bK ?_ | refine aA (b := true) rfl (fun _ => ?_) nTf | refine aA (b := false) rfl nFt (fun _ => ?_) | refine bE ?_ | refine bC ?_ | refine bA mixed (by kernel_rfl) ?_ | refine aD mixed (by kernel_rfl) ?_ | (refine aA rfl (fun hq => ?_) (fun hq => ?_) <;> first | subst hq | (first | (simp only [sD, sE, sB, sC, sN, sM, sT, sF] at hq; try (exfalso; omega)) | skip)) | fail) | (refine bQ ?_; first | refine bZ ?_ | refine aK ?_ | refine aT ?_ | fail) | (refine bG ?_; first | refine bV ?_ | refine aH ?_ | refine aI (by decide) ?_ | refine aM ?_ | fail) | refine bR (bB (by kernel_rfl)) ?_ | fail)
          all_goals first
            | exact absurd rfl (by assumption)
            | (exfalso; omega)
            | (refine cO (cM (by first | exact .inl rfl | exact .inr rfl) (cB rfl (aY rfl)) rfl (by repeat' first | exact trivial | refine ⟨rfl, ?_⟩) rfl ?_); rfl)
        · have er : substV i own by_ n d (sz, 0) = (varT n, (sz + own, 3)) := by unfold substV; rw [if_neg h1, if_neg h2, if_pos (.inr h4)]
          rw [er]
          clear er hpb
          generalize (shiftP by_ d 0).1 = Z at *
          generalize (shiftP by_ d 0).2 = Z2 at *
          unfold varT
          refine cJ [1000, 1001, 1002, 1003, 1004] Try.func133 rfl rfl (nb rfl) rfl rfl ?_
          repeat' (first | refine bM ?_ | (refine bP ?_; first | refine aX tabOk rfl rfl rfl (nb rfl) rfl ?_ | refine bF rfl rfl (nb rfl) ?_ | (refine bO rfl rfl rfl (nb rfl) rfl rfl rfl (fun hq => ?_) (fun hq => ?_) <;> (first | (simp only [sD, sE, sB, sC, sN, sM, sT, sF] at hq; try (exfalso; omega)) | skip))| refine bX rfl rfl (nb rfl) rfl rfl rfl rfl (cs) ?_ | refine bI (z := sz + own) rfl rfl rfl (nb rfl) rfl rfl rfl (by omega) (by omega) ?_ | refine aE rfl rfl rfl (nb rfl) rfl rfl (by omega) ?_ | refine bI rfl rfl rfl (nb rfl) rfl rfl rfl (by omega) (by omega) ?_ | refine bJ rfl rfl rfl (nb rfl) rfl rfl rfl (by omega) (by omega) ?_ | refine bH tabOk rfl rfl rfl (nb rfl) rfl rfl rfl rfl rfl rfl rfl rfl rfl ?_ | refine aZ tabOk rfl rfl (nb rfl) rfl ?_ | refine aU tabOk rfl rfl rfl (nb rfl) rfl rfl rfl rfl rfl rfl ?_ | refine aV tabOk rfl rfl rfl (nb rfl) rfl rfl rfl rfl ?_ | refine aN tabOk rfl rfl rfl rfl rfl rfl rfl rfl rfl rfl rfl ?_ | refine aR tabOk rfl rfl rfl (nb rfl) rfl rfl rfl rfl (by first | assumption | omega) ?_ | refine aJ tabOk rfl rfl rfl (nb rfl) rfl rfl rfl rfl (by first | rfl | omega) (by first | omega | simp) ?_ | refine aC tabOk rfl rfl rfl (nb rfl) rfl rfl rfl (by assumption) ?_ | refine aC tabOk rfl rfl rfl (nb rfl) rfl rfl rfl (bS _ _ (by first | assumption | omega)) ?_ | refine aE rfl rfl rfl (nb rfl) rfl rfl (by omega) ?_ | ((fail_if_success (refine aG (b := true) rfl rfl rfl ?_)); (fail_if_success (refine aG (b := false) rfl rfl rfl ?_)); refine aW rfl rfl rfl (fun hq => ?_) (fun hq => ?_) <;> first | subst hq | (first | (simp only [sD, sE, sB, sC, sN, sM, sT, sF] at hq; try (exfalso; omega)) | skip)) | fail) | (refine bW ?_; first | refine bN ?_ | refine bT ?_ | refine aQ ?_ | refine bD ?_ | refine bU ?_ | refine bL ?_ | refine bK ?_ | refine aA (b := true) rfl (fun _ => ?_) nTf | refine aA (b := false) rfl nFt (fun _ => ?_) | refine bE ?_ | refine bC ?_ | refine bA mixed (by kernel_rfl) ?_ | refine aD mixed (by kernel_rfl) ?_ | (refine aA rfl (fun hq => ?_) (fun hq => ?_) <;> first | subst hq | (first | (simp only [sD, sE, sB, sC, sN, sM, sT, sF] at hq; try (exfalso; omega)) | skip)) | fail) | (refine bQ ?_; first | refine bZ ?_ | refine aK ?_ | refine aT ?_ | fail) | (refine bG ?_; first | refine bV ?_ | refine aH ?_ | refine aI (by decide) ?_ | refine aM ?_ | fail) | refine bR (bB (by kernel_rfl)) ?_ | fail)
          all_goals first
            | exact absurd (by assumption) h4
            | exact absurd rfl (by assumption)
            | (exfalso; omega)
            | (refine cO (cM (by first | exact .inl rfl | exact .inr rfl) (cB rfl (aY rfl)) rfl (by repeat' first | exact trivial | refine ⟨rfl, ?_⟩) rfl ?_); rfl)
def substJ (s : Int × Int) : Prop := 0 ≤ s.1 ∧ s.1 ≤ 131072 ∧ (s.2 = 0 → s.1 ≤ 65536) ∧ (s.2 = 0 ∨ s.2 = 3)
theorem kR (i : Int) (by_ : Tree) (hb : by_.size ≤ 65536) (n d : Int) (s : Int × Int) (hJ : substJ s) :
    (substV i by_.size by_ n d s).1.whole = true ∧ substJ (substV i by_.size by_ n d s).2 ∧ (substV i by_.size by_ n d s).1.size + s.1.toNat ≤ 1 + (substV i by_.size by_ n d s).2.1.toNat := by
  obtain ⟨sz, e⟩ := s
  obtain ⟨j1, j2, j3, j4⟩ := hJ
  dsimp only at j1 j2 j3 j4
  unfold substV
  dsimp only
  split
  · exact ⟨rfl, ⟨j1, j2, j3, j4⟩, by rw [gD]; dsimp only; omega⟩
  · rename_i h1
    have he : e = 0 := by omega
    subst he
    have j5 := j3 rfl
    split
    · exact ⟨rfl, ⟨j1, j2, j3, j4⟩, by rw [gD]; dsimp only; omega⟩
    · split
      · refine ⟨rfl, ⟨?_, ?_, ?_, .inr rfl⟩, ?_⟩
        · show 0 ≤ sz + by_.size; omega
        · show sz + by_.size ≤ 131072; omega
        · intro h; cases h
        · rw [gD]; dsimp only; omega
      · rename_i h3
        have h4 : (shiftP by_ d 0).2 = 0 := by omega
        have h5 := rD by_ d 0 h4
        refine ⟨h5.1, ⟨?_, ?_, ?_, .inl rfl⟩, ?_⟩
        · show 0 ≤ sz + by_.size; omega
        · show sz + by_.size ≤ 131072; omega
        · intro _; show sz + by_.size ≤ 65536; omega
        · have := h5.2.1; dsimp only; omega
/-- What Subst tells. -/
def substP (t : Tree) (i : Int) (by_ : Tree) : Tree × Int :=
  if checkP isConP t ≠ 0 then (.nil, checkP isConP t)
  else if checkP isConP by_ ≠ 0 then (.nil, checkP isConP by_)
  else if i < 0 then (.nil, 2)
  else if (walkS (substV i by_.size by_) t 0 (0, 0)).2.2 ≠ 0 ∨ (walkS (substV i by_.size by_) t 0 (0, 0)).1.size > 65536 then (.nil, 3)
  else ((walkS (substV i by_.size by_) t 0 (0, 0)).1, 0)
theorem substW (t : Tree) (i : Int) (by_ : Tree) (hc : checkP isConP t = 0) (hb : checkP isConP by_ = 0) :
    (walkS (substV i by_.size by_) t 0 (0, 0)).1.whole = true ∧ substJ (walkS (substV i by_.size by_) t 0 (0, 0)).2 ∧ (walkS (substV i by_.size by_) t 0 (0, 0)).1.size ≤ 200000 := by
  obtain ⟨hw, hz, hf⟩ := cQ hc
  obtain ⟨bw, bz, bf⟩ := cQ hb
  have := jM (substV i by_.size by_) substJ (fun s => s.1.toNat) (fun n d s hJ _ _ _ _ => kR i by_ bz n d s hJ) t 0 (0, 0) (dP t hf) hw (Int.le_refl _) (by omega) ⟨by decide, by decide, by decide, .inl rfl⟩
  refine ⟨this.1, this.2.1, ?_⟩
  have h1 := this.2.2
  have h2 := this.2.1.2.1
  dsimp only at h1
  omega
theorem kS (t : Tree) (i : Int) (by_ : Tree) (h : (substP t i by_).2 = 0) : (substP t i by_).1.whole = true ∧ (substP t i by_).1.size ≤ 65536 ∧ checkP isConP t = 0 ∧ checkP isConP by_ = 0 := by
  unfold substP at h ⊢
  by_cases hc : checkP isConP t = 0
  · rw [if_neg (by simpa using hc)] at h ⊢
    by_cases hb : checkP isConP by_ = 0
    · rw [if_neg (by simpa using hb)] at h ⊢
      split at h
      · cases h
      · rename_i hi
        rw [if_neg hi]
        split at h
        · cases h
        · rename_i h3
          rw [if_neg h3]
          have := substW t i by_ hc hb
          exact ⟨this.1, by dsimp only; omega, hc, hb⟩
    · rw [if_pos (by simpa using hb)] at h
      exact absurd h hb
  · rw [if_pos (by simpa using hc)] at h
    exact absurd h hc
end Go.Proofs.Ytlbemgokilhdnaa.Ab
namespace Go.Proofs.Ytlbemgokilhdnaa.Ab
set_option linter.unusedVariables false
set_option linter.unusedSimpArgs false
attribute [local irreducible] AWP AOps AExit AThen ABlock ANoGoto FeetOk
set_option maxHeartbeats 16000000 in
set_option maxRecDepth 10000 in
theorem zI (t : Tree) (i : Int) (by_ : Tree) (hs : t.size ≤ 1000000) (hbs : by_.size ≤ 1000000) : ACalls Try.prog 113 [.imm t.iv, .imm (.lit (.int .i64 i)), .imm by_.iv] [] (.imm (.tup [(substP t i by_).1.iv, .lit (.int .i64 (substP t i by_).2)])) [] := by
  have c1 := gC t hs
  have c2 := gC by_ hbs
  obtain ⟨Q, hQ⟩ : ∃ Q, substP t i by_ = Q := ⟨_, rfl⟩
  rw [hQ]
  unfold substP at hQ
  by_cases hc : checkP isConP t = 0
  · rw [if_neg (by simpa using hc)] at hQ
    rw [hc] at c1
    by_cases hb : checkP isConP by_ = 0
    · rw [if_neg (by simpa using hb)] at hQ
      rw [hb] at c2
      obtain ⟨bw, bz, _⟩ := cQ hb
      obtain ⟨pb, hpb⟩ := fR (fF bw)
      by_cases hi : i < 0
      · rw [if_pos hi] at hQ
        subst hQ
        rw [hpb] at c2 ⊢
        refine bY Try.func113 rfl rfl (nb rfl) rfl ?_
        repeat' (first | refine bM ?_ | (refine bP ?_; first | refine aX tabOk rfl rfl rfl (nb rfl) rfl ?_ | refine bF rfl rfl (nb rfl) ?_ | (refine bO rfl rfl rfl (nb rfl) rfl rfl rfl (fun hq => ?_) (fun hq => ?_) <;> (first | (simp only [sD, sE, sB, sC, sN, sM, sT, sF] at hq; try (exfalso; omega)) | skip))| refine bX rfl rfl (nb rfl) rfl rfl rfl rfl (c1) ?_ | refine bX rfl rfl (nb rfl) rfl rfl rfl rfl (c2) ?_ | refine cR 1001 (d := 4) rfl rfl rfl (nb rfl) rfl rfl rfl rfl rfl rfl rfl ?_ | refine cR 1004 (d := 5) rfl rfl rfl (nb rfl) rfl rfl rfl rfl rfl rfl rfl ?_ | refine aE rfl rfl rfl (nb rfl) rfl rfl (by omega) ?_ | refine bI rfl rfl rfl (nb rfl) rfl rfl rfl (by omega) (by omega) ?_ | refine bJ rfl rfl rfl (nb rfl) rfl rfl rfl (by omega) (by omega) ?_ | refine bH tabOk rfl rfl rfl (nb rfl) rfl rfl rfl rfl rfl rfl rfl rfl rfl ?_ | refine aZ tabOk rfl rfl (nb rfl) rfl ?_ | refine aU tabOk rfl rfl rfl (nb rfl) rfl rfl rfl rfl rfl rfl ?_ | refine aV tabOk rfl rfl rfl (nb rfl) rfl rfl rfl rfl ?_ | refine aN tabOk rfl rfl rfl rfl rfl rfl rfl rfl rfl rfl rfl ?_ | refine aR tabOk rfl rfl rfl (nb rfl) rfl rfl rfl rfl (by first | assumption | omega) ?_ | refine aJ tabOk rfl rfl rfl (nb rfl) rfl rfl rfl rfl (by first | rfl | omega) (by first | omega | simp) ?_ | refine aC tabOk rfl rfl rfl (nb rfl) rfl rfl rfl (by assumption) ?_ | refine aC tabOk rfl rfl rfl (nb rfl) rfl rfl rfl (bS _ _ (by first | assumption | omega)) ?_ | refine aE rfl rfl rfl (nb rfl) rfl rfl (by omega) ?_ | ((fail_if_success (refine aG (b := true) rfl rfl rfl ?_)); (fail_if_success (refine aG (b := false) rfl rfl rfl ?_)); refine aW rfl rfl rfl (fun hq => ?_) (fun hq => ?_) <;> first | subst hq | (first | (simp only [sD, sE, sB, sC, sN, sM, sT, sF] at hq; try (exfalso; omega)) | skip)) | fail) | (refine bW ?_; first | refine bN ?_ | refine bT ?_ | refine aQ ?_ | refine bD ?_ | refine bU ?_ | refine bL ?_ | refine bK ?_ | refine aA (b := true) rfl (fun _ => ?_) nTf | refine aA (b := false) rfl nFt (fun _ => ?_) | refine bE ?_ | refine bC ?_ | refine bA mixed (by kernel_rfl) ?_ | refine aD mixed (by kernel_rfl) ?_ | (refine aA rfl (fun hq => ?_) (fun hq => ?_) <;> first | subst hq | (first | (simp only [sD, sE, sB, sC, sN, sM, sT, sF] at hq; try (exfalso; omega)) | skip)) | fail) | (refine bQ ?_; first | refine bZ ?_ | refine aK ?_ | refine aT ?_ | fail) | (refine bG ?_; first | refine bV ?_ | refine aH ?_ | refine aI (by decide) ?_ | refine aM ?_ | fail) | refine bR (bB (by kernel_rfl)) ?_ | fail)
        all_goals first
          | exact absurd rfl (by assumption)
          | (exfalso; omega)
          | (refine cA (by first | exact .inl rfl | exact .inr rfl) (cC rfl (aY rfl) (aY rfl)) rfl ?_; rfl)
      · rw [if_neg hi] at hQ
        obtain ⟨hw, hz, hf⟩ := cQ hc
        have hv := dP t hf
        have h3 := substW t i by_ hc hb
        have c3 := aAg by_ hbs (.inr bw)
        obtain ⟨cw, _, hne⟩ := (zF (σ := Int × Int) (substV i by_.size by_) 133 (fun s => .lit (.int .i64 s.2)) (fun _ => .lit (.int .i64 i)) (fun s => .lit (.int .i64 s.1)) (fun _ => .lit (.int .i64 by_.size)) (fun _ => .ptr pb 0) substJ
          (fun n d s hJ h1 h2 h3 h4 => by
            have hf := kR i by_ bz n d s hJ
            obtain ⟨sz, e⟩ := s
            exact ⟨xS i by_.size by_ pb hpb hbs n d sz e (by omega) (by omega) (by omega) hJ.1 hJ.2.1 h1 h2 h3 h4, hf.2.1, fF hf.1⟩) t 0 (0, 0) hv hw (Int.le_refl _) (by omega) ⟨by decide, by decide, by decide, .inl rfl⟩)
        obtain ⟨pc, hpc⟩ := fR hne
        have c4 := zH _ h3.1 (by omega) 65536 (by omega) (by omega)
        have hlg := kQ _ h3.1 65536 (by omega)
        rw [hpc] at cw c4
        rw [hpb] at c2 c3 ⊢
        have hJ4 := h3.2.1.2.2.2
        have hout : ∀ x y, Q = (x, y) → True := fun _ _ _ => trivial
        clear hc hb hw hf hv hne h3 hout bw
        generalize walkS (substV i by_.size by_) t 0 (0, 0) = W at *
        obtain ⟨W1, W2, W3⟩ := W
        dsimp only at *
        generalize largeP W1 65536 = LP at *
        by_cases h4 : W3 ≠ 0
        · rw [if_pos (.inl h4)] at hQ
          subst hQ
          have h5 : W3 = 3 := by omega
          subst h5
          refine bY Try.func113 rfl rfl (nb rfl) rfl ?_
          repeat' (first | refine bM ?_ | (refine bP ?_; first | refine aX tabOk rfl rfl rfl (nb rfl) rfl ?_ | refine bF rfl rfl (nb rfl) ?_ | (refine bO rfl rfl rfl (nb rfl) rfl rfl rfl (fun hq => ?_) (fun hq => ?_) <;> (first | (simp only [sD, sE, sB, sC, sN, sM, sT, sF] at hq; try (exfalso; omega)) | skip))| refine bX rfl rfl (nb rfl) rfl rfl rfl rfl (c1) ?_ | refine bX rfl rfl (nb rfl) rfl rfl rfl rfl (c2) ?_ | refine bX rfl rfl (nb rfl) rfl rfl rfl rfl (c3) ?_ | refine bX rfl rfl (nb rfl) rfl rfl rfl rfl (c4) ?_ | refine cR 1001 (d := 4) rfl rfl rfl (nb rfl) rfl rfl rfl rfl rfl rfl rfl ?_ | refine cR 1004 (d := 5) rfl rfl rfl (nb rfl) rfl rfl rfl rfl rfl rfl rfl ?_ | refine cX 1002 (d := 10) tabOk rfl rfl rfl (nb rfl) rfl rfl rfl rfl rfl rfl ?_ | refine cX 1000 (d := 11) tabOk rfl rfl rfl (nb rfl) rfl rfl rfl rfl rfl rfl ?_ | refine cX 1003 (d := 12) tabOk rfl rfl rfl (nb rfl) rfl rfl rfl rfl rfl rfl ?_ | refine cL rfl rfl (nb rfl) rfl rfl rfl rfl cw (by repeat' first | exact trivial | refine ⟨rfl, ?_⟩) rfl (by show ([1000, 1001, 1002, 1003, 1004] : List Nat).Nodup; decide) ?_ | refine aE rfl rfl rfl (nb rfl) rfl rfl (by omega) ?_ | refine bI rfl rfl rfl (nb rfl) rfl rfl rfl (by omega) (by omega) ?_ | refine bJ rfl rfl rfl (nb rfl) rfl rfl rfl (by omega) (by omega) ?_ | refine bH tabOk rfl rfl rfl (nb rfl) rfl rfl rfl rfl rfl rfl rfl rfl rfl ?_ | refine aZ tabOk rfl rfl (nb rfl) rfl ?_ | refine aU tabOk rfl rfl rfl (nb rfl) rfl rfl rfl rfl rfl rfl ?_ | refine aV tabOk rfl rfl rfl (nb rfl) rfl rfl rfl rfl ?_ | refine aN tabOk rfl rfl rfl rfl rfl rfl rfl rfl rfl rfl rfl ?_ | refine aR tabOk rfl rfl rfl (nb rfl) rfl rfl rfl rfl (by first | assumption | omega) ?_ | refine aJ tabOk rfl rfl rfl (nb rfl) rfl rfl rfl rfl (by first | rfl | omega) (by first | omega | simp) ?_ | refine aC tabOk rfl rfl rfl (nb rfl) rfl rfl rfl (by assumption) ?_ | refine aC tabOk rfl rfl rfl (nb rfl) rfl rfl rfl (bS _ _ (by first | assumption | omega)) ?_ | refine aE rfl rfl rfl (nb rfl) rfl rfl (by omega) ?_ | ((fail_if_success (refine aG (b := true) rfl rfl rfl ?_)); (fail_if_success (refine aG (b := false) rfl rfl rfl ?_)); refine aW rfl rfl rfl (fun hq => ?_) (fun hq => ?_) <;> first | subst hq | (first | (simp only [sD, sE, sB, sC, sN, sM, sT, sF] at hq; try (exfalso; omega)) | skip)) | fail) | (refine bW ?_; first | refine bN ?_ | refine bT ?_ | refine aQ ?_ | refine bD ?_ | refine bU ?_ | refine bL ?_ | refine bK ?_ | refine aA (b := true) rfl (fun _ => ?_) nTf | refine aA (b := false) rfl nFt (fun _ => ?_) | refine bE ?_ | refine bC ?_ | refine bA mixed (by kernel_rfl) ?_ | refine aD mixed (by kernel_rfl) ?_ | (refine aA rfl (fun hq => ?_) (fun hq => ?_) <;> first | subst hq | (first | (simp only [sD, sE, sB, sC, sN, sM, sT, sF] at hq; try (exfalso; omega)) | skip)) | fail) | (refine bQ ?_; first | refine bZ ?_ | refine aK ?_ | refine aT ?_ | fail) | (refine bG ?_; first | refine bV ?_ | refine aH ?_ | refine aI (by decide) ?_ | refine aM ?_ | fail) | refine bR (bB (by kernel_rfl)) ?_ | fail)
          all_goals first
            | exact absurd rfl (by assumption)
            | (exfalso; omega)
            | (refine cA (by first | exact .inl rfl | exact .inr rfl) (cC rfl (aY rfl) (aY rfl)) rfl ?_; rfl)
        · have h5 : W3 = 0 := by omega
          subst h5
          by_cases h6 : W1.size > 65536
          · rw [if_pos (.inr h6)] at hQ
            subst hQ
            have h7 : LP > 65536 := hlg.2.2.2 (by omega)
            refine bY Try.func113 rfl rfl (nb rfl) rfl ?_
            repeat' (first | refine bM ?_ | (refine bP ?_; first | refine aX tabOk rfl rfl rfl (nb rfl) rfl ?_ | refine bF rfl rfl (nb rfl) ?_ | (refine bO rfl rfl rfl (nb rfl) rfl rfl rfl (fun hq => ?_) (fun hq => ?_) <;> (first | (simp only [sD, sE, sB, sC, sN, sM, sT, sF] at hq; try (exfalso; omega)) | skip))| refine bX rfl rfl (nb rfl) rfl rfl rfl rfl (c1) ?_ | refine bX rfl rfl (nb rfl) rfl rfl rfl rfl (c2) ?_ | refine bX rfl rfl (nb rfl) rfl rfl rfl rfl (c3) ?_ | refine bX rfl rfl (nb rfl) rfl rfl rfl rfl (c4) ?_ | refine cR 1001 (d := 4) rfl rfl rfl (nb rfl) rfl rfl rfl rfl rfl rfl rfl ?_ | refine cR 1004 (d := 5) rfl rfl rfl (nb rfl) rfl rfl rfl rfl rfl rfl rfl ?_ | refine cX 1002 (d := 10) tabOk rfl rfl rfl (nb rfl) rfl rfl rfl rfl rfl rfl ?_ | refine cX 1000 (d := 11) tabOk rfl rfl rfl (nb rfl) rfl rfl rfl rfl rfl rfl ?_ | refine cX 1003 (d := 12) tabOk rfl rfl rfl (nb rfl) rfl rfl rfl rfl rfl rfl ?_ | refine cL rfl rfl (nb rfl) rfl rfl rfl rfl cw (by repeat' first | exact trivial | refine ⟨rfl, ?_⟩) rfl (by show ([1000, 1001, 1002, 1003, 1004] : List Nat).Nodup; decide) ?_ | refine aE rfl rfl rfl (nb rfl) rfl rfl (by omega) ?_ | refine bI rfl rfl rfl (nb rfl) rfl rfl rfl (by omega) (by omega) ?_ | refine bJ rfl rfl rfl (nb rfl) rfl rfl rfl (by omega) (by omega) ?_ | refine bH tabOk rfl rfl rfl (nb rfl) rfl rfl rfl rfl rfl rfl rfl rfl rfl ?_ | refine aZ tabOk rfl rfl (nb rfl) rfl ?_ | refine aU tabOk rfl rfl rfl (nb rfl) rfl rfl rfl rfl rfl rfl ?_ | refine aV tabOk rfl rfl rfl (nb rfl) rfl rfl rfl rfl ?_ | refine aN tabOk rfl rfl rfl rfl rfl rfl rfl rfl rfl rfl rfl ?_ | refine aR tabOk rfl rfl rfl (nb rfl) rfl rfl rfl rfl (by first | assumption | omega) ?_ | refine aJ tabOk rfl rfl rfl (nb rfl) rfl rfl rfl rfl (by first | rfl | omega) (by first | omega | simp) ?_ | refine aC tabOk rfl rfl rfl (nb rfl) rfl rfl rfl (by assumption) ?_ | refine aC tabOk rfl rfl rfl (nb rfl) rfl rfl rfl (bS _ _ (by first | assumption | omega)) ?_ | refine aE rfl rfl rfl (nb rfl) rfl rfl (by omega) ?_ | ((fail_if_success (refine aG (b := true) rfl rfl rfl ?_)); (fail_if_success (refine aG (b := false) rfl rfl rfl ?_)); refine aW rfl rfl rfl (fun hq => ?_) (fun hq => ?_) <;> first | subst hq | (first | (simp only [sD, sE, sB, sC, sN, sM, sT, sF] at hq; try (exfalso; omega)) | skip)) | fail) | (refine bW ?_; first | refine bN ?_ | refine bT ?_ | refine aQ ?_ | refine bD ?_ | refine bU ?_ | refine bL ?_ | refine bK ?_ | refine aA (b := true) rfl (fun _ => ?_) nTf | refine aA (b := false) rfl nFt (fun _ => ?_) | refine bE ?_ | refine bC ?_ | refine bA mixed (by kernel_rfl) ?_ | refine aD mixed (by kernel_rfl) ?_ | (refine aA rfl (fun hq => ?_) (fun hq => ?_) <;> first | subst hq | (first | (simp only [sD, sE, sB, sC, sN, sM, sT, sF] at hq; try (exfalso; omega)) | skip)) | fail) | (refine bQ ?_; first | refine bZ ?_ | refine aK ?_ | refine aT ?_ | fail) | (refine bG ?_; first | refine bV ?_ | refine aH ?_ | refine aI (by decide) ?_ | refine aM ?_ | fail) | refine bR (bB (by kernel_rfl)) ?_ | fail)
            all_goals first
              | exact absurd rfl (by assumption)
              | (exfalso; omega)
              | (refine cA (by first | exact .inl rfl | exact .inr rfl) (cC rfl (aY rfl) (aY rfl)) rfl ?_; rfl)
          · rw [if_neg (fun h => h.elim (fun h => h rfl) h6)] at hQ
            subst hQ
            have h7 : LP = W1.size := hlg.2.2.1 (by omega)
            dsimp only
            rw [hpc]
            refine bY Try.func113 rfl rfl (nb rfl) rfl ?_
            repeat' (first | refine bM ?_ | (refine bP ?_; first | refine aX tabOk rfl rfl rfl (nb rfl) rfl ?_ | refine bF rfl rfl (nb rfl) ?_ | (refine bO rfl rfl rfl (nb rfl) rfl rfl rfl (fun hq => ?_) (fun hq => ?_) <;> (first | (simp only [sD, sE, sB, sC, sN, sM, sT, sF] at hq; try (exfalso; omega)) | skip))| refine bX rfl rfl (nb rfl) rfl rfl rfl rfl (c1) ?_ | refine bX rfl rfl (nb rfl) rfl rfl rfl rfl (c2) ?_ | refine bX rfl rfl (nb rfl) rfl rfl rfl rfl (c3) ?_ | refine bX rfl rfl (nb rfl) rfl rfl rfl rfl (c4) ?_ | refine cR 1001 (d := 4) rfl rfl rfl (nb rfl) rfl rfl rfl rfl rfl rfl rfl ?_ | refine cR 1004 (d := 5) rfl rfl rfl (nb rfl) rfl rfl rfl rfl rfl rfl rfl ?_ | refine cX 1002 (d := 10) tabOk rfl rfl rfl (nb rfl) rfl rfl rfl rfl rfl rfl ?_ | refine cX 1000 (d := 11) tabOk rfl rfl rfl (nb rfl) rfl rfl rfl rfl rfl rfl ?_ | refine cX 1003 (d := 12) tabOk rfl rfl rfl (nb rfl) rfl rfl rfl rfl rfl rfl ?_ | refine cL rfl rfl (nb rfl) rfl rfl rfl rfl cw (by repeat' first | exact trivial | refine ⟨rfl, ?_⟩) rfl (by show ([1000, 1001, 1002, 1003, 1004] : List Nat).Nodup; decide) ?_ | refine aE rfl rfl rfl (nb rfl) rfl rfl (by omega) ?_ | refine bI rfl rfl rfl (nb rfl) rfl rfl rfl (by omega) (by omega) ?_ | refine bJ rfl rfl rfl (nb rfl) rfl rfl rfl (by omega) (by omega) ?_ | refine bH tabOk rfl rfl rfl (nb rfl) rfl rfl rfl rfl rfl rfl rfl rfl rfl ?_ | refine aZ tabOk rfl rfl (nb rfl) rfl ?_ | refine aU tabOk rfl rfl rfl (nb rfl) rfl rfl rfl rfl rfl rfl ?_ | refine aV tabOk rfl rfl rfl (nb rfl) rfl rfl rfl rfl ?_ | refine aN tabOk rfl rfl rfl rfl rfl rfl rfl rfl rfl rfl rfl ?_ | refine aR tabOk rfl rfl rfl (nb rfl) rfl rfl rfl rfl (by first | assumption | omega) ?_ | refine aJ tabOk rfl rfl rfl (nb rfl) rfl rfl rfl rfl (by first | rfl | omega) (by first | omega | simp) ?_ | refine aC tabOk rfl rfl rfl (nb rfl) rfl rfl rfl (by assumption) ?_ | refine aC tabOk rfl rfl rfl (nb rfl) rfl rfl rfl (bS _ _ (by first | assumption | omega)) ?_ | refine aE rfl rfl rfl (nb rfl) rfl rfl (by omega) ?_ | ((fail_if_success (refine aG (b := true) rfl rfl rfl ?_)); (fail_if_success (refine aG (b := false) rfl rfl rfl ?_)); refine aW rfl rfl rfl (fun hq => ?_) (fun hq => ?_) <;> first | subst hq | (first | (simp only [sD, sE, sB, sC, sN, sM, sT, sF] at hq; try (exfalso; omega)) | skip)) | fail) | (refine bW ?_; first | refine bN ?_ | refine bT ?_ | refine aQ ?_ | refine bD ?_ | refine bU ?_ | refine bL ?_ | refine bK ?_ | refine aA (b := true) rfl (fun _ => ?_) nTf | refine aA (b := false) rfl nFt (fun _ => ?_) | refine bE ?_ | refine bC ?_ | refine bA mixed (by kernel_rfl) ?_ | refine aD mixed (by kernel_rfl) ?_ | (refine aA rfl (fun hq => ?_) (fun hq => ?_) <;> first | subst hq | (first | (simp only [sD, sE, sB, sC, sN, sM, sT, sF] at hq; try (exfalso; omega)) | skip)) | fail) | (refine bQ ?_; first | refine bZ ?_ | refine aK ?_ | refine aT ?_ | fail) | (refine bG ?_; first | refine bV ?_ | refine aH ?_ | refine aI (by decide) ?_ | refine aM ?_ | fail) | refine bR (bB (by kernel_rfl)) ?_ | fail)
            all_goals first
              | exact absurd rfl (by assumption)
              | (exfalso; omega)
              | (refine cA (by first | exact .inl rfl | exact .inr rfl) (cC rfl (aY rfl) (aY rfl)) rfl ?_; rfl)
    · rw [if_pos hb] at hQ
      subst hQ
      generalize checkP isConP by_ = C at *
      obtain ⟨y, hy, hy1⟩ : ∃ y, by_.iv = y ∧ (y = .lit (.pointer none) ∨ ∃ p, y = .ptr p 0) := by
        cases by_ with
        | nil => exact ⟨_, rfl, .inl rfl⟩
        | node k n a b ks => exact ⟨_, rfl, .inr ⟨_, by rw [Tree.iv]⟩⟩
      rw [hy] at c2 ⊢
      rcases hy1 with rfl | ⟨p, rfl⟩ <;>
      (refine bY Try.func113 rfl rfl (nb rfl) rfl ?_
       repeat' (first | refine bM ?_ | (refine bP ?_; first | refine aX tabOk rfl rfl rfl (nb rfl) rfl ?_ | refine bF rfl rfl (nb rfl) ?_ | (refine bO rfl rfl rfl (nb rfl) rfl rfl rfl (fun hq => ?_) (fun hq => ?_) <;> (first | (simp only [sD, sE, sB, sC, sN, sM, sT, sF] at hq; try (exfalso; omega)) | skip))| refine bX rfl rfl (nb rfl) rfl rfl rfl rfl (c1) ?_ | refine bX rfl rfl (nb rfl) rfl rfl rfl rfl (c2) ?_ | refine cR 1001 (d := 4) rfl rfl rfl (nb rfl) rfl rfl rfl rfl rfl rfl rfl ?_ | refine cR 1004 (d := 5) rfl rfl rfl (nb rfl) rfl rfl rfl rfl rfl rfl rfl ?_ | refine aE rfl rfl rfl (nb rfl) rfl rfl (by omega) ?_ | refine bI rfl rfl rfl (nb rfl) rfl rfl rfl (by omega) (by omega) ?_ | refine bJ rfl rfl rfl (nb rfl) rfl rfl rfl (by omega) (by omega) ?_ | refine bH tabOk rfl rfl rfl (nb rfl) rfl rfl rfl rfl rfl rfl rfl rfl rfl ?_ | refine aZ tabOk rfl rfl (nb rfl) rfl ?_ | refine aU tabOk rfl rfl rfl (nb rfl) rfl rfl rfl rfl rfl rfl ?_ | refine aV tabOk rfl rfl rfl (nb rfl) rfl rfl rfl rfl ?_ | refine aN tabOk rfl rfl rfl rfl rfl rfl rfl rfl rfl rfl rfl ?_ | refine aR tabOk rfl rfl rfl (nb rfl) rfl rfl rfl rfl (by first | assumption | omega) ?_ | refine aJ tabOk rfl rfl rfl (nb rfl) rfl rfl rfl rfl (by first | rfl | omega) (by first | omega | simp) ?_ | refine aC tabOk rfl rfl rfl (nb rfl) rfl rfl rfl (by assumption) ?_ | refine aC tabOk rfl rfl rfl (nb rfl) rfl rfl rfl (bS _ _ (by first | assumption | omega)) ?_ | refine aE rfl rfl rfl (nb rfl) rfl rfl (by omega) ?_ | ((fail_if_success (refine aG (b := true) rfl rfl rfl ?_)); (fail_if_success (refine aG (b := false) rfl rfl rfl ?_)); refine aW rfl rfl rfl (fun hq => ?_) (fun hq => ?_) <;> first | subst hq | (first | (simp only [sD, sE, sB, sC, sN, sM, sT, sF] at hq; try (exfalso; omega)) | skip)) | fail) | (refine bW ?_; first | refine bN ?_ | refine bT ?_ | refine aQ ?_ | refine bD ?_ | refine bU ?_ | refine bL ?_ | refine bK ?_ | refine aA (b := true) rfl (fun _ => ?_) nTf | refine aA (b := false) rfl nFt (fun _ => ?_) | refine bE ?_ | refine bC ?_ | refine bA mixed (by kernel_rfl) ?_ | refine aD mixed (by kernel_rfl) ?_ | (refine aA rfl (fun hq => ?_) (fun hq => ?_) <;> first | subst hq | (first | (simp only [sD, sE, sB, sC, sN, sM, sT, sF] at hq; try (exfalso; omega)) | skip)) | fail) | (refine bQ ?_; first | refine bZ ?_ | refine aK ?_ | refine aT ?_ | fail) | (refine bG ?_; first | refine bV ?_ | refine aH ?_ | refine aI (by decide) ?_ | refine aM ?_ | fail) | refine bR (bB (by kernel_rfl)) ?_ | fail)
       all_goals first
         | exact absurd rfl (by assumption)
         | exact absurd (by assumption) hb
         | (exfalso; omega)
         | (refine cA (by first | exact .inl rfl | exact .inr rfl) (cC rfl (aY rfl) (aY rfl)) rfl ?_; rfl))
  · rw [if_pos hc] at hQ
    subst hQ
    generalize checkP isConP t = C at *
    obtain ⟨y, hy, hy1⟩ : ∃ y, by_.iv = y ∧ (y = .lit (.pointer none) ∨ ∃ p, y = .ptr p 0) := by
      cases by_ with
      | nil => exact ⟨_, rfl, .inl rfl⟩
      | node k n a b ks => exact ⟨_, rfl, .inr ⟨_, by rw [Tree.iv]⟩⟩
    rw [hy]
    rcases hy1 with rfl | ⟨p, rfl⟩ <;>
    (refine bY Try.func113 rfl rfl (nb rfl) rfl ?_
     repeat' (first | refine bM ?_ | (refine bP ?_; first | refine aX tabOk rfl rfl rfl (nb rfl) rfl ?_ | refine bF rfl rfl (nb rfl) ?_ | (refine bO rfl rfl rfl (nb rfl) rfl rfl rfl (fun hq => ?_) (fun hq => ?_) <;> (first | (simp only [sD, sE, sB, sC, sN, sM, sT, sF] at hq; try (exfalso; omega)) | skip))| refine bX rfl rfl (nb rfl) rfl rfl rfl rfl (c1) ?_ | refine cR 1001 (d := 4) rfl rfl rfl (nb rfl) rfl rfl rfl rfl rfl rfl rfl ?_ | refine cR 1004 (d := 5) rfl rfl rfl (nb rfl) rfl rfl rfl rfl rfl rfl rfl ?_ | refine aE rfl rfl rfl (nb rfl) rfl rfl (by omega) ?_ | refine bI rfl rfl rfl (nb rfl) rfl rfl rfl (by omega) (by omega) ?_ | refine bJ rfl rfl rfl (nb rfl) rfl rfl rfl (by omega) (by omega) ?_ | refine bH tabOk rfl rfl rfl (nb rfl) rfl rfl rfl rfl rfl rfl rfl rfl rfl ?_ | refine aZ tabOk rfl rfl (nb rfl) rfl ?_ | refine aU tabOk rfl rfl rfl (nb rfl) rfl rfl rfl rfl rfl rfl ?_ | refine aV tabOk rfl rfl rfl (nb rfl) rfl rfl rfl rfl ?_ | refine aN tabOk rfl rfl rfl rfl rfl rfl rfl rfl rfl rfl rfl ?_ | refine aR tabOk rfl rfl rfl (nb rfl) rfl rfl rfl rfl (by first | assumption | omega) ?_ | refine aJ tabOk rfl rfl rfl (nb rfl) rfl rfl rfl rfl (by first | rfl | omega) (by first | omega | simp) ?_ | refine aC tabOk rfl rfl rfl (nb rfl) rfl rfl rfl (by assumption) ?_ | refine aC tabOk rfl rfl rfl (nb rfl) rfl rfl rfl (bS _ _ (by first | assumption | omega)) ?_ | refine aE rfl rfl rfl (nb rfl) rfl rfl (by omega) ?_ | ((fail_if_success (refine aG (b := true) rfl rfl rfl ?_)); (fail_if_success (refine aG (b := false) rfl rfl rfl ?_)); refine aW rfl rfl rfl (fun hq => ?_) (fun hq => ?_) <;> first | subst hq | (first | (simp only [sD, sE, sB, sC, sN, sM, sT, sF] at hq; try (exfalso; omega)) | skip)) | fail) | (refine bW ?_; first | refine bN ?_ | refine bT ?_ | refine aQ ?_ | refine bD ?_ | refine bU ?_ | refine bL ?_ | refine bK ?_ | refine aA (b := true) rfl (fun _ => ?_) nTf | refine aA (b := false) rfl nFt (fun _ => ?_) | refine bE ?_ | refine bC ?_ | refine bA mixed (by kernel_rfl) ?_ | refine aD mixed (by kernel_rfl) ?_ | (refine aA rfl (fun hq => ?_) (fun hq => ?_) <;> first | subst hq | (first | (simp only [sD, sE, sB, sC, sN, sM, sT, sF] at hq; try (exfalso; omega)) | skip)) | fail) | (refine bQ ?_; first | refine bZ ?_ | refine aK ?_ | refine aT ?_ | fail) | (refine bG ?_; first | refine bV ?_ | refine aH ?_ | refine aI (by decide) ?_ | refine aM ?_ | fail) | refine bR (bB (by kernel_rfl)) ?_ | fail)
     all_goals first
       | exact absurd rfl (by assumption)
       | exact absurd (by assumption) hc
       | (exfalso; omega)
       | (refine cA (by first | exact .inl rfl | exact .inr rfl) (cC rfl (aY rfl) (aY rfl)) rfl ?_; rfl))
end Go.Proofs.Ytlbemgokilhdnaa.Ab
namespace Go.Proofs.Ytlbemgokilhdnaa.Ab
set_option linter.unusedVariables false
set_option linter.unusedSimpArgs false
attribute [local irreducible] AWP AOps AExit AThen ABlock ANoGoto FeetOk
set_option maxRecDepth 10000 in
theorem zJ (n : Nat) (cs : List IV) (h0 : 0 < n) (hn : n ≤ 1000000) (hl : cs.length = n) : ACalls Try.prog 114 [.imm (.sl false n cs)] [(500, .fut)] (.ref 500 n) [(500, .arr 25 1 n cs)] := by
  have key : ACalls Try.prog 114 [.imm (.sl false n cs)] [(500, .fut)] (.ref 500 (0 + n)) [(500, .arr 25 1 (0 + n) cs)] := by
    refine cJ [500] Try.func114 rfl rfl (nb rfl) rfl rfl ?_
    repeat' (first | refine bM ?_ | (refine bP ?_; first | refine aX tabOk rfl rfl rfl (nb rfl) rfl ?_ | refine bF rfl rfl (nb rfl) ?_ | (refine bO rfl rfl rfl (nb rfl) rfl rfl rfl (fun hq => ?_) (fun hq => ?_) <;> (first | (simp only [sD, sE, sB, sC, sN, sM, sT, sF] at hq; try (exfalso; omega)) | skip))| refine tK tabOk rfl rfl rfl (nb rfl) rfl rfl rfl h0 ?_ | refine vU 500 tabOk rfl rfl rfl (nb rfl) rfl rfl rfl rfl rfl rfl rfl h0 (by rw [hl]; exact (Nat.mul_one _).symm) (by omega) (by dsimp only; omega) rfl ?_ | refine aE rfl rfl rfl (nb rfl) rfl rfl (by omega) ?_ | refine bI rfl rfl rfl (nb rfl) rfl rfl rfl (by omega) (by omega) ?_ | refine bJ rfl rfl rfl (nb rfl) rfl rfl rfl (by omega) (by omega) ?_ | refine bH tabOk rfl rfl rfl (nb rfl) rfl rfl rfl rfl rfl rfl rfl rfl rfl ?_ | refine aZ tabOk rfl rfl (nb rfl) rfl ?_ | refine aU tabOk rfl rfl rfl (nb rfl) rfl rfl rfl rfl rfl rfl ?_ | refine aV tabOk rfl rfl rfl (nb rfl) rfl rfl rfl rfl ?_ | refine aN tabOk rfl rfl rfl rfl rfl rfl rfl rfl rfl rfl rfl ?_ | refine aR tabOk rfl rfl rfl (nb rfl) rfl rfl rfl rfl (by first | assumption | omega) ?_ | refine aJ tabOk rfl rfl rfl (nb rfl) rfl rfl rfl rfl (by first | rfl | omega) (by first | omega | simp) ?_ | refine aC tabOk rfl rfl rfl (nb rfl) rfl rfl rfl (by assumption) ?_ | refine aC tabOk rfl rfl rfl (nb rfl) rfl rfl rfl (bS _ _ (by first | assumption | omega)) ?_ | refine aE rfl rfl rfl (nb rfl) rfl rfl (by omega) ?_ | ((fail_if_success (refine aG (b := true) rfl rfl rfl ?_)); (fail_if_success (refine aG (b := false) rfl rfl rfl ?_)); refine aW rfl rfl rfl (fun hq => ?_) (fun hq => ?_) <;> first | subst hq | (first | (simp only [sD, sE, sB, sC, sN, sM, sT, sF] at hq; try (exfalso; omega)) | skip)) | fail) | (refine bW ?_; first | refine bN ?_ | refine bT ?_ | refine aQ ?_ | refine bD ?_ | refine bU ?_ | refine bL ?_ | refine bK ?_ | refine aA (b := true) rfl (fun _ => ?_) nTf | refine aA (b := false) rfl nFt (fun _ => ?_) | refine bE ?_ | refine bC ?_ | refine bA mixed (by kernel_rfl) ?_ | refine aD mixed (by kernel_rfl) ?_ | (refine aA rfl (fun hq => ?_) (fun hq => ?_) <;> first | subst hq | (first | (simp only [sD, sE, sB, sC, sN, sM, sT, sF] at hq; try (exfalso; omega)) | skip)) | fail) | (refine bQ ?_; first | refine bZ ?_ | refine aK ?_ | refine aT ?_ | fail) | (refine bG ?_; first | refine bV ?_ | refine aH ?_ | refine aI (by decide) ?_ | refine aM ?_ | fail) | refine bR (bB (by kernel_rfl)) ?_ | fail)
    all_goals (refine cO (tL (by first | exact .inl rfl | exact .inr rfl) (cB rfl (aY rfl)) rfl (by repeat' first | exact trivial | refine ⟨rfl, ?_⟩) rfl ?_); rfl)
  rw [Nat.zero_add] at key
  exact key
/-- A redex's body and argument. -/
def redexP : Tree → Option (Tree × Tree)
  | .node k _ _ _ [.node k' _ _ _ [_, b], y] => if k = 120 ∧ k' = 119 then some (b, y) else none
  | _ => none
mutual
/-- An application, a function have two kids. -/
def okStep : Tree → Bool
  | .nil => false
  | .node k _ _ _ kids => (if k = 120 ∨ k = 119 then kids.length == 2 else true) && okSteps kids
def okSteps : List Tree → Bool
  | [] => true
  | t :: ts => okStep t && okSteps ts
end
theorem fK : ∀ {l : List Tree}, okSteps l = true → ∀ t ∈ l, okStep t = true
  | x :: xs, h, t, ht => by
    simp only [okSteps, Bool.and_eq_true] at h
    rcases List.mem_cons.1 ht with rfl | ht
    · exact h.1
    · exact fK h.2 t ht
theorem dX : ∀ {l : List Tree}, (∀ t ∈ l, okStep t = true) → okSteps l = true
  | [], _ => by rw [okSteps]
  | x :: xs, h => by
    simp only [okSteps, Bool.and_eq_true]
    exact ⟨h x (by simp), dX fun t ht => h t (by simp [ht])⟩
theorem rE (t : Tree) : isKindP t = true → okStep t = true := by
  induction t using Tree.ind with
  | h1 => intro h; simp [isKindP] at h
  | h2 k n a b kids ih =>
    intro h
    rw [isKindP] at h
    split at h
    · rename_i e
      simp only [Bool.and_eq_true, beq_iff_eq] at h
      have e0 : kids = [] := List.eq_nil_of_length_eq_zero (by omega)
      subst e0
      rw [okStep, if_neg (by omega), okSteps]; rfl
    · split at h
      · rename_i e0 e
        simp only [Bool.and_eq_true] at h
        rw [okStep, if_neg (by omega), Bool.true_and]
        refine dX fun t ht => ih t ht ?_
        rw [eX, List.all_map] at h
        exact List.all_eq_true.1 h.2 t ht
      · cases h
theorem iA {kind : Int} (hk : ¬ (kind = 120 ∨ kind = 119)) {t : Tree} (ih : ∀ t' : Tree, t'.size < t.size → isConP t' = true → okStep t' = true) (h : okNamed kind t = true) : okStep t = true := by
  cases t with
  | nil => simp [okNamed] at h
  | node k n a b ks =>
    simp only [okNamed, Bool.and_eq_true, beq_iff_eq] at h
    obtain ⟨⟨⟨rfl, _⟩, _⟩, h⟩ := h
    by_cases h1 : ks.length = 1
    · obtain ⟨c, rfl⟩ := one_of h1
      rw [okStep, if_neg hk, Bool.true_and]
      refine dX fun t ht => ?_
      obtain rfl := List.mem_singleton.1 ht
      exact ih t (cG (by simp)) (by simpa [isCon1] using h)
    · rw [fA h1] at h; cases h
theorem mL (t : Tree) : isConP t = true → okStep t = true := by
  induction t using Tree.sind with
  | h t ih =>
    intro h
    cases t with
    | nil => simp [isConP] at h
    | node k n a b kids =>
      rw [isConP, Bool.and_eq_true] at h
      obtain ⟨hb, h⟩ := h
      have kid : ∀ t ∈ kids, isConP t = true → okStep t = true := fun t ht => ih t (cG ht)
      by_cases k0 : k = 110 ∨ k = 111 ∨ k = 112 ∨ k = 113
      · have e0 : kids = [] := by
          rcases k0 with k0 | k0
          · rw [if_pos k0] at h
            simp only [Bool.and_eq_true, beq_iff_eq] at h
            exact List.eq_nil_of_length_eq_zero (by omega)
          · rw [if_neg (by omega), if_pos k0] at h
            exact List.eq_nil_of_length_eq_zero (by simpa using h)
        rw [e0, okStep, if_neg (by omega), okSteps]; rfl
      · rw [if_neg (by omega), if_neg (by omega)] at h
        by_cases k2 : k = 114 ∨ k = 120
        · rw [if_pos k2, Bool.and_eq_true, jK] at h
          rw [okStep, Bool.and_eq_true]
          refine ⟨?_, dX fun t ht => kid t ht (List.all_eq_true.1 h.2 t ht)⟩
          split
          · have := h.1
            simp only [beq_iff_eq] at this ⊢
            omega
          · rfl
        · rw [if_neg k2] at h
          by_cases k3 : k = 115
          · rw [if_pos k3, Bool.and_eq_true, dC] at h
            rw [okStep, if_neg (by omega), Bool.true_and]
            refine dX fun t ht => ?_
            have hz := cG (k := k) (n := n) (a := a) (b := b) ht
            exact iA (by decide) (fun t' h1 h2 => ih t' (by omega) h2) (List.all_eq_true.1 h.1 t ht)
          · rw [if_neg k3] at h
            by_cases k4 : k = 117 ∨ k = 118 ∨ k = 119
            · rw [if_pos k4] at h
              by_cases h2 : kids.length = 2
              · obtain ⟨x, y, rfl⟩ := two h2
                simp only [isCon2, Bool.and_eq_true] at h
                rw [okStep, Bool.and_eq_true]
                refine ⟨by split <;> rfl, dX fun t ht => ?_⟩
                rcases List.mem_cons.1 ht with rfl | ht'
                · exact rE _ h.1
                · obtain rfl := List.mem_singleton.1 ht'
                  exact kid _ ht h.2
              · rw [eI h2] at h; cases h
            · rw [if_neg k4] at h
              by_cases k5 : k = 121
              · rw [if_pos k5, Bool.and_eq_true, Bool.and_eq_true, dC] at h
                rw [okStep, if_neg (by omega), Bool.true_and]
                refine dX fun t ht => ?_
                have hz := cG (k := k) (n := n) (a := a) (b := b) ht
                exact iA (by decide) (fun t' h1 h2 => ih t' (by omega) h2) (List.all_eq_true.1 h.1.2 t ht)
              · rw [if_neg k5] at h; cases h
mutual
/-- A step: what it makes, whether there is one, the error. -/
def stepP : Tree → Tree × Bool × Int
  | .nil => (.nil, false, 0)
  | .node k n a b kids => match redexP (.node k n a b kids) with
    | some (bd, y) => ((substP bd 0 y).1, decide ((substP bd 0 y).2 = 0), (substP bd 0 y).2)
    | none => if (stepPs kids).2.2.2 ≠ 0 then (.nil, false, (stepPs kids).2.2.2) else if (stepPs kids).2.2.1 = true then (.node k n a b (kids.set (stepPs kids).1 (stepPs kids).2.1), true, 0) else (.nil, false, 0)
/-- The first of them that makes a step: which, what it makes. -/
def stepPs : List Tree → Nat × Tree × Bool × Int
  | [] => (0, .nil, false, 0)
  | t :: ts => if (stepP t).2.2 ≠ 0 then (0, .nil, false, (stepP t).2.2) else if (stepP t).2.1 = true then (0, (stepP t).1, true, 0) else ((stepPs ts).1 + 1, (stepPs ts).2)
end
theorem fL {t bd y : Tree} (h : redexP t = some (bd, y)) : ∃ n a b n' a' b' u, t = .node 120 n a b [.node 119 n' a' b' [u, bd], y] := by
  unfold redexP at h
  split at h
  · split at h
    · rename_i hc
      cases h
      obtain ⟨rfl, rfl⟩ := hc
      exact ⟨_, _, _, _, _, _, _, rfl⟩
    · cases h
  · cases h
def Tree.kind : Tree → Int
  | .nil => 0
  | .node k _ _ _ _ => k
theorem kT {k n : Int} {a b : ByteArray} {kids : List Tree} (ho : okStep (.node k n a b kids) = true) (h : redexP (.node k n a b kids) = none) : k = 120 → ∃ x y, kids = [x, y] ∧ x.kind ≠ 119 := by
  intro hk
  rw [okStep, if_pos (.inl hk), Bool.and_eq_true] at ho
  obtain ⟨x, y, rfl⟩ := two (by simpa using ho.1)
  refine ⟨x, y, rfl, fun hx => ?_⟩
  have hox := fK ho.2 x (by simp)
  cases x with
  | nil => cases hx
  | node k' n' a' b' ks =>
    have hx : k' = 119 := hx
    rw [okStep, if_pos (.inr hx), Bool.and_eq_true] at hox
    obtain ⟨u, bd, rfl⟩ := two (by simpa using hox.1)
    rw [redexP, if_pos ⟨hk, hx⟩] at h
    cases h
set_option maxHeartbeats 4000000 in
set_option maxRecDepth 10000 in
theorem zK (t : Tree) (hw : t.whole = true) (ho : okStep t = true) : ACalls Try.prog 112 [.imm t.iv] [] (.imm (.lit (.bool (redexP t).isSome))) [] := by
  cases hr : redexP t with
  | some p =>
    obtain ⟨bd, y⟩ := p
    obtain ⟨n, a, b, n', a', b', u, rfl⟩ := fL hr
    refine bY Try.func112 rfl rfl (nb rfl) rfl ?_
    repeat' (first | refine bM ?_ | (refine bP ?_; first | refine aX tabOk rfl rfl rfl (nb rfl) rfl ?_ | refine bF rfl rfl (nb rfl) ?_ | (refine bO rfl rfl rfl (nb rfl) rfl rfl rfl (fun hq => ?_) (fun hq => ?_) <;> (first | (simp only [sD, sE, sB, sC, sN, sM, sT, sF] at hq; try (exfalso; omega)) | skip)) | refine aE rfl rfl rfl (nb rfl) rfl rfl (by omega) ?_ | refine bI rfl rfl rfl (nb rfl) rfl rfl rfl (by omega) (by omega) ?_ | refine bJ rfl rfl rfl (nb rfl) rfl rfl rfl (by omega) (by omega) ?_ | refine bH tabOk rfl rfl rfl (nb rfl) rfl rfl rfl rfl rfl rfl rfl rfl rfl ?_ | refine aZ tabOk rfl rfl (nb rfl) rfl ?_ | refine aU tabOk rfl rfl rfl (nb rfl) rfl rfl rfl rfl rfl rfl ?_ | refine aV tabOk rfl rfl rfl (nb rfl) rfl rfl rfl rfl ?_ | refine aN tabOk rfl rfl rfl rfl rfl rfl rfl rfl rfl rfl rfl ?_ | refine aR tabOk rfl rfl rfl (nb rfl) rfl rfl rfl rfl (by first | assumption | omega) ?_ | refine aJ tabOk rfl rfl rfl (nb rfl) rfl rfl rfl rfl (by first | rfl | omega) (by first | omega | simp) ?_ | refine aC tabOk rfl rfl rfl (nb rfl) rfl rfl rfl (by assumption) ?_ | refine aC tabOk rfl rfl rfl (nb rfl) rfl rfl rfl (bS _ _ (by first | assumption | omega)) ?_ | refine aE rfl rfl rfl (nb rfl) rfl rfl (by omega) ?_ | ((fail_if_success (refine aG (b := true) rfl rfl rfl ?_)); (fail_if_success (refine aG (b := false) rfl rfl rfl ?_)); refine aW rfl rfl rfl (fun hq => ?_) (fun hq => ?_) <;> first | subst hq | (first | (simp only [sD, sE, sB, sC, sN, sM, sT, sF] at hq; try (exfalso; omega)) | skip)) | fail) | (refine bW ?_; first | refine bN ?_ | refine bT ?_ | refine aQ ?_ | refine bD ?_ | refine bU ?_ | refine bL ?_ | refine bK ?_ | refine aA (b := true) rfl (fun _ => ?_) nTf | refine aA (b := false) rfl nFt (fun _ => ?_) | refine bE ?_ | refine bC ?_ | refine bA mixed (by kernel_rfl) ?_ | refine aD mixed (by kernel_rfl) ?_ | (refine aA rfl (fun hq => ?_) (fun hq => ?_) <;> first | subst hq | (first | (simp only [sD, sE, sB, sC, sN, sM, sT, sF] at hq; try (exfalso; omega)) | skip)) | fail) | (refine bQ ?_; first | refine bZ ?_ | refine aK ?_ | refine aT ?_ | fail) | (refine bG ?_; first | refine bV ?_ | refine aH ?_ | refine aI (by decide) ?_ | refine aM ?_ | fail) | refine bR (bB (by kernel_rfl)) ?_ | fail)
    all_goals first
      | exact absurd rfl (by assumption)
      | (refine cA (by first | exact .inl rfl | exact .inr rfl) (cB rfl (aY rfl)) rfl ?_; rfl)
  | none =>
    cases t with
    | nil => simp [Tree.whole] at hw
    | node k n a b kids =>
      have h2 := kT ho hr
      by_cases hk : k = 120
      · obtain ⟨x, y, rfl, hx⟩ := h2 hk
        subst hk
        have hwx := cD hw (List.mem_cons_self (a := x))
        cases x with
        | nil => simp [Tree.whole] at hwx
        | node k' n' a' b' ks =>
          have hx : k' ≠ 119 := hx
          refine bY Try.func112 rfl rfl (nb rfl) rfl ?_
          repeat' (first | refine bM ?_ | (refine bP ?_; first | refine aX tabOk rfl rfl rfl (nb rfl) rfl ?_ | refine bF rfl rfl (nb rfl) ?_ | (refine bO rfl rfl rfl (nb rfl) rfl rfl rfl (fun hq => ?_) (fun hq => ?_) <;> (first | (simp only [sD, sE, sB, sC, sN, sM, sT, sF] at hq; try (exfalso; omega)) | skip)) | refine aE rfl rfl rfl (nb rfl) rfl rfl (by omega) ?_ | refine bI rfl rfl rfl (nb rfl) rfl rfl rfl (by omega) (by omega) ?_ | refine bJ rfl rfl rfl (nb rfl) rfl rfl rfl (by omega) (by omega) ?_ | refine bH tabOk rfl rfl rfl (nb rfl) rfl rfl rfl rfl rfl rfl rfl rfl rfl ?_ | refine aZ tabOk rfl rfl (nb rfl) rfl ?_ | refine aU tabOk rfl rfl rfl (nb rfl) rfl rfl rfl rfl rfl rfl ?_ | refine aV tabOk rfl rfl rfl (nb rfl) rfl rfl rfl rfl ?_ | refine aN tabOk rfl rfl rfl rfl rfl rfl rfl rfl rfl rfl rfl ?_ | refine aR tabOk rfl rfl rfl (nb rfl) rfl rfl rfl rfl (by first | assumption | omega) ?_ | refine aJ tabOk rfl rfl rfl (nb rfl) rfl rfl rfl rfl (by first | rfl | omega) (by first | omega | simp) ?_ | refine aC tabOk rfl rfl rfl (nb rfl) rfl rfl rfl (by assumption) ?_ | refine aC tabOk rfl rfl rfl (nb rfl) rfl rfl rfl (bS _ _ (by first | assumption | omega)) ?_ | refine aE rfl rfl rfl (nb rfl) rfl rfl (by omega) ?_ | ((fail_if_success (refine aG (b := true) rfl rfl rfl ?_)); (fail_if_success (refine aG (b := false) rfl rfl rfl ?_)); refine aW rfl rfl rfl (fun hq => ?_) (fun hq => ?_) <;> first | subst hq | (first | (simp only [sD, sE, sB, sC, sN, sM, sT, sF] at hq; try (exfalso; omega)) | skip)) | fail) | (refine bW ?_; first | refine bN ?_ | refine bT ?_ | refine aQ ?_ | refine bD ?_ | refine bU ?_ | refine bL ?_ | refine bK ?_ | refine aA (b := true) rfl (fun _ => ?_) nTf | refine aA (b := false) rfl nFt (fun _ => ?_) | refine bE ?_ | refine bC ?_ | refine bA mixed (by kernel_rfl) ?_ | refine aD mixed (by kernel_rfl) ?_ | (refine aA rfl (fun hq => ?_) (fun hq => ?_) <;> first | subst hq | (first | (simp only [sD, sE, sB, sC, sN, sM, sT, sF] at hq; try (exfalso; omega)) | skip)) | fail) | (refine bQ ?_; first | refine bZ ?_ | refine aK ?_ | refine aT ?_ | fail) | (refine bG ?_; first | refine bV ?_ | refine aH ?_ | refine aI (by decide) ?_ | refine aM ?_ | fail) | refine bR (bB (by kernel_rfl)) ?_ | fail)
          all_goals first
            | exact absurd rfl (by assumption)
            | exact absurd (by assumption) hx
            | (refine cA (by first | exact .inl rfl | exact .inr rfl) (cB rfl (aY rfl)) rfl ?_; rfl)
      · refine bY Try.func112 rfl rfl (nb rfl) rfl ?_
        repeat' (first | refine bM ?_ | (refine bP ?_; first | refine aX tabOk rfl rfl rfl (nb rfl) rfl ?_ | refine bF rfl rfl (nb rfl) ?_ | (refine bO rfl rfl rfl (nb rfl) rfl rfl rfl (fun hq => ?_) (fun hq => ?_) <;> (first | (simp only [sD, sE, sB, sC, sN, sM, sT, sF] at hq; try (exfalso; omega)) | skip)) | refine aE rfl rfl rfl (nb rfl) rfl rfl (by omega) ?_ | refine bI rfl rfl rfl (nb rfl) rfl rfl rfl (by omega) (by omega) ?_ | refine bJ rfl rfl rfl (nb rfl) rfl rfl rfl (by omega) (by omega) ?_ | refine bH tabOk rfl rfl rfl (nb rfl) rfl rfl rfl rfl rfl rfl rfl rfl rfl ?_ | refine aZ tabOk rfl rfl (nb rfl) rfl ?_ | refine aU tabOk rfl rfl rfl (nb rfl) rfl rfl rfl rfl rfl rfl ?_ | refine aV tabOk rfl rfl rfl (nb rfl) rfl rfl rfl rfl ?_ | refine aN tabOk rfl rfl rfl rfl rfl rfl rfl rfl rfl rfl rfl ?_ | refine aR tabOk rfl rfl rfl (nb rfl) rfl rfl rfl rfl (by first | assumption | omega) ?_ | refine aJ tabOk rfl rfl rfl (nb rfl) rfl rfl rfl rfl (by first | rfl | omega) (by first | omega | simp) ?_ | refine aC tabOk rfl rfl rfl (nb rfl) rfl rfl rfl (by assumption) ?_ | refine aC tabOk rfl rfl rfl (nb rfl) rfl rfl rfl (bS _ _ (by first | assumption | omega)) ?_ | refine aE rfl rfl rfl (nb rfl) rfl rfl (by omega) ?_ | ((fail_if_success (refine aG (b := true) rfl rfl rfl ?_)); (fail_if_success (refine aG (b := false) rfl rfl rfl ?_)); refine aW rfl rfl rfl (fun hq => ?_) (fun hq => ?_) <;> first | subst hq | (first | (simp only [sD, sE, sB, sC, sN, sM, sT, sF] at hq; try (exfalso; omega)) | skip)) | fail) | (refine bW ?_; first | refine bN ?_ | refine bT ?_ | refine aQ ?_ | refine bD ?_ | refine bU ?_ | refine bL ?_ | refine bK ?_ | refine aA (b := true) rfl (fun _ => ?_) nTf | refine aA (b := false) rfl nFt (fun _ => ?_) | refine bE ?_ | refine bC ?_ | refine bA mixed (by kernel_rfl) ?_ | refine aD mixed (by kernel_rfl) ?_ | (refine aA rfl (fun hq => ?_) (fun hq => ?_) <;> first | subst hq | (first | (simp only [sD, sE, sB, sC, sN, sM, sT, sF] at hq; try (exfalso; omega)) | skip)) | fail) | (refine bQ ?_; first | refine bZ ?_ | refine aK ?_ | refine aT ?_ | fail) | (refine bG ?_; first | refine bV ?_ | refine aH ?_ | refine aI (by decide) ?_ | refine aM ?_ | fail) | refine bR (bB (by kernel_rfl)) ?_ | fail)
        all_goals first
          | exact absurd (by assumption) hk
          | exact absurd rfl (by assumption)
          | (refine cA (by first | exact .inl rfl | exact .inr rfl) (cB rfl (aY rfl)) rfl ?_; rfl)
end Go.Proofs.Ytlbemgokilhdnaa.Ab
namespace Go.Proofs.Ytlbemgokilhdnaa.Ab
set_option linter.unusedVariables false
set_option linter.unusedSimpArgs false
attribute [local irreducible] AWP AOps AExit AThen ABlock ANoGoto FeetOk
theorem kU : ∀ (l : List Tree), (stepPs l).2.2.2 = 0 → (stepPs l).2.2.1 = true → ∃ h : (stepPs l).1 < l.length, (stepPs l).2.1 = (stepP (l[(stepPs l).1]'h)).1 ∧ (stepP (l[(stepPs l).1]'h)).2.1 = true ∧ (stepP (l[(stepPs l).1]'h)).2.2 = 0
  | [], _, h => by simp [stepPs] at h
  | t :: ts, h1, h2 => by
    by_cases c1 : (stepP t).2.2 ≠ 0
    · rw [stepPs, if_pos c1] at h2; cases h2
    · by_cases c2 : (stepP t).2.1 = true
      · have e : stepPs (t :: ts) = (0, (stepP t).1, true, 0) := by rw [stepPs, if_neg c1, if_pos c2]
        have c3 : (stepP t).2.2 = 0 := by omega
        simp only [e]
        exact ⟨by simp, rfl, c2, c3⟩
      · have e : stepPs (t :: ts) = ((stepPs ts).1 + 1, (stepPs ts).2) := by rw [stepPs, if_neg c1, if_neg c2]
        rw [e] at h1 h2
        obtain ⟨h, g1, g2, g3⟩ := kU ts h1 h2
        simp only [e]
        refine ⟨by simpa using h, ?_, ?_, ?_⟩
        · rw [List.getElem_cons_succ]; exact g1
        · rw [List.getElem_cons_succ]; exact g2
        · rw [List.getElem_cons_succ]; exact g3
theorem kG (r : Tree) : ∀ (l : List Tree) (j : Nat) (h : j < l.length), Tree.sizes (l.set j r) + l[j].size = Tree.sizes l + r.size
  | [], _, h => by simp at h
  | x :: l, 0, h => by simp only [List.set_cons_zero, Tree.sizes, List.getElem_cons_zero]; omega
  | x :: l, j + 1, h => by have := kG r l j (by simpa using h); simp only [List.set_cons_succ, Tree.sizes, List.getElem_cons_succ]; omega
theorem jN {r : Tree} (hr : r.whole = true) : ∀ (l : List Tree) (j : Nat), Tree.wholes l = true → Tree.wholes (l.set j r) = true
  | [], _, _ => by simp [Tree.wholes]
  | x :: l, 0, h => by
    simp only [List.set_cons_zero, Tree.wholes, Bool.and_eq_true] at h ⊢
    exact ⟨hr, h.2⟩
  | x :: l, j + 1, h => by
    simp only [List.set_cons_succ, Tree.wholes, Bool.and_eq_true] at h ⊢
    exact ⟨h.1, jN hr l j h.2⟩
theorem mM (t : Tree) : t.whole = true → (stepP t).2.1 = true → (stepP t).2.2 = 0 → (stepP t).1.whole = true ∧ (stepP t).1.size ≤ t.size + 65536 := by
  induction t using Tree.ind with
  | h1 => intro h; simp [Tree.whole] at h
  | h2 k n a b kids ih =>
    intro hw h1 h2
    rw [stepP] at h1 h2 ⊢
    cases hr : redexP (.node k n a b kids) with
    | some p =>
      obtain ⟨bd, y⟩ := p
      rw [hr] at h1 h2
      have := kS bd 0 y h2
      exact ⟨this.1, by dsimp only; omega⟩
    | none =>
      rw [hr] at h1 h2
      dsimp only at h1 h2 ⊢
      by_cases c1 : (stepPs kids).2.2.2 ≠ 0
      · rw [if_pos c1] at h1; cases h1
      · rw [if_neg c1] at h1 h2 ⊢
        by_cases c2 : (stepPs kids).2.2.1 = true
        · rw [if_pos c2]
          obtain ⟨h, g1, g2, g3⟩ := kU kids (by omega) c2
          have hm := List.getElem_mem h
          have := ih _ hm (cD hw hm) g2 g3
          rw [← g1] at this
          have hz := cT hm
          refine ⟨jN this.1 kids _ hw, ?_⟩
          have hss := kG (stepPs kids).2.1 kids _ h
          simp only [Tree.size]
          omega
        · rw [if_neg c2] at h1; cases h1
set_option maxHeartbeats 16000000 in
set_option maxRecDepth 10000 in
theorem aAh (t : Tree) : t.whole = true → okStep t = true → t.size ≤ 400000 → ACalls Try.prog 75 [.imm t.iv] [] (.imm (.tup [(stepP t).1.iv, .lit (.bool (stepP t).2.1), .lit (.int .i64 (stepP t).2.2)])) [] := by
  induction t using Tree.ind with
  | h1 => intro h; simp [Tree.whole] at h
  | h2 k n a b kids ih =>
    intro hw ho hs
    have hl := cI kids hw
    have hsz : (Tree.node k n a b kids).size = 1 + Tree.sizes kids := by rw [Tree.size]
    rw [hsz] at hs
    have c1 := zK (.node k n a b kids) hw ho
    generalize hR : stepP (.node k n a b kids) = R
    rw [stepP] at hR
    cases hr : redexP (.node k n a b kids) with
    | some p =>
      obtain ⟨bd, y⟩ := p
      rw [hr] at hR c1
      dsimp only at hR
      obtain ⟨n1, a1, b1, n', a', b', u, e⟩ := fL hr
      cases e
      have hbs : bd.size ≤ 400000 := by
        have h1 := cG (k := 119) (n := n') (a := a') (b := b') (kids := [u, bd]) (t := bd) (by simp)
        have h2 := cT (l := [.node 119 n' a' b' [u, bd], y]) (t := .node 119 n' a' b' [u, bd]) (by simp)
        omega
      have hys : y.size ≤ 400000 := by
        have h2 := cT (l := [.node 119 n' a' b' [u, bd], y]) (t := y) (by simp)
        omega
      have c2 := zI bd 0 y (by omega) (by omega)
      clear ih hr hw ho
      generalize substP bd 0 y = S at *
      obtain ⟨S1, S2⟩ := S
      dsimp only at hR c2
      subst hR
      dsimp only
      by_cases h0 : S2 = 0
      · rw [decide_eq_true h0]
        refine cS Try.func75 rfl rfl (nb rfl) rfl ?_
        repeat' (first | refine bM ?_ | (refine bP ?_; first | refine aX tabOk rfl rfl rfl (nb rfl) rfl ?_ | refine bF rfl rfl (nb rfl) ?_ | (refine bO rfl rfl rfl (nb rfl) rfl rfl rfl (fun hq => ?_) (fun hq => ?_) <;> (first | (simp only [sD, sE, sB, sC, sN, sM, sT, sF] at hq; try (exfalso; omega)) | skip))| refine bX rfl rfl (nb rfl) rfl rfl rfl rfl (c1) ?_ | refine bX rfl rfl (nb rfl) rfl rfl rfl rfl (c2) ?_ | refine aE rfl rfl rfl (nb rfl) rfl rfl (by omega) ?_ | refine bI rfl rfl rfl (nb rfl) rfl rfl rfl (by omega) (by omega) ?_ | refine bJ rfl rfl rfl (nb rfl) rfl rfl rfl (by omega) (by omega) ?_ | refine bH tabOk rfl rfl rfl (nb rfl) rfl rfl rfl rfl rfl rfl rfl rfl rfl ?_ | refine aZ tabOk rfl rfl (nb rfl) rfl ?_ | refine aU tabOk rfl rfl rfl (nb rfl) rfl rfl rfl rfl rfl rfl ?_ | refine aV tabOk rfl rfl rfl (nb rfl) rfl rfl rfl rfl ?_ | refine aN tabOk rfl rfl rfl rfl rfl rfl rfl rfl rfl rfl rfl ?_ | refine aR tabOk rfl rfl rfl (nb rfl) rfl rfl rfl rfl (by first | assumption | omega) ?_ | refine aJ tabOk rfl rfl rfl (nb rfl) rfl rfl rfl rfl (by first | rfl | omega) (by first | omega | simp) ?_ | refine aC tabOk rfl rfl rfl (nb rfl) rfl rfl rfl (by assumption) ?_ | refine aC tabOk rfl rfl rfl (nb rfl) rfl rfl rfl (bS _ _ (by first | assumption | omega)) ?_ | refine aE rfl rfl rfl (nb rfl) rfl rfl (by omega) ?_ | ((fail_if_success (refine aG (b := true) rfl rfl rfl ?_)); (fail_if_success (refine aG (b := false) rfl rfl rfl ?_)); refine aW rfl rfl rfl (fun hq => ?_) (fun hq => ?_) <;> first | subst hq | (first | (simp only [sD, sE, sB, sC, sN, sM, sT, sF] at hq; try (exfalso; omega)) | skip)) | fail) | (refine bW ?_; first | refine bN ?_ | refine bT ?_ | refine aQ ?_ | refine bD ?_ | refine bU ?_ | refine bL ?_ | refine bK ?_ | refine aA (b := true) rfl (fun _ => ?_) nTf | refine aA (b := false) rfl nFt (fun _ => ?_) | refine bE ?_ | refine bC ?_ | refine bA mixed (by kernel_rfl) ?_ | refine aD mixed (by kernel_rfl) ?_ | (refine aA rfl (fun hq => ?_) (fun hq => ?_) <;> first | subst hq | (first | (simp only [sD, sE, sB, sC, sN, sM, sT, sF] at hq; try (exfalso; omega)) | skip)) | fail) | (refine bQ ?_; first | refine bZ ?_ | refine aK ?_ | refine aT ?_ | fail) | (refine bG ?_; first | refine bV ?_ | refine aH ?_ | refine aI (by decide) ?_ | refine aM ?_ | fail) | refine bR (bB (by kernel_rfl)) ?_ | fail)
        all_goals first
          | exact absurd h0 (by assumption)
          | exact absurd rfl (by assumption)
          | (refine dI ?_; refine cA (by first | exact .inl rfl | exact .inr rfl) (dM rfl (aY rfl) (aY rfl) (aY rfl)) rfl ?_; rfl)
      · rw [decide_eq_false h0]
        refine cS Try.func75 rfl rfl (nb rfl) rfl ?_
        repeat' (first | refine bM ?_ | (refine bP ?_; first | refine aX tabOk rfl rfl rfl (nb rfl) rfl ?_ | refine bF rfl rfl (nb rfl) ?_ | (refine bO rfl rfl rfl (nb rfl) rfl rfl rfl (fun hq => ?_) (fun hq => ?_) <;> (first | (simp only [sD, sE, sB, sC, sN, sM, sT, sF] at hq; try (exfalso; omega)) | skip))| refine bX rfl rfl (nb rfl) rfl rfl rfl rfl (c1) ?_ | refine bX rfl rfl (nb rfl) rfl rfl rfl rfl (c2) ?_ | refine aE rfl rfl rfl (nb rfl) rfl rfl (by omega) ?_ | refine bI rfl rfl rfl (nb rfl) rfl rfl rfl (by omega) (by omega) ?_ | refine bJ rfl rfl rfl (nb rfl) rfl rfl rfl (by omega) (by omega) ?_ | refine bH tabOk rfl rfl rfl (nb rfl) rfl rfl rfl rfl rfl rfl rfl rfl rfl ?_ | refine aZ tabOk rfl rfl (nb rfl) rfl ?_ | refine aU tabOk rfl rfl rfl (nb rfl) rfl rfl rfl rfl rfl rfl ?_ | refine aV tabOk rfl rfl rfl (nb rfl) rfl rfl rfl rfl ?_ | refine aN tabOk rfl rfl rfl rfl rfl rfl rfl rfl rfl rfl rfl ?_ | refine aR tabOk rfl rfl rfl (nb rfl) rfl rfl rfl rfl (by first | assumption | omega) ?_ | refine aJ tabOk rfl rfl rfl (nb rfl) rfl rfl rfl rfl (by first | rfl | omega) (by first | omega | simp) ?_ | refine aC tabOk rfl rfl rfl (nb rfl) rfl rfl rfl (by assumption) ?_ | refine aC tabOk rfl rfl rfl (nb rfl) rfl rfl rfl (bS _ _ (by first | assumption | omega)) ?_ | refine aE rfl rfl rfl (nb rfl) rfl rfl (by omega) ?_ | ((fail_if_success (refine aG (b := true) rfl rfl rfl ?_)); (fail_if_success (refine aG (b := false) rfl rfl rfl ?_)); refine aW rfl rfl rfl (fun hq => ?_) (fun hq => ?_) <;> first | subst hq | (first | (simp only [sD, sE, sB, sC, sN, sM, sT, sF] at hq; try (exfalso; omega)) | skip)) | fail) | (refine bW ?_; first | refine bN ?_ | refine bT ?_ | refine aQ ?_ | refine bD ?_ | refine bU ?_ | refine bL ?_ | refine bK ?_ | refine aA (b := true) rfl (fun _ => ?_) nTf | refine aA (b := false) rfl nFt (fun _ => ?_) | refine bE ?_ | refine bC ?_ | refine bA mixed (by kernel_rfl) ?_ | refine aD mixed (by kernel_rfl) ?_ | (refine aA rfl (fun hq => ?_) (fun hq => ?_) <;> first | subst hq | (first | (simp only [sD, sE, sB, sC, sN, sM, sT, sF] at hq; try (exfalso; omega)) | skip)) | fail) | (refine bQ ?_; first | refine bZ ?_ | refine aK ?_ | refine aT ?_ | fail) | (refine bG ?_; first | refine bV ?_ | refine aH ?_ | refine aI (by decide) ?_ | refine aM ?_ | fail) | refine bR (bB (by kernel_rfl)) ?_ | fail)
        all_goals first
          | exact absurd (by assumption) h0
          | exact absurd rfl (by assumption)
          | (refine dI ?_; refine cA (by first | exact .inl rfl | exact .inr rfl) (dM rfl (aY rfl) (aY rfl) (aY rfl)) rfl ?_; rfl)
    | none =>
      rw [hr] at hR c1
      dsimp only at hR
      have hind : ∀ j (h : j < kids.length), ACalls Try.prog 75 [.imm kids[j].iv] [] (.imm (.tup [(stepP kids[j]).1.iv, .lit (.bool (stepP kids[j]).2.1), .lit (.int .i64 (stepP kids[j]).2.2)])) [] := fun j h => by
        have hm := List.getElem_mem h
        have hz := cT hm
        rw [okStep, Bool.and_eq_true] at ho
        exact ih _ hm (cD hw hm) (fK ho.2 _ hm) (by omega)
      clear ih hr ho hsz
      refine cS Try.func75 rfl rfl (nb rfl) rfl ?_
      repeat' (first | refine bM ?_ | (refine bP ?_; first | refine aX tabOk rfl rfl rfl (nb rfl) rfl ?_ | refine bF rfl rfl (nb rfl) ?_ | (refine bO rfl rfl rfl (nb rfl) rfl rfl rfl (fun hq => ?_) (fun hq => ?_) <;> (first | (simp only [sD, sE, sB, sC, sN, sM, sT, sF] at hq; try (exfalso; omega)) | skip))| refine bX rfl rfl (nb rfl) rfl rfl rfl rfl (c1) ?_ | refine aE rfl rfl rfl (nb rfl) rfl rfl (by omega) ?_ | refine bI rfl rfl rfl (nb rfl) rfl rfl rfl (by omega) (by omega) ?_ | refine bJ rfl rfl rfl (nb rfl) rfl rfl rfl (by omega) (by omega) ?_ | refine bH tabOk rfl rfl rfl (nb rfl) rfl rfl rfl rfl rfl rfl rfl rfl rfl ?_ | refine aZ tabOk rfl rfl (nb rfl) rfl ?_ | refine aU tabOk rfl rfl rfl (nb rfl) rfl rfl rfl rfl rfl rfl ?_ | refine aV tabOk rfl rfl rfl (nb rfl) rfl rfl rfl rfl ?_ | refine aN tabOk rfl rfl rfl rfl rfl rfl rfl rfl rfl rfl rfl ?_ | refine aR tabOk rfl rfl rfl (nb rfl) rfl rfl rfl rfl (by first | assumption | omega) ?_ | refine aJ tabOk rfl rfl rfl (nb rfl) rfl rfl rfl rfl (by first | rfl | omega) (by first | omega | simp) ?_ | refine aC tabOk rfl rfl rfl (nb rfl) rfl rfl rfl (by assumption) ?_ | refine aC tabOk rfl rfl rfl (nb rfl) rfl rfl rfl (bS _ _ (by first | assumption | omega)) ?_ | refine aE rfl rfl rfl (nb rfl) rfl rfl (by omega) ?_ | ((fail_if_success (refine aG (b := true) rfl rfl rfl ?_)); (fail_if_success (refine aG (b := false) rfl rfl rfl ?_)); refine aW rfl rfl rfl (fun hq => ?_) (fun hq => ?_) <;> first | subst hq | (first | (simp only [sD, sE, sB, sC, sN, sM, sT, sF] at hq; try (exfalso; omega)) | skip)) | fail) | (refine bW ?_; first | refine bN ?_ | refine bT ?_ | refine aQ ?_ | refine bD ?_ | refine bU ?_ | refine bL ?_ | refine bK ?_ | refine aA (b := true) rfl (fun _ => ?_) nTf | refine aA (b := false) rfl nFt (fun _ => ?_) | refine bE ?_ | refine bC ?_ | refine bA mixed (by kernel_rfl) ?_ | refine aD mixed (by kernel_rfl) ?_ | (refine aA rfl (fun hq => ?_) (fun hq => ?_) <;> first | subst hq | (first | (simp only [sD, sE, sB, sC, sN, sM, sT, sF] at hq; try (exfalso; omega)) | skip)) | fail) | (refine bQ ?_; first | refine bZ ?_ | refine aK ?_ | refine aT ?_ | fail) | (refine bG ?_; first | refine bV ?_ | refine aH ?_ | refine aI (by decide) ?_ | refine aM ?_ | fail) | refine bR (bB (by kernel_rfl)) ?_ | fail)
      all_goals first
        | exact absurd rfl (by assumption)
        | (exfalso; omega)
        | skip
      refine cY (eW 500 (by simp) rfl rfl) ?_
      refine cH (ι := {j : Nat // j ≤ kids.length ∧ stepPs kids = ((stepPs (kids.drop j)).1 + j, (stepPs (kids.drop j)).2)}) (fun j => S.f ⟨[(44, .imm (.lit (.int .i64 (j.1 : Int)))), (43, .imm (.lit (.int .i64 (kids.length : Int)))), (0, .imm (Tree.iv (.node k n a b kids)))], [(500, .fut)]⟩) (fun j => kids.length - j.1) ⟨0, Nat.zero_le _, rfl⟩ (cF (by repeat' first | exact trivial | refine ⟨rfl, ?_⟩) (by repeat' first | exact trivial | refine ⟨rfl, ?_⟩)) ?_
      clear c1
      rintro ⟨j, hj, hst⟩
      dsimp only
      by_cases hlt : j < kids.length
      · have hget := bS kids j hlt
        have hc := hind j hlt
        have hwk := cD hw (List.getElem_mem hlt)
        have hfn := mM kids[j] hwk
        rw [List.drop_eq_getElem_cons hlt, stepPs] at hst
        have hset := fun r : Tree => (show (Tree.ivs kids).set j r.iv = Tree.ivs (kids.set j r) by rw [dK, dK, List.map_set])
        have hstn := fun r : Tree => (show (Tree.node k n a b (kids.set j r)).iv = .ptr [.lit (.int .i64 k), .lit (.int .i64 n), .lit (.string a), .lit (.string b), .sl false kids.length (Tree.ivs (kids.set j r))] 0 by rw [Tree.iv, List.length_set])
        have hcl := zJ kids.length (Tree.ivs kids) (by omega) (by omega) (eH kids)
        clear hind
        generalize stepP kids[j] = Q at *
        obtain ⟨Q1, Q2, Q3⟩ := Q
        dsimp only at *
        by_cases h0 : Q3 = 0
        · subst h0
          cases Q2 with
          | true =>
            rw [if_neg (by simp), if_pos rfl] at hst
            have hs1 : stepPs kids = (0 + j, Q1, true, 0) := hst
            rw [hs1] at hR
            have hR : (Tree.node k n a b (kids.set (0 + j) Q1), true, (0 : Int)) = R := by simpa using hR
            subst hR
            rw [Nat.zero_add]
            dsimp only
            rw [hstn Q1, ← hset Q1]
            obtain ⟨pc, hpc⟩ := fR (fF (hfn rfl rfl).1)
            rw [hpc] at hc ⊢
            clear hset hstn hfn hst hs1
            repeat' (first | refine bM ?_ | (refine bP ?_; first | refine aX tabOk rfl rfl rfl (nb rfl) rfl ?_ | refine bF rfl rfl (nb rfl) ?_ | (refine bO rfl rfl rfl (nb rfl) rfl rfl rfl (fun hq => ?_) (fun hq => ?_) <;> (first | (simp only [sD, sE, sB, sC, sN, sM, sT, sF] at hq; try (exfalso; omega)) | skip))| refine bX rfl rfl (nb rfl) rfl rfl rfl rfl (hc) ?_ | refine cL rfl rfl (nb rfl) rfl rfl rfl rfl hcl (by repeat' first | exact trivial | refine ⟨rfl, ?_⟩) rfl (by show ([500] : List Nat).Nodup; decide) ?_ | refine eM tabOk rfl rfl rfl (nb rfl) rfl rfl rfl rfl rfl rfl rfl hlt ?_ | refine kA tabOk rfl rfl rfl rfl rfl rfl rfl rfl rfl rfl (by omega) (by show j * 1 < kids.length * 1; omega) ?_ | refine aE rfl rfl rfl (nb rfl) rfl rfl (by omega) ?_ | refine bI rfl rfl rfl (nb rfl) rfl rfl rfl (by omega) (by omega) ?_ | refine bJ rfl rfl rfl (nb rfl) rfl rfl rfl (by omega) (by omega) ?_ | refine bH tabOk rfl rfl rfl (nb rfl) rfl rfl rfl rfl rfl rfl rfl rfl rfl ?_ | refine aZ tabOk rfl rfl (nb rfl) rfl ?_ | refine aU tabOk rfl rfl rfl (nb rfl) rfl rfl rfl rfl rfl rfl ?_ | refine aV tabOk rfl rfl rfl (nb rfl) rfl rfl rfl rfl ?_ | refine aN tabOk rfl rfl rfl rfl rfl rfl rfl rfl rfl rfl rfl ?_ | refine aR tabOk rfl rfl rfl (nb rfl) rfl rfl rfl rfl (by first | assumption | omega) ?_ | refine aJ tabOk rfl rfl rfl (nb rfl) rfl rfl rfl rfl (by first | rfl | omega) (by first | omega | simp) ?_ | refine aC tabOk rfl rfl rfl (nb rfl) rfl rfl rfl (by assumption) ?_ | refine aC tabOk rfl rfl rfl (nb rfl) rfl rfl rfl (bS _ _ (by first | assumption | omega)) ?_ | refine aE rfl rfl rfl (nb rfl) rfl rfl (by omega) ?_ | ((fail_if_success (refine aG (b := true) rfl rfl rfl ?_)); (fail_if_success (refine aG (b := false) rfl rfl rfl ?_)); refine aW rfl rfl rfl (fun hq => ?_) (fun hq => ?_) <;> first | subst hq | (first | (simp only [sD, sE, sB, sC, sN, sM, sT, sF] at hq; try (exfalso; omega)) | skip)) | fail) | (refine bW ?_; first | refine bN ?_ | refine bT ?_ | refine aQ ?_ | refine bD ?_ | refine bU ?_ | refine bL ?_ | refine bK ?_ | refine aA (b := true) rfl (fun _ => ?_) nTf | refine aA (b := false) rfl nFt (fun _ => ?_) | refine bE ?_ | refine bC ?_ | refine bA mixed (by kernel_rfl) ?_ | refine aD mixed (by kernel_rfl) ?_ | (refine aA rfl (fun hq => ?_) (fun hq => ?_) <;> first | subst hq | (first | (simp only [sD, sE, sB, sC, sN, sM, sT, sF] at hq; try (exfalso; omega)) | skip)) | fail) | (refine bQ ?_; first | refine bZ ?_ | refine aK ?_ | refine aT ?_ | fail) | (refine bG ?_; first | refine bV ?_ | refine aH ?_ | refine aI (by decide) ?_ | refine aM ?_ | fail) | refine bR (bB (by kernel_rfl)) ?_ | fail)
            all_goals first
              | exact absurd rfl (by assumption)
              | (exfalso; omega)
              | (refine dR ((Imp.of_le (σ' := S.f ⟨[(2, .obj 11 0), (3, .imm (.lit (.bool true))), (4, .imm (.lit (.int .i64 0)))], [(500, .arr 25 1 kids.length ((Tree.ivs kids).set (j * 1) (.ptr pc 0))), (11, .cells [.imm (.lit (.int .i64 k)), .imm (.lit (.int .i64 n)), .imm (.lit (.string a)), .imm (.lit (.string b)), .ref 500 kids.length])]⟩) (cF (by repeat' first | exact trivial | refine ⟨rfl, ?_⟩) (by repeat' first | exact trivial | refine ⟨rfl, ?_⟩))).trans ((cW (g := 500) rfl (by repeat' first | exact trivial | exact fun _ => rfl | refine ⟨?_, ?_⟩) (by repeat' first | exact trivial | exact fun _ => rfl | refine ⟨?_, ?_⟩)).trans (dE (g := 11) rfl rfl))) ?_
                 refine cA (by first | exact .inl rfl | exact .inr rfl) (dM rfl (aY rfl) (aY rfl) (aY rfl)) rfl ?_; rw [Nat.mul_one]; rfl)
          | false =>
            rw [if_neg (by simp), if_neg (by simp)] at hst
            have hs1 : stepPs kids = ((stepPs (kids.drop (j + 1))).1 + (j + 1), (stepPs (kids.drop (j + 1))).2) := by rw [hst]; simp only [Nat.add_assoc, Nat.add_comm 1 j]
            clear hset hstn hfn hst hcl
            repeat' (first | refine bM ?_ | (refine bP ?_; first | refine aX tabOk rfl rfl rfl (nb rfl) rfl ?_ | refine bF rfl rfl (nb rfl) ?_ | (refine bO rfl rfl rfl (nb rfl) rfl rfl rfl (fun hq => ?_) (fun hq => ?_) <;> (first | (simp only [sD, sE, sB, sC, sN, sM, sT, sF] at hq; try (exfalso; omega)) | skip))| refine bX rfl rfl (nb rfl) rfl rfl rfl rfl (hc) ?_ | refine aE rfl rfl rfl (nb rfl) rfl rfl (by omega) ?_ | refine bI rfl rfl rfl (nb rfl) rfl rfl rfl (by omega) (by omega) ?_ | refine bJ rfl rfl rfl (nb rfl) rfl rfl rfl (by omega) (by omega) ?_ | refine bH tabOk rfl rfl rfl (nb rfl) rfl rfl rfl rfl rfl rfl rfl rfl rfl ?_ | refine aZ tabOk rfl rfl (nb rfl) rfl ?_ | refine aU tabOk rfl rfl rfl (nb rfl) rfl rfl rfl rfl rfl rfl ?_ | refine aV tabOk rfl rfl rfl (nb rfl) rfl rfl rfl rfl ?_ | refine aN tabOk rfl rfl rfl rfl rfl rfl rfl rfl rfl rfl rfl ?_ | refine aR tabOk rfl rfl rfl (nb rfl) rfl rfl rfl rfl (by first | assumption | omega) ?_ | refine aJ tabOk rfl rfl rfl (nb rfl) rfl rfl rfl rfl (by first | rfl | omega) (by first | omega | simp) ?_ | refine aC tabOk rfl rfl rfl (nb rfl) rfl rfl rfl (by assumption) ?_ | refine aC tabOk rfl rfl rfl (nb rfl) rfl rfl rfl (bS _ _ (by first | assumption | omega)) ?_ | refine aE rfl rfl rfl (nb rfl) rfl rfl (by omega) ?_ | ((fail_if_success (refine aG (b := true) rfl rfl rfl ?_)); (fail_if_success (refine aG (b := false) rfl rfl rfl ?_)); refine aW rfl rfl rfl (fun hq => ?_) (fun hq => ?_) <;> first | subst hq | (first | (simp only [sD, sE, sB, sC, sN, sM, sT, sF] at hq; try (exfalso; omega)) | skip)) | fail) | (refine bW ?_; first | refine bN ?_ | refine bT ?_ | refine aQ ?_ | refine bD ?_ | refine bU ?_ | refine bL ?_ | refine bK ?_ | refine aA (b := true) rfl (fun _ => ?_) nTf | refine aA (b := false) rfl nFt (fun _ => ?_) | refine bE ?_ | refine bC ?_ | refine bA mixed (by kernel_rfl) ?_ | refine aD mixed (by kernel_rfl) ?_ | (refine aA rfl (fun hq => ?_) (fun hq => ?_) <;> first | subst hq | (first | (simp only [sD, sE, sB, sC, sN, sM, sT, sF] at hq; try (exfalso; omega)) | skip)) | fail) | (refine bQ ?_; first | refine bZ ?_ | refine aK ?_ | refine aT ?_ | fail) | (refine bG ?_; first | refine bV ?_ | refine aH ?_ | refine aI (by decide) ?_ | refine aM ?_ | fail) | refine bR (bB (by kernel_rfl)) ?_ | fail)
            all_goals first
              | exact absurd rfl (by assumption)
              | (exfalso; omega)
              | exact ⟨⟨j + 1, hlt, hs1⟩, (by show kids.length - (j + 1) < kids.length - j; omega), (cF (by repeat' first | exact trivial | refine ⟨rfl, ?_⟩) (by repeat' first | exact trivial | refine ⟨rfl, ?_⟩))⟩
        · rw [if_pos h0] at hst
          rw [hst] at hR
          have hR : (Tree.nil, false, Q3) = R := by rw [if_pos h0] at hR; exact hR
          subst hR
          clear hset hstn hfn hst hcl
          repeat' (first | refine bM ?_ | (refine bP ?_; first | refine aX tabOk rfl rfl rfl (nb rfl) rfl ?_ | refine bF rfl rfl (nb rfl) ?_ | (refine bO rfl rfl rfl (nb rfl) rfl rfl rfl (fun hq => ?_) (fun hq => ?_) <;> (first | (simp only [sD, sE, sB, sC, sN, sM, sT, sF] at hq; try (exfalso; omega)) | skip))| refine bX rfl rfl (nb rfl) rfl rfl rfl rfl (hc) ?_ | refine aE rfl rfl rfl (nb rfl) rfl rfl (by omega) ?_ | refine bI rfl rfl rfl (nb rfl) rfl rfl rfl (by omega) (by omega) ?_ | refine bJ rfl rfl rfl (nb rfl) rfl rfl rfl (by omega) (by omega) ?_ | refine bH tabOk rfl rfl rfl (nb rfl) rfl rfl rfl rfl rfl rfl rfl rfl rfl ?_ | refine aZ tabOk rfl rfl (nb rfl) rfl ?_ | refine aU tabOk rfl rfl rfl (nb rfl) rfl rfl rfl rfl rfl rfl ?_ | refine aV tabOk rfl rfl rfl (nb rfl) rfl rfl rfl rfl ?_ | refine aN tabOk rfl rfl rfl rfl rfl rfl rfl rfl rfl rfl rfl ?_ | refine aR tabOk rfl rfl rfl (nb rfl) rfl rfl rfl rfl (by first | assumption | omega) ?_ | refine aJ tabOk rfl rfl rfl (nb rfl) rfl rfl rfl rfl (by first | rfl | omega) (by first | omega | simp) ?_ | refine aC tabOk rfl rfl rfl (nb rfl) rfl rfl rfl (by assumption) ?_ | refine aC tabOk rfl rfl rfl (nb rfl) rfl rfl rfl (bS _ _ (by first | assumption | omega)) ?_ | refine aE rfl rfl rfl (nb rfl) rfl rfl (by omega) ?_ | ((fail_if_success (refine aG (b := true) rfl rfl rfl ?_)); (fail_if_success (refine aG (b := false) rfl rfl rfl ?_)); refine aW rfl rfl rfl (fun hq => ?_) (fun hq => ?_) <;> first | subst hq | (first | (simp only [sD, sE, sB, sC, sN, sM, sT, sF] at hq; try (exfalso; omega)) | skip)) | fail) | (refine bW ?_; first | refine bN ?_ | refine bT ?_ | refine aQ ?_ | refine bD ?_ | refine bU ?_ | refine bL ?_ | refine bK ?_ | refine aA (b := true) rfl (fun _ => ?_) nTf | refine aA (b := false) rfl nFt (fun _ => ?_) | refine bE ?_ | refine bC ?_ | refine bA mixed (by kernel_rfl) ?_ | refine aD mixed (by kernel_rfl) ?_ | (refine aA rfl (fun hq => ?_) (fun hq => ?_) <;> first | subst hq | (first | (simp only [sD, sE, sB, sC, sN, sM, sT, sF] at hq; try (exfalso; omega)) | skip)) | fail) | (refine bQ ?_; first | refine bZ ?_ | refine aK ?_ | refine aT ?_ | fail) | (refine bG ?_; first | refine bV ?_ | refine aH ?_ | refine aI (by decide) ?_ | refine aM ?_ | fail) | refine bR (bB (by kernel_rfl)) ?_ | fail)
          all_goals first
            | exact absurd (by assumption) h0
            | (exfalso; omega)
            | (refine dI ?_; refine cA (by first | exact .inl rfl | exact .inr rfl) (dM rfl (aY rfl) (aY rfl) (aY rfl)) rfl ?_; rfl)
      · have ej : j = kids.length := by omega
        subst ej
        rw [List.drop_length] at hst
        have hs1 : stepPs kids = (0 + kids.length, .nil, false, 0) := hst
        rw [hs1] at hR
        have hR : (Tree.nil, false, (0 : Int)) = R := by simpa using hR
        subst hR
        clear hind
        repeat' (first | refine bM ?_ | (refine bP ?_; first | refine aX tabOk rfl rfl rfl (nb rfl) rfl ?_ | refine bF rfl rfl (nb rfl) ?_ | (refine bO rfl rfl rfl (nb rfl) rfl rfl rfl (fun hq => ?_) (fun hq => ?_) <;> (first | (simp only [sD, sE, sB, sC, sN, sM, sT, sF] at hq; try (exfalso; omega)) | skip)) | refine aE rfl rfl rfl (nb rfl) rfl rfl (by omega) ?_ | refine bI rfl rfl rfl (nb rfl) rfl rfl rfl (by omega) (by omega) ?_ | refine bJ rfl rfl rfl (nb rfl) rfl rfl rfl (by omega) (by omega) ?_ | refine bH tabOk rfl rfl rfl (nb rfl) rfl rfl rfl rfl rfl rfl rfl rfl rfl ?_ | refine aZ tabOk rfl rfl (nb rfl) rfl ?_ | refine aU tabOk rfl rfl rfl (nb rfl) rfl rfl rfl rfl rfl rfl ?_ | refine aV tabOk rfl rfl rfl (nb rfl) rfl rfl rfl rfl ?_ | refine aN tabOk rfl rfl rfl rfl rfl rfl rfl rfl rfl rfl rfl ?_ | refine aR tabOk rfl rfl rfl (nb rfl) rfl rfl rfl rfl (by first | assumption | omega) ?_ | refine aJ tabOk rfl rfl rfl (nb rfl) rfl rfl rfl rfl (by first | rfl | omega) (by first | omega | simp) ?_ | refine aC tabOk rfl rfl rfl (nb rfl) rfl rfl rfl (by assumption) ?_ | refine aC tabOk rfl rfl rfl (nb rfl) rfl rfl rfl (bS _ _ (by first | assumption | omega)) ?_ | refine aE rfl rfl rfl (nb rfl) rfl rfl (by omega) ?_ | ((fail_if_success (refine aG (b := true) rfl rfl rfl ?_)); (fail_if_success (refine aG (b := false) rfl rfl rfl ?_)); refine aW rfl rfl rfl (fun hq => ?_) (fun hq => ?_) <;> first | subst hq | (first | (simp only [sD, sE, sB, sC, sN, sM, sT, sF] at hq; try (exfalso; omega)) | skip)) | fail) | (refine bW ?_; first | refine bN ?_ | refine bT ?_ | refine aQ ?_ | refine bD ?_ | refine bU ?_ | refine bL ?_ | refine bK ?_ | refine aA (b := true) rfl (fun _ => ?_) nTf | refine aA (b := false) rfl nFt (fun _ => ?_) | refine bE ?_ | refine bC ?_ | refine bA mixed (by kernel_rfl) ?_ | refine aD mixed (by kernel_rfl) ?_ | (refine aA rfl (fun hq => ?_) (fun hq => ?_) <;> first | subst hq | (first | (simp only [sD, sE, sB, sC, sN, sM, sT, sF] at hq; try (exfalso; omega)) | skip)) | fail) | (refine bQ ?_; first | refine bZ ?_ | refine aK ?_ | refine aT ?_ | fail) | (refine bG ?_; first | refine bV ?_ | refine aH ?_ | refine aI (by decide) ?_ | refine aM ?_ | fail) | refine bR (bB (by kernel_rfl)) ?_ | fail)
        all_goals first
          | (exfalso; omega)
          | (refine dI ?_; refine cA (by first | exact .inl rfl | exact .inr rfl) (dM rfl (aY rfl) (aY rfl) (aY rfl)) rfl ?_; rfl)
end Go.Proofs.Ytlbemgokilhdnaa.Ab
namespace Go.Proofs.Ytlbemgokilhdnaa.Ab
set_option linter.unusedVariables false
set_option linter.unusedSimpArgs false
attribute [local irreducible] AWP AOps AExit AThen ABlock ANoGoto FeetOk
def StepP (t : Tree) : Tree × Bool × Int := if checkP isConP t = 0 then stepP t else (.nil, false, checkP isConP t)
set_option maxHeartbeats 4000000 in
set_option maxRecDepth 10000 in
theorem aAi (t : Tree) (hs : t.size ≤ 1000000) : ACalls Try.prog 47 [.imm t.iv] [] (.imm (.tup [(StepP t).1.iv, .lit (.bool (StepP t).2.1), .lit (.int .i64 (StepP t).2.2)])) [] := by
  have c1 := gC t hs
  unfold StepP
  by_cases hc : checkP isConP t = 0
  · rw [if_pos hc]
    rw [hc] at c1
    obtain ⟨hw, hz, hf⟩ := cQ hc
    have c2 := aAh t hw (mL t hf) (by omega)
    generalize stepP t = S at *
    obtain ⟨S1, S2, S3⟩ := S
    dsimp only at *
    refine bY Try.func47 rfl rfl (nb rfl) rfl ?_
    repeat' (first | refine bM ?_ | (refine bP ?_; first | refine aX tabOk rfl rfl rfl (nb rfl) rfl ?_ | refine bF rfl rfl (nb rfl) ?_ | (refine bO rfl rfl rfl (nb rfl) rfl rfl rfl (fun hq => ?_) (fun hq => ?_) <;> (first | (simp only [sD, sE, sB, sC, sN, sM, sT, sF] at hq; try (exfalso; omega)) | skip))| refine bX rfl rfl (nb rfl) rfl rfl rfl rfl (c1) ?_ | refine bX rfl rfl (nb rfl) rfl rfl rfl rfl (c2) ?_ | refine aE rfl rfl rfl (nb rfl) rfl rfl (by omega) ?_ | refine bI rfl rfl rfl (nb rfl) rfl rfl rfl (by omega) (by omega) ?_ | refine bJ rfl rfl rfl (nb rfl) rfl rfl rfl (by omega) (by omega) ?_ | refine bH tabOk rfl rfl rfl (nb rfl) rfl rfl rfl rfl rfl rfl rfl rfl rfl ?_ | refine aZ tabOk rfl rfl (nb rfl) rfl ?_ | refine aU tabOk rfl rfl rfl (nb rfl) rfl rfl rfl rfl rfl rfl ?_ | refine aV tabOk rfl rfl rfl (nb rfl) rfl rfl rfl rfl ?_ | refine aN tabOk rfl rfl rfl rfl rfl rfl rfl rfl rfl rfl rfl ?_ | refine aR tabOk rfl rfl rfl (nb rfl) rfl rfl rfl rfl (by first | assumption | omega) ?_ | refine aJ tabOk rfl rfl rfl (nb rfl) rfl rfl rfl rfl (by first | rfl | omega) (by first | omega | simp) ?_ | refine aC tabOk rfl rfl rfl (nb rfl) rfl rfl rfl (by assumption) ?_ | refine aC tabOk rfl rfl rfl (nb rfl) rfl rfl rfl (bS _ _ (by first | assumption | omega)) ?_ | refine aE rfl rfl rfl (nb rfl) rfl rfl (by omega) ?_ | ((fail_if_success (refine aG (b := true) rfl rfl rfl ?_)); (fail_if_success (refine aG (b := false) rfl rfl rfl ?_)); refine aW rfl rfl rfl (fun hq => ?_) (fun hq => ?_) <;> first | subst hq | (first | (simp only [sD, sE, sB, sC, sN, sM, sT, sF] at hq; try (exfalso; omega)) | skip)) | fail) | (refine bW ?_; first | refine bN ?_ | refine bT ?_ | refine aQ ?_ | refine bD ?_ | refine bU ?_ | refine bL ?_ | refine bK ?_ | refine aA (b := true) rfl (fun _ => ?_) nTf | refine aA (b := false) rfl nFt (fun _ => ?_) | refine bE ?_ | refine bC ?_ | refine bA mixed (by kernel_rfl) ?_ | refine aD mixed (by kernel_rfl) ?_ | (refine aA rfl (fun hq => ?_) (fun hq => ?_) <;> first | subst hq | (first | (simp only [sD, sE, sB, sC, sN, sM, sT, sF] at hq; try (exfalso; omega)) | skip)) | fail) | (refine bQ ?_; first | refine bZ ?_ | refine aK ?_ | refine aT ?_ | fail) | (refine bG ?_; first | refine bV ?_ | refine aH ?_ | refine aI (by decide) ?_ | refine aM ?_ | fail) | refine bR (bB (by kernel_rfl)) ?_ | fail)
    all_goals first
      | exact absurd rfl (by assumption)
      | (refine cA (by first | exact .inl rfl | exact .inr rfl) (dM rfl (aY rfl) (aY rfl) (aY rfl)) rfl ?_; rfl)
  · rw [if_neg hc]
    generalize checkP isConP t = C at *
    refine bY Try.func47 rfl rfl (nb rfl) rfl ?_
    repeat' (first | refine bM ?_ | (refine bP ?_; first | refine aX tabOk rfl rfl rfl (nb rfl) rfl ?_ | refine bF rfl rfl (nb rfl) ?_ | (refine bO rfl rfl rfl (nb rfl) rfl rfl rfl (fun hq => ?_) (fun hq => ?_) <;> (first | (simp only [sD, sE, sB, sC, sN, sM, sT, sF] at hq; try (exfalso; omega)) | skip))| refine bX rfl rfl (nb rfl) rfl rfl rfl rfl (c1) ?_ | refine aE rfl rfl rfl (nb rfl) rfl rfl (by omega) ?_ | refine bI rfl rfl rfl (nb rfl) rfl rfl rfl (by omega) (by omega) ?_ | refine bJ rfl rfl rfl (nb rfl) rfl rfl rfl (by omega) (by omega) ?_ | refine bH tabOk rfl rfl rfl (nb rfl) rfl rfl rfl rfl rfl rfl rfl rfl rfl ?_ | refine aZ tabOk rfl rfl (nb rfl) rfl ?_ | refine aU tabOk rfl rfl rfl (nb rfl) rfl rfl rfl rfl rfl rfl ?_ | refine aV tabOk rfl rfl rfl (nb rfl) rfl rfl rfl rfl ?_ | refine aN tabOk rfl rfl rfl rfl rfl rfl rfl rfl rfl rfl rfl ?_ | refine aR tabOk rfl rfl rfl (nb rfl) rfl rfl rfl rfl (by first | assumption | omega) ?_ | refine aJ tabOk rfl rfl rfl (nb rfl) rfl rfl rfl rfl (by first | rfl | omega) (by first | omega | simp) ?_ | refine aC tabOk rfl rfl rfl (nb rfl) rfl rfl rfl (by assumption) ?_ | refine aC tabOk rfl rfl rfl (nb rfl) rfl rfl rfl (bS _ _ (by first | assumption | omega)) ?_ | refine aE rfl rfl rfl (nb rfl) rfl rfl (by omega) ?_ | ((fail_if_success (refine aG (b := true) rfl rfl rfl ?_)); (fail_if_success (refine aG (b := false) rfl rfl rfl ?_)); refine aW rfl rfl rfl (fun hq => ?_) (fun hq => ?_) <;> first | subst hq | (first | (simp only [sD, sE, sB, sC, sN, sM, sT, sF] at hq; try (exfalso; omega)) | skip)) | fail) | (refine bW ?_; first | refine bN ?_ | refine bT ?_ | refine aQ ?_ | refine bD ?_ | refine bU ?_ | refine bL ?_ | refine bK ?_ | refine aA (b := true) rfl (fun _ => ?_) nTf | refine aA (b := false) rfl nFt (fun _ => ?_) | refine bE ?_ | refine bC ?_ | refine bA mixed (by kernel_rfl) ?_ | refine aD mixed (by kernel_rfl) ?_ | (refine aA rfl (fun hq => ?_) (fun hq => ?_) <;> first | subst hq | (first | (simp only [sD, sE, sB, sC, sN, sM, sT, sF] at hq; try (exfalso; omega)) | skip)) | fail) | (refine bQ ?_; first | refine bZ ?_ | refine aK ?_ | refine aT ?_ | fail) | (refine bG ?_; first | refine bV ?_ | refine aH ?_ | refine aI (by decide) ?_ | refine aM ?_ | fail) | refine bR (bB (by kernel_rfl)) ?_ | fail)
    all_goals first
      | exact absurd (by assumption) hc
      | (refine cA (by first | exact .inl rfl | exact .inr rfl) (dM rfl (aY rfl) (aY rfl) (aY rfl)) rfl ?_; rfl)
theorem mN (t : Tree) (h1 : (StepP t).2.1 = true) (h2 : (StepP t).2.2 = 0) : (StepP t).1.whole = true ∧ (StepP t).1.size ≤ 131072 := by
  unfold StepP at h1 h2 ⊢
  by_cases hc : checkP isConP t = 0
  · rw [if_pos hc] at h1 h2 ⊢
    obtain ⟨hw, hz, hf⟩ := cQ hc
    have := mM t hw h1 h2
    exact ⟨this.1, by omega⟩
  · rw [if_neg hc] at h1; cases h1
/-- A normal form, with so many steps at most. -/
def normalP : Nat → Tree → Tree × Int
  | 0, t => if (StepP t).2.2 ≠ 0 then (.nil, (StepP t).2.2) else if (StepP t).2.1 = true then (.nil, 18) else (t, 0)
  | f + 1, t => if (StepP t).2.2 ≠ 0 then (.nil, (StepP t).2.2) else if (StepP t).2.1 = true then normalP f (StepP t).1 else (t, 0)
set_option maxHeartbeats 8000000 in
set_option maxRecDepth 10000 in
theorem xT (t : Tree) (hs : t.size ≤ 1000000) : ACalls Try.prog 21 [.imm t.iv] [] (.imm (.tup [(normalP 1000 t).1.iv, .lit (.int .i64 (normalP 1000 t).2)])) [] := by
  generalize hR : normalP 1000 t = R
  refine bY Try.func21 rfl rfl (nb rfl) rfl ?_
  repeat' (first | refine bM ?_ | (refine bP ?_; first | refine aX tabOk rfl rfl rfl (nb rfl) rfl ?_ | refine bF rfl rfl (nb rfl) ?_ | (refine bO rfl rfl rfl (nb rfl) rfl rfl rfl (fun hq => ?_) (fun hq => ?_) <;> (first | (simp only [sD, sE, sB, sC, sN, sM, sT, sF] at hq; try (exfalso; omega)) | skip)) | refine aE rfl rfl rfl (nb rfl) rfl rfl (by omega) ?_ | refine bI rfl rfl rfl (nb rfl) rfl rfl rfl (by omega) (by omega) ?_ | refine bJ rfl rfl rfl (nb rfl) rfl rfl rfl (by omega) (by omega) ?_ | refine bH tabOk rfl rfl rfl (nb rfl) rfl rfl rfl rfl rfl rfl rfl rfl rfl ?_ | refine aZ tabOk rfl rfl (nb rfl) rfl ?_ | refine aU tabOk rfl rfl rfl (nb rfl) rfl rfl rfl rfl rfl rfl ?_ | refine aV tabOk rfl rfl rfl (nb rfl) rfl rfl rfl rfl ?_ | refine aN tabOk rfl rfl rfl rfl rfl rfl rfl rfl rfl rfl rfl ?_ | refine aR tabOk rfl rfl rfl (nb rfl) rfl rfl rfl rfl (by first | assumption | omega) ?_ | refine aJ tabOk rfl rfl rfl (nb rfl) rfl rfl rfl rfl (by first | rfl | omega) (by first | omega | simp) ?_ | refine aC tabOk rfl rfl rfl (nb rfl) rfl rfl rfl (by assumption) ?_ | refine aC tabOk rfl rfl rfl (nb rfl) rfl rfl rfl (bS _ _ (by first | assumption | omega)) ?_ | refine aE rfl rfl rfl (nb rfl) rfl rfl (by omega) ?_ | ((fail_if_success (refine aG (b := true) rfl rfl rfl ?_)); (fail_if_success (refine aG (b := false) rfl rfl rfl ?_)); refine aW rfl rfl rfl (fun hq => ?_) (fun hq => ?_) <;> first | subst hq | (first | (simp only [sD, sE, sB, sC, sN, sM, sT, sF] at hq; try (exfalso; omega)) | skip)) | fail) | (refine bW ?_; first | refine bN ?_ | refine bT ?_ | refine aQ ?_ | refine bD ?_ | refine bU ?_ | refine bL ?_ | refine bK ?_ | refine aA (b := true) rfl (fun _ => ?_) nTf | refine aA (b := false) rfl nFt (fun _ => ?_) | refine bE ?_ | refine bC ?_ | refine bA mixed (by kernel_rfl) ?_ | refine aD mixed (by kernel_rfl) ?_ | (refine aA rfl (fun hq => ?_) (fun hq => ?_) <;> first | subst hq | (first | (simp only [sD, sE, sB, sC, sN, sM, sT, sF] at hq; try (exfalso; omega)) | skip)) | fail) | (refine bQ ?_; first | refine bZ ?_ | refine aK ?_ | refine aT ?_ | fail) | (refine bG ?_; first | refine bV ?_ | refine aH ?_ | refine aI (by decide) ?_ | refine aM ?_ | fail) | refine bR (bB (by kernel_rfl)) ?_ | fail)
  refine cH (ι := {x : Nat × Nat × Tree // x.1 + x.2.1 = 1000 ∧ x.2.2.size ≤ 1000000 ∧ normalP x.2.1 x.2.2 = R}) (fun x => S.f ⟨[(10, .imm (.lit (.int .i64 (x.1.1 : Int)))), (0, .imm x.1.2.2.iv)], []⟩) (fun x => 1000 - x.1.1) ⟨(0, 1000, t), rfl, hs, hR⟩ (cF (by repeat' first | exact trivial | refine ⟨rfl, ?_⟩) (by repeat' first | exact trivial | refine ⟨rfl, ?_⟩)) ?_
  clear hR hs
  rintro ⟨⟨i, f, t⟩, hif, hs, hR⟩
  have hif : i + f = 1000 := hif
  have hs : t.size ≤ 1000000 := hs
  have hR : normalP f t = R := hR
  dsimp only
  have c1 := aAi t hs
  have hfn := mN t
  by_cases hlt : i < 1000
  · obtain ⟨f, rfl⟩ : ∃ f', f = f' + 1 := ⟨f - 1, by omega⟩
    rw [normalP] at hR
    generalize StepP t = S at *
    obtain ⟨S1, S2, S3⟩ := S
    dsimp only at *
    by_cases h0 : S3 = 0
    · subst h0
      rw [if_neg (by simp)] at hR
      cases S2 with
      | true =>
        rw [if_pos rfl] at hR
        have h1 := hfn rfl rfl
        repeat' (first | refine bM ?_ | (refine bP ?_; first | refine aX tabOk rfl rfl rfl (nb rfl) rfl ?_ | refine bF rfl rfl (nb rfl) ?_ | (refine bO rfl rfl rfl (nb rfl) rfl rfl rfl (fun hq => ?_) (fun hq => ?_) <;> (first | (simp only [sD, sE, sB, sC, sN, sM, sT, sF] at hq; try (exfalso; omega)) | skip))| refine bX rfl rfl (nb rfl) rfl rfl rfl rfl (c1) ?_ | refine aE rfl rfl rfl (nb rfl) rfl rfl (by omega) ?_ | refine bI rfl rfl rfl (nb rfl) rfl rfl rfl (by omega) (by omega) ?_ | refine bJ rfl rfl rfl (nb rfl) rfl rfl rfl (by omega) (by omega) ?_ | refine bH tabOk rfl rfl rfl (nb rfl) rfl rfl rfl rfl rfl rfl rfl rfl rfl ?_ | refine aZ tabOk rfl rfl (nb rfl) rfl ?_ | refine aU tabOk rfl rfl rfl (nb rfl) rfl rfl rfl rfl rfl rfl ?_ | refine aV tabOk rfl rfl rfl (nb rfl) rfl rfl rfl rfl ?_ | refine aN tabOk rfl rfl rfl rfl rfl rfl rfl rfl rfl rfl rfl ?_ | refine aR tabOk rfl rfl rfl (nb rfl) rfl rfl rfl rfl (by first | assumption | omega) ?_ | refine aJ tabOk rfl rfl rfl (nb rfl) rfl rfl rfl rfl (by first | rfl | omega) (by first | omega | simp) ?_ | refine aC tabOk rfl rfl rfl (nb rfl) rfl rfl rfl (by assumption) ?_ | refine aC tabOk rfl rfl rfl (nb rfl) rfl rfl rfl (bS _ _ (by first | assumption | omega)) ?_ | refine aE rfl rfl rfl (nb rfl) rfl rfl (by omega) ?_ | ((fail_if_success (refine aG (b := true) rfl rfl rfl ?_)); (fail_if_success (refine aG (b := false) rfl rfl rfl ?_)); refine aW rfl rfl rfl (fun hq => ?_) (fun hq => ?_) <;> first | subst hq | (first | (simp only [sD, sE, sB, sC, sN, sM, sT, sF] at hq; try (exfalso; omega)) | skip)) | fail) | (refine bW ?_; first | refine bN ?_ | refine bT ?_ | refine aQ ?_ | refine bD ?_ | refine bU ?_ | refine bL ?_ | refine bK ?_ | refine aA (b := true) rfl (fun _ => ?_) nTf | refine aA (b := false) rfl nFt (fun _ => ?_) | refine bE ?_ | refine bC ?_ | refine bA mixed (by kernel_rfl) ?_ | refine aD mixed (by kernel_rfl) ?_ | (refine aA rfl (fun hq => ?_) (fun hq => ?_) <;> first | subst hq | (first | (simp only [sD, sE, sB, sC, sN, sM, sT, sF] at hq; try (exfalso; omega)) | skip)) | fail) | (refine bQ ?_; first | refine bZ ?_ | refine aK ?_ | refine aT ?_ | fail) | (refine bG ?_; first | refine bV ?_ | refine aH ?_ | refine aI (by decide) ?_ | refine aM ?_ | fail) | refine bR (bB (by kernel_rfl)) ?_ | fail)
        all_goals first
          | exact absurd rfl (by assumption)
          | (exfalso; omega)
          | exact ⟨⟨(i + 1, f, S1), by dsimp only; omega, by dsimp only; omega, hR⟩, (by show 1000 - (i + 1) < 1000 - i; omega), (cF (by repeat' first | exact trivial | refine ⟨rfl, ?_⟩) (by repeat' first | exact trivial | refine ⟨rfl, ?_⟩))⟩
      | false =>
        rw [if_neg (by simp)] at hR
        subst hR
        repeat' (first | refine bM ?_ | (refine bP ?_; first | refine aX tabOk rfl rfl rfl (nb rfl) rfl ?_ | refine bF rfl rfl (nb rfl) ?_ | (refine bO rfl rfl rfl (nb rfl) rfl rfl rfl (fun hq => ?_) (fun hq => ?_) <;> (first | (simp only [sD, sE, sB, sC, sN, sM, sT, sF] at hq; try (exfalso; omega)) | skip))| refine bX rfl rfl (nb rfl) rfl rfl rfl rfl (c1) ?_ | refine aE rfl rfl rfl (nb rfl) rfl rfl (by omega) ?_ | refine bI rfl rfl rfl (nb rfl) rfl rfl rfl (by omega) (by omega) ?_ | refine bJ rfl rfl rfl (nb rfl) rfl rfl rfl (by omega) (by omega) ?_ | refine bH tabOk rfl rfl rfl (nb rfl) rfl rfl rfl rfl rfl rfl rfl rfl rfl ?_ | refine aZ tabOk rfl rfl (nb rfl) rfl ?_ | refine aU tabOk rfl rfl rfl (nb rfl) rfl rfl rfl rfl rfl rfl ?_ | refine aV tabOk rfl rfl rfl (nb rfl) rfl rfl rfl rfl ?_ | refine aN tabOk rfl rfl rfl rfl rfl rfl rfl rfl rfl rfl rfl ?_ | refine aR tabOk rfl rfl rfl (nb rfl) rfl rfl rfl rfl (by first | assumption | omega) ?_ | refine aJ tabOk rfl rfl rfl (nb rfl) rfl rfl rfl rfl (by first | rfl | omega) (by first | omega | simp) ?_ | refine aC tabOk rfl rfl rfl (nb rfl) rfl rfl rfl (by assumption) ?_ | refine aC tabOk rfl rfl rfl (nb rfl) rfl rfl rfl (bS _ _ (by first | assumption | omega)) ?_ | refine aE rfl rfl rfl (nb rfl) rfl rfl (by omega) ?_ | ((fail_if_success (refine aG (b := true) rfl rfl rfl ?_)); (fail_if_success (refine aG (b := false) rfl rfl rfl ?_)); refine aW rfl rfl rfl (fun hq => ?_) (fun hq => ?_) <;> first | subst hq | (first | (simp only [sD, sE, sB, sC, sN, sM, sT, sF] at hq; try (exfalso; omega)) | skip)) | fail) | (refine bW ?_; first | refine bN ?_ | refine bT ?_ | refine aQ ?_ | refine bD ?_ | refine bU ?_ | refine bL ?_ | refine bK ?_ | refine aA (b := true) rfl (fun _ => ?_) nTf | refine aA (b := false) rfl nFt (fun _ => ?_) | refine bE ?_ | refine bC ?_ | refine bA mixed (by kernel_rfl) ?_ | refine aD mixed (by kernel_rfl) ?_ | (refine aA rfl (fun hq => ?_) (fun hq => ?_) <;> first | subst hq | (first | (simp only [sD, sE, sB, sC, sN, sM, sT, sF] at hq; try (exfalso; omega)) | skip)) | fail) | (refine bQ ?_; first | refine bZ ?_ | refine aK ?_ | refine aT ?_ | fail) | (refine bG ?_; first | refine bV ?_ | refine aH ?_ | refine aI (by decide) ?_ | refine aM ?_ | fail) | refine bR (bB (by kernel_rfl)) ?_ | fail)
        all_goals first
          | exact absurd rfl (by assumption)
          | (exfalso; omega)
          | (refine cA (by first | exact .inl rfl | exact .inr rfl) (cC rfl (aY rfl) (aY rfl)) rfl ?_; rfl)
    · rw [if_pos h0] at hR
      subst hR
      repeat' (first | refine bM ?_ | (refine bP ?_; first | refine aX tabOk rfl rfl rfl (nb rfl) rfl ?_ | refine bF rfl rfl (nb rfl) ?_ | (refine bO rfl rfl rfl (nb rfl) rfl rfl rfl (fun hq => ?_) (fun hq => ?_) <;> (first | (simp only [sD, sE, sB, sC, sN, sM, sT, sF] at hq; try (exfalso; omega)) | skip))| refine bX rfl rfl (nb rfl) rfl rfl rfl rfl (c1) ?_ | refine aE rfl rfl rfl (nb rfl) rfl rfl (by omega) ?_ | refine bI rfl rfl rfl (nb rfl) rfl rfl rfl (by omega) (by omega) ?_ | refine bJ rfl rfl rfl (nb rfl) rfl rfl rfl (by omega) (by omega) ?_ | refine bH tabOk rfl rfl rfl (nb rfl) rfl rfl rfl rfl rfl rfl rfl rfl rfl ?_ | refine aZ tabOk rfl rfl (nb rfl) rfl ?_ | refine aU tabOk rfl rfl rfl (nb rfl) rfl rfl rfl rfl rfl rfl ?_ | refine aV tabOk rfl rfl rfl (nb rfl) rfl rfl rfl rfl ?_ | refine aN tabOk rfl rfl rfl rfl rfl rfl rfl rfl rfl rfl rfl ?_ | refine aR tabOk rfl rfl rfl (nb rfl) rfl rfl rfl rfl (by first | assumption | omega) ?_ | refine aJ tabOk rfl rfl rfl (nb rfl) rfl rfl rfl rfl (by first | rfl | omega) (by first | omega | simp) ?_ | refine aC tabOk rfl rfl rfl (nb rfl) rfl rfl rfl (by assumption) ?_ | refine aC tabOk rfl rfl rfl (nb rfl) rfl rfl rfl (bS _ _ (by first | assumption | omega)) ?_ | refine aE rfl rfl rfl (nb rfl) rfl rfl (by omega) ?_ | ((fail_if_success (refine aG (b := true) rfl rfl rfl ?_)); (fail_if_success (refine aG (b := false) rfl rfl rfl ?_)); refine aW rfl rfl rfl (fun hq => ?_) (fun hq => ?_) <;> first | subst hq | (first | (simp only [sD, sE, sB, sC, sN, sM, sT, sF] at hq; try (exfalso; omega)) | skip)) | fail) | (refine bW ?_; first | refine bN ?_ | refine bT ?_ | refine aQ ?_ | refine bD ?_ | refine bU ?_ | refine bL ?_ | refine bK ?_ | refine aA (b := true) rfl (fun _ => ?_) nTf | refine aA (b := false) rfl nFt (fun _ => ?_) | refine bE ?_ | refine bC ?_ | refine bA mixed (by kernel_rfl) ?_ | refine aD mixed (by kernel_rfl) ?_ | (refine aA rfl (fun hq => ?_) (fun hq => ?_) <;> first | subst hq | (first | (simp only [sD, sE, sB, sC, sN, sM, sT, sF] at hq; try (exfalso; omega)) | skip)) | fail) | (refine bQ ?_; first | refine bZ ?_ | refine aK ?_ | refine aT ?_ | fail) | (refine bG ?_; first | refine bV ?_ | refine aH ?_ | refine aI (by decide) ?_ | refine aM ?_ | fail) | refine bR (bB (by kernel_rfl)) ?_ | fail)
      all_goals first
        | exact absurd (by assumption) h0
        | exact absurd rfl (by assumption)
        | (exfalso; omega)
        | (refine cA (by first | exact .inl rfl | exact .inr rfl) (cC rfl (aY rfl) (aY rfl)) rfl ?_; rfl)
  · have e0 : f = 0 := by omega
    subst e0
    rw [normalP] at hR
    generalize StepP t = S at *
    obtain ⟨S1, S2, S3⟩ := S
    dsimp only at *
    by_cases h0 : S3 = 0
    · subst h0
      rw [if_neg (by simp)] at hR
      cases S2 with
      | true =>
        rw [if_pos rfl] at hR
        subst hR
        repeat' (first | refine bM ?_ | (refine bP ?_; first | refine aX tabOk rfl rfl rfl (nb rfl) rfl ?_ | refine bF rfl rfl (nb rfl) ?_ | (refine bO rfl rfl rfl (nb rfl) rfl rfl rfl (fun hq => ?_) (fun hq => ?_) <;> (first | (simp only [sD, sE, sB, sC, sN, sM, sT, sF] at hq; try (exfalso; omega)) | skip))| refine bX rfl rfl (nb rfl) rfl rfl rfl rfl (c1) ?_ | refine aE rfl rfl rfl (nb rfl) rfl rfl (by omega) ?_ | refine bI rfl rfl rfl (nb rfl) rfl rfl rfl (by omega) (by omega) ?_ | refine bJ rfl rfl rfl (nb rfl) rfl rfl rfl (by omega) (by omega) ?_ | refine bH tabOk rfl rfl rfl (nb rfl) rfl rfl rfl rfl rfl rfl rfl rfl rfl ?_ | refine aZ tabOk rfl rfl (nb rfl) rfl ?_ | refine aU tabOk rfl rfl rfl (nb rfl) rfl rfl rfl rfl rfl rfl ?_ | refine aV tabOk rfl rfl rfl (nb rfl) rfl rfl rfl rfl ?_ | refine aN tabOk rfl rfl rfl rfl rfl rfl rfl rfl rfl rfl rfl ?_ | refine aR tabOk rfl rfl rfl (nb rfl) rfl rfl rfl rfl (by first | assumption | omega) ?_ | refine aJ tabOk rfl rfl rfl (nb rfl) rfl rfl rfl rfl (by first | rfl | omega) (by first | omega | simp) ?_ | refine aC tabOk rfl rfl rfl (nb rfl) rfl rfl rfl (by assumption) ?_ | refine aC tabOk rfl rfl rfl (nb rfl) rfl rfl rfl (bS _ _ (by first | assumption | omega)) ?_ | refine aE rfl rfl rfl (nb rfl) rfl rfl (by omega) ?_ | ((fail_if_success (refine aG (b := true) rfl rfl rfl ?_)); (fail_if_success (refine aG (b := false) rfl rfl rfl ?_)); refine aW rfl rfl rfl (fun hq => ?_) (fun hq => ?_) <;> first | subst hq | (first | (simp only [sD, sE, sB, sC, sN, sM, sT, sF] at hq; try (exfalso; omega)) | skip)) | fail) | (refine bW ?_; first | refine bN ?_ | refine bT ?_ | refine aQ ?_ | refine bD ?_ | refine bU ?_ | refine bL ?_ | refine bK ?_ | refine aA (b := true) rfl (fun _ => ?_) nTf | refine aA (b := false) rfl nFt (fun _ => ?_) | refine bE ?_ | refine bC ?_ | refine bA mixed (by kernel_rfl) ?_ | refine aD mixed (by kernel_rfl) ?_ | (refine aA rfl (fun hq => ?_) (fun hq => ?_) <;> first | subst hq | (first | (simp only [sD, sE, sB, sC, sN, sM, sT, sF] at hq; try (exfalso; omega)) | skip)) | fail) | (refine bQ ?_; first | refine bZ ?_ | refine aK ?_ | refine aT ?_ | fail) | (refine bG ?_; first | refine bV ?_ | refine aH ?_ | refine aI (by decide) ?_ | refine aM ?_ | fail) | refine bR (bB (by kernel_rfl)) ?_ | fail)
        all_goals first
          | exact absurd rfl (by assumption)
          | (exfalso; omega)
          | (refine cA (by first | exact .inl rfl | exact .inr rfl) (cC rfl (aY rfl) (aY rfl)) rfl ?_; rfl)
      | false =>
        rw [if_neg (by simp)] at hR
        subst hR
        repeat' (first | refine bM ?_ | (refine bP ?_; first | refine aX tabOk rfl rfl rfl (nb rfl) rfl ?_ | refine bF rfl rfl (nb rfl) ?_ | (refine bO rfl rfl rfl (nb rfl) rfl rfl rfl (fun hq => ?_) (fun hq => ?_) <;> (first | (simp only [sD, sE, sB, sC, sN, sM, sT, sF] at hq; try (exfalso; omega)) | skip))| refine bX rfl rfl (nb rfl) rfl rfl rfl rfl (c1) ?_ | refine aE rfl rfl rfl (nb rfl) rfl rfl (by omega) ?_ | refine bI rfl rfl rfl (nb rfl) rfl rfl rfl (by omega) (by omega) ?_ | refine bJ rfl rfl rfl (nb rfl) rfl rfl rfl (by omega) (by omega) ?_ | refine bH tabOk rfl rfl rfl (nb rfl) rfl rfl rfl rfl rfl rfl rfl rfl rfl ?_ | refine aZ tabOk rfl rfl (nb rfl) rfl ?_ | refine aU tabOk rfl rfl rfl (nb rfl) rfl rfl rfl rfl rfl rfl ?_ | refine aV tabOk rfl rfl rfl (nb rfl) rfl rfl rfl rfl ?_ | refine aN tabOk rfl rfl rfl rfl rfl rfl rfl rfl rfl rfl rfl ?_ | refine aR tabOk rfl rfl rfl (nb rfl) rfl rfl rfl rfl (by first | assumption | omega) ?_ | refine aJ tabOk rfl rfl rfl (nb rfl) rfl rfl rfl rfl (by first | rfl | omega) (by first | omega | simp) ?_ | refine aC tabOk rfl rfl rfl (nb rfl) rfl rfl rfl (by assumption) ?_ | refine aC tabOk rfl rfl rfl (nb rfl) rfl rfl rfl (bS _ _ (by first | assumption | omega)) ?_ | refine aE rfl rfl rfl (nb rfl) rfl rfl (by omega) ?_ | ((fail_if_success (refine aG (b := true) rfl rfl rfl ?_)); (fail_if_success (refine aG (b := false) rfl rfl rfl ?_)); refine aW rfl rfl rfl (fun hq => ?_) (fun hq => ?_) <;> first | subst hq | (first | (simp only [sD, sE, sB, sC, sN, sM, sT, sF] at hq; try (exfalso; omega)) | skip)) | fail) | (refine bW ?_; first | refine bN ?_ | refine bT ?_ | refine aQ ?_ | refine bD ?_ | refine bU ?_ | refine bL ?_ | refine bK ?_ | refine aA (b := true) rfl (fun _ => ?_) nTf | refine aA (b := false) rfl nFt (fun _ => ?_) | refine bE ?_ | refine bC ?_ | refine bA mixed (by kernel_rfl) ?_ | refine aD mixed (by kernel_rfl) ?_ | (refine aA rfl (fun hq => ?_) (fun hq => ?_) <;> first | subst hq | (first | (simp only [sD, sE, sB, sC, sN, sM, sT, sF] at hq; try (exfalso; omega)) | skip)) | fail) | (refine bQ ?_; first | refine bZ ?_ | refine aK ?_ | refine aT ?_ | fail) | (refine bG ?_; first | refine bV ?_ | refine aH ?_ | refine aI (by decide) ?_ | refine aM ?_ | fail) | refine bR (bB (by kernel_rfl)) ?_ | fail)
        all_goals first
          | exact absurd rfl (by assumption)
          | (exfalso; omega)
          | (refine cA (by first | exact .inl rfl | exact .inr rfl) (cC rfl (aY rfl) (aY rfl)) rfl ?_; rfl)
    · rw [if_pos h0] at hR
      subst hR
      repeat' (first | refine bM ?_ | (refine bP ?_; first | refine aX tabOk rfl rfl rfl (nb rfl) rfl ?_ | refine bF rfl rfl (nb rfl) ?_ | (refine bO rfl rfl rfl (nb rfl) rfl rfl rfl (fun hq => ?_) (fun hq => ?_) <;> (first | (simp only [sD, sE, sB, sC, sN, sM, sT, sF] at hq; try (exfalso; omega)) | skip))| refine bX rfl rfl (nb rfl) rfl rfl rfl rfl (c1) ?_ | refine aE rfl rfl rfl (nb rfl) rfl rfl (by omega) ?_ | refine bI rfl rfl rfl (nb rfl) rfl rfl rfl (by omega) (by omega) ?_ | refine bJ rfl rfl rfl (nb rfl) rfl rfl rfl (by omega) (by omega) ?_ | refine bH tabOk rfl rfl rfl (nb rfl) rfl rfl rfl rfl rfl rfl rfl rfl rfl ?_ | refine aZ tabOk rfl rfl (nb rfl) rfl ?_ | refine aU tabOk rfl rfl rfl (nb rfl) rfl rfl rfl rfl rfl rfl ?_ | refine aV tabOk rfl rfl rfl (nb rfl) rfl rfl rfl rfl ?_ | refine aN tabOk rfl rfl rfl rfl rfl rfl rfl rfl rfl rfl rfl ?_ | refine aR tabOk rfl rfl rfl (nb rfl) rfl rfl rfl rfl (by first | assumption | omega) ?_ | refine aJ tabOk rfl rfl rfl (nb rfl) rfl rfl rfl rfl (by first | rfl | omega) (by first | omega | simp) ?_ | refine aC tabOk rfl rfl rfl (nb rfl) rfl rfl rfl (by assumption) ?_ | refine aC tabOk rfl rfl rfl (nb rfl) rfl rfl rfl (bS _ _ (by first | assumption | omega)) ?_ | refine aE rfl rfl rfl (nb rfl) rfl rfl (by omega) ?_ | ((fail_if_success (refine aG (b := true) rfl rfl rfl ?_)); (fail_if_success (refine aG (b := false) rfl rfl rfl ?_)); refine aW rfl rfl rfl (fun hq => ?_) (fun hq => ?_) <;> first | subst hq | (first | (simp only [sD, sE, sB, sC, sN, sM, sT, sF] at hq; try (exfalso; omega)) | skip)) | fail) | (refine bW ?_; first | refine bN ?_ | refine bT ?_ | refine aQ ?_ | refine bD ?_ | refine bU ?_ | refine bL ?_ | refine bK ?_ | refine aA (b := true) rfl (fun _ => ?_) nTf | refine aA (b := false) rfl nFt (fun _ => ?_) | refine bE ?_ | refine bC ?_ | refine bA mixed (by kernel_rfl) ?_ | refine aD mixed (by kernel_rfl) ?_ | (refine aA rfl (fun hq => ?_) (fun hq => ?_) <;> first | subst hq | (first | (simp only [sD, sE, sB, sC, sN, sM, sT, sF] at hq; try (exfalso; omega)) | skip)) | fail) | (refine bQ ?_; first | refine bZ ?_ | refine aK ?_ | refine aT ?_ | fail) | (refine bG ?_; first | refine bV ?_ | refine aH ?_ | refine aI (by decide) ?_ | refine aM ?_ | fail) | refine bR (bB (by kernel_rfl)) ?_ | fail)
      all_goals first
        | exact absurd (by assumption) h0
        | exact absurd rfl (by assumption)
        | (exfalso; omega)
        | (refine cA (by first | exact .inl rfl | exact .inr rfl) (cC rfl (aY rfl) (aY rfl)) rfl ?_; rfl)
/-- A normal form is a constructor that makes no step. -/
theorem mO : ∀ (f : Nat) (t : Tree), (normalP f t).2 = 0 → StepP (normalP f t).1 = (.nil, false, 0) ∨ (StepP (normalP f t).1).2 = (false, 0)
  | 0, t, h => by
    rw [normalP] at h ⊢
    split at h
    · rename_i h0; exact absurd h h0
    · rename_i h0
      rw [if_neg h0]
      split at h
      · cases h
      · rename_i h1
        rw [if_neg h1]
        right
        exact Prod.ext (by simpa using h1) (by simpa using h0)
  | f + 1, t, h => by
    rw [normalP] at h ⊢
    split at h
    · rename_i h0; exact absurd h h0
    · rename_i h0
      rw [if_neg h0]
      split at h
      · rename_i h1
        rw [if_pos h1]
        exact mO f _ h
      · rename_i h1
        rw [if_neg h1]
        right
        exact Prod.ext (by simpa using h1) (by simpa using h0)
theorem pT {t : Tree} (h : (StepP t).2 = (false, 0)) (f : Nat) : normalP f t = (t, 0) := by
  have h1 : (StepP t).2.2 = 0 := by rw [h]
  have h2 : (StepP t).2.1 = false := by rw [h]
  cases f <;> rw [normalP, if_neg (by simpa using h1), if_neg (by simp [h2])]
theorem pU (f g : Nat) (t : Tree) (h : (normalP f t).2 = 0) : (StepP (normalP f t).1).2 = (false, 0) ∧ normalP g (normalP f t).1 = ((normalP f t).1, 0) := by
  have h1 : (StepP (normalP f t).1).2 = (false, 0) := by
    rcases mO f t h with e | e
    · rw [e]
    · exact e
  exact ⟨h1, pT h1 g⟩
theorem rF {t : Tree} (h : (StepP t).2 = (false, 0)) : checkP isConP t = 0 := by
  unfold StepP at h
  by_cases hc : checkP isConP t = 0
  · exact hc
  · rw [if_neg hc] at h
    have : checkP isConP t = 0 := congrArg Prod.snd h
    exact absurd this hc
end Go.Proofs.Ytlbemgokilhdnaa.Ab
namespace Go.Proofs.Ytlbemgokilhdnaa.Ab
set_option linter.unusedVariables false
set_option linter.unusedSimpArgs false
attribute [local irreducible] AWP AOps AExit AThen ABlock ANoGoto FeetOk
/-- slices.IndexFunc, of trees, by a function over one variable. -/
def findP (R : Tree → Bool) : List Tree → Nat → Int
  | [], _ => -1
  | t :: ts, j => if R t then (j : Int) else findP R ts (j + 1)
theorem oQ (R : Tree → Bool) : ∀ (l : List Tree) (j : Nat), (0 ≤ findP R l j ↔ l.any R = true)
  | [], _ => by simp [findP]
  | t :: ts, j => by
    rw [findP, List.any_cons]
    by_cases h : R t = true
    · rw [if_pos h, h]; simp
    · rw [if_neg h, oQ R ts (j + 1)]; simp [h]
set_option maxHeartbeats 4000000 in
set_option maxRecDepth 10000 in
theorem pV (l : List Tree) (F : FuncId) (x : IV) (R : Tree → Bool) (hl : l.length < 1000000000)
    (hf : ∀ j (h : j < l.length), ACalls Try.prog F [.imm l[j].iv, .obj 1001 0] [(1001, .cells [.imm x])] (.imm (.lit (.bool (R l[j])))) [(1001, .cells [.imm x])]) :
    ACalls Try.prog 101 [.imm (.sl false l.length (Tree.ivs l)), .func F [] [.obj 1001 0]] [(1001, .cells [.imm x])] (.imm (.lit (.int .i64 (findP R l 0)))) [(1001, .cells [.imm x])] := by
  generalize hR : findP R l 0 = Q
  refine cJ [1001] Try.func101 rfl rfl (nb rfl) rfl rfl ?_
  repeat' (first | refine bM ?_ | (refine bP ?_; first | refine aX tabOk rfl rfl rfl (nb rfl) rfl ?_ | refine bF rfl rfl (nb rfl) ?_ | (refine bO rfl rfl rfl (nb rfl) rfl rfl rfl (fun hq => ?_) (fun hq => ?_) <;> (first | (simp only [sD, sE, sB, sC, sN, sM, sT, sF] at hq; try (exfalso; omega)) | skip)) | refine aE rfl rfl rfl (nb rfl) rfl rfl (by omega) ?_ | refine bI rfl rfl rfl (nb rfl) rfl rfl rfl (by omega) (by omega) ?_ | refine bJ rfl rfl rfl (nb rfl) rfl rfl rfl (by omega) (by omega) ?_ | refine bH tabOk rfl rfl rfl (nb rfl) rfl rfl rfl rfl rfl rfl rfl rfl rfl ?_ | refine aZ tabOk rfl rfl (nb rfl) rfl ?_ | refine aU tabOk rfl rfl rfl (nb rfl) rfl rfl rfl rfl rfl rfl ?_ | refine aV tabOk rfl rfl rfl (nb rfl) rfl rfl rfl rfl ?_ | refine aN tabOk rfl rfl rfl rfl rfl rfl rfl rfl rfl rfl rfl ?_ | refine aR tabOk rfl rfl rfl (nb rfl) rfl rfl rfl rfl (by first | assumption | omega) ?_ | refine aJ tabOk rfl rfl rfl (nb rfl) rfl rfl rfl rfl (by first | rfl | omega) (by first | omega | simp) ?_ | refine aC tabOk rfl rfl rfl (nb rfl) rfl rfl rfl (by assumption) ?_ | refine aC tabOk rfl rfl rfl (nb rfl) rfl rfl rfl (bS _ _ (by first | assumption | omega)) ?_ | refine aE rfl rfl rfl (nb rfl) rfl rfl (by omega) ?_ | ((fail_if_success (refine aG (b := true) rfl rfl rfl ?_)); (fail_if_success (refine aG (b := false) rfl rfl rfl ?_)); refine aW rfl rfl rfl (fun hq => ?_) (fun hq => ?_) <;> first | subst hq | (first | (simp only [sD, sE, sB, sC, sN, sM, sT, sF] at hq; try (exfalso; omega)) | skip)) | fail) | (refine bW ?_; first | refine bN ?_ | refine bT ?_ | refine aQ ?_ | refine bD ?_ | refine bU ?_ | refine bL ?_ | refine bK ?_ | refine aA (b := true) rfl (fun _ => ?_) nTf | refine aA (b := false) rfl nFt (fun _ => ?_) | refine bE ?_ | refine bC ?_ | refine bA mixed (by kernel_rfl) ?_ | refine aD mixed (by kernel_rfl) ?_ | (refine aA rfl (fun hq => ?_) (fun hq => ?_) <;> first | subst hq | (first | (simp only [sD, sE, sB, sC, sN, sM, sT, sF] at hq; try (exfalso; omega)) | skip)) | fail) | (refine bQ ?_; first | refine bZ ?_ | refine aK ?_ | refine aT ?_ | fail) | (refine bG ?_; first | refine bV ?_ | refine aH ?_ | refine aI (by decide) ?_ | refine aM ?_ | fail) | refine bR (bB (by kernel_rfl)) ?_ | fail)
  refine cH (ι := {j : Nat // j ≤ l.length ∧ findP R (l.drop j) j = Q}) (fun j => S.f ⟨[(8, .imm (.lit (.int .i64 (j.1 : Int)))), (7, .imm (.lit (.int .i64 (l.length : Int)))), (0, .imm (.sl false l.length (Tree.ivs l))), (1, .func F [] [.obj 1001 0])], [(1001, .cells [.imm x])]⟩) (fun j => l.length - j.1) ⟨0, Nat.zero_le _, hR⟩ (cF (by repeat' first | exact trivial | refine ⟨rfl, ?_⟩) (by repeat' first | exact trivial | refine ⟨rfl, ?_⟩)) ?_
  clear hR
  rintro ⟨j, hj, hR⟩
  dsimp only
  by_cases hlt : j < l.length
  · have hget := bS l j hlt
    have hc := hf j hlt
    rw [List.drop_eq_getElem_cons hlt, findP] at hR
    cases hRj : R l[j] with
    | true =>
      rw [hRj] at hc hR
      rw [if_pos rfl] at hR
      subst hR
      repeat' (first | refine bM ?_ | (refine bP ?_; first | refine aX tabOk rfl rfl rfl (nb rfl) rfl ?_ | refine bF rfl rfl (nb rfl) ?_ | (refine bO rfl rfl rfl (nb rfl) rfl rfl rfl (fun hq => ?_) (fun hq => ?_) <;> (first | (simp only [sD, sE, sB, sC, sN, sM, sT, sF] at hq; try (exfalso; omega)) | skip))| refine cL rfl rfl (nb rfl) rfl rfl rfl rfl hc (by repeat' first | exact trivial | refine ⟨rfl, ?_⟩) rfl (by show ([1001] : List Nat).Nodup; decide) ?_ | refine aE rfl rfl rfl (nb rfl) rfl rfl (by omega) ?_ | refine bI rfl rfl rfl (nb rfl) rfl rfl rfl (by omega) (by omega) ?_ | refine bJ rfl rfl rfl (nb rfl) rfl rfl rfl (by omega) (by omega) ?_ | refine bH tabOk rfl rfl rfl (nb rfl) rfl rfl rfl rfl rfl rfl rfl rfl rfl ?_ | refine aZ tabOk rfl rfl (nb rfl) rfl ?_ | refine aU tabOk rfl rfl rfl (nb rfl) rfl rfl rfl rfl rfl rfl ?_ | refine aV tabOk rfl rfl rfl (nb rfl) rfl rfl rfl rfl ?_ | refine aN tabOk rfl rfl rfl rfl rfl rfl rfl rfl rfl rfl rfl ?_ | refine aR tabOk rfl rfl rfl (nb rfl) rfl rfl rfl rfl (by first | assumption | omega) ?_ | refine aJ tabOk rfl rfl rfl (nb rfl) rfl rfl rfl rfl (by first | rfl | omega) (by first | omega | simp) ?_ | refine aC tabOk rfl rfl rfl (nb rfl) rfl rfl rfl (by assumption) ?_ | refine aC tabOk rfl rfl rfl (nb rfl) rfl rfl rfl (bS _ _ (by first | assumption | omega)) ?_ | refine aE rfl rfl rfl (nb rfl) rfl rfl (by omega) ?_ | ((fail_if_success (refine aG (b := true) rfl rfl rfl ?_)); (fail_if_success (refine aG (b := false) rfl rfl rfl ?_)); refine aW rfl rfl rfl (fun hq => ?_) (fun hq => ?_) <;> first | subst hq | (first | (simp only [sD, sE, sB, sC, sN, sM, sT, sF] at hq; try (exfalso; omega)) | skip)) | fail) | (refine bW ?_; first | refine bN ?_ | refine bT ?_ | refine aQ ?_ | refine bD ?_ | refine bU ?_ | refine bL ?_ | refine bK ?_ | refine aA (b := true) rfl (fun _ => ?_) nTf | refine aA (b := false) rfl nFt (fun _ => ?_) | refine bE ?_ | refine bC ?_ | refine bA mixed (by kernel_rfl) ?_ | refine aD mixed (by kernel_rfl) ?_ | (refine aA rfl (fun hq => ?_) (fun hq => ?_) <;> first | subst hq | (first | (simp only [sD, sE, sB, sC, sN, sM, sT, sF] at hq; try (exfalso; omega)) | skip)) | fail) | (refine bQ ?_; first | refine bZ ?_ | refine aK ?_ | refine aT ?_ | fail) | (refine bG ?_; first | refine bV ?_ | refine aH ?_ | refine aI (by decide) ?_ | refine aM ?_ | fail) | refine bR (bB (by kernel_rfl)) ?_ | fail)
      all_goals first
        | (exfalso; omega)
        | (refine cO (cM (by first | exact .inl rfl | exact .inr rfl) (cB rfl (aY rfl)) rfl (by repeat' first | exact trivial | refine ⟨rfl, ?_⟩) rfl ?_); rfl)
    | false =>
      rw [hRj] at hc hR
      rw [if_neg (by simp)] at hR
      repeat' (first | refine bM ?_ | (refine bP ?_; first | refine aX tabOk rfl rfl rfl (nb rfl) rfl ?_ | refine bF rfl rfl (nb rfl) ?_ | (refine bO rfl rfl rfl (nb rfl) rfl rfl rfl (fun hq => ?_) (fun hq => ?_) <;> (first | (simp only [sD, sE, sB, sC, sN, sM, sT, sF] at hq; try (exfalso; omega)) | skip))| refine cL rfl rfl (nb rfl) rfl rfl rfl rfl hc (by repeat' first | exact trivial | refine ⟨rfl, ?_⟩) rfl (by show ([1001] : List Nat).Nodup; decide) ?_ | refine aE rfl rfl rfl (nb rfl) rfl rfl (by omega) ?_ | refine bI rfl rfl rfl (nb rfl) rfl rfl rfl (by omega) (by omega) ?_ | refine bJ rfl rfl rfl (nb rfl) rfl rfl rfl (by omega) (by omega) ?_ | refine bH tabOk rfl rfl rfl (nb rfl) rfl rfl rfl rfl rfl rfl rfl rfl rfl ?_ | refine aZ tabOk rfl rfl (nb rfl) rfl ?_ | refine aU tabOk rfl rfl rfl (nb rfl) rfl rfl rfl rfl rfl rfl ?_ | refine aV tabOk rfl rfl rfl (nb rfl) rfl rfl rfl rfl ?_ | refine aN tabOk rfl rfl rfl rfl rfl rfl rfl rfl rfl rfl rfl ?_ | refine aR tabOk rfl rfl rfl (nb rfl) rfl rfl rfl rfl (by first | assumption | omega) ?_ | refine aJ tabOk rfl rfl rfl (nb rfl) rfl rfl rfl rfl (by first | rfl | omega) (by first | omega | simp) ?_ | refine aC tabOk rfl rfl rfl (nb rfl) rfl rfl rfl (by assumption) ?_ | refine aC tabOk rfl rfl rfl (nb rfl) rfl rfl rfl (bS _ _ (by first | assumption | omega)) ?_ | refine aE rfl rfl rfl (nb rfl) rfl rfl (by omega) ?_ | ((fail_if_success (refine aG (b := true) rfl rfl rfl ?_)); (fail_if_success (refine aG (b := false) rfl rfl rfl ?_)); refine aW rfl rfl rfl (fun hq => ?_) (fun hq => ?_) <;> first | subst hq | (first | (simp only [sD, sE, sB, sC, sN, sM, sT, sF] at hq; try (exfalso; omega)) | skip)) | fail) | (refine bW ?_; first | refine bN ?_ | refine bT ?_ | refine aQ ?_ | refine bD ?_ | refine bU ?_ | refine bL ?_ | refine bK ?_ | refine aA (b := true) rfl (fun _ => ?_) nTf | refine aA (b := false) rfl nFt (fun _ => ?_) | refine bE ?_ | refine bC ?_ | refine bA mixed (by kernel_rfl) ?_ | refine aD mixed (by kernel_rfl) ?_ | (refine aA rfl (fun hq => ?_) (fun hq => ?_) <;> first | subst hq | (first | (simp only [sD, sE, sB, sC, sN, sM, sT, sF] at hq; try (exfalso; omega)) | skip)) | fail) | (refine bQ ?_; first | refine bZ ?_ | refine aK ?_ | refine aT ?_ | fail) | (refine bG ?_; first | refine bV ?_ | refine aH ?_ | refine aI (by decide) ?_ | refine aM ?_ | fail) | refine bR (bB (by kernel_rfl)) ?_ | fail)
      all_goals first
        | (exfalso; omega)
        | exact ⟨⟨j + 1, hlt, hR⟩, (by show l.length - (j + 1) < l.length - j; omega), (cF (by repeat' first | exact trivial | refine ⟨rfl, ?_⟩) (by repeat' first | exact trivial | refine ⟨rfl, ?_⟩))⟩
  · have ej : j = l.length := by omega
    subst ej
    rw [List.drop_length, findP] at hR
    subst hR
    repeat' (first | refine bM ?_ | (refine bP ?_; first | refine aX tabOk rfl rfl rfl (nb rfl) rfl ?_ | refine bF rfl rfl (nb rfl) ?_ | (refine bO rfl rfl rfl (nb rfl) rfl rfl rfl (fun hq => ?_) (fun hq => ?_) <;> (first | (simp only [sD, sE, sB, sC, sN, sM, sT, sF] at hq; try (exfalso; omega)) | skip)) | refine aE rfl rfl rfl (nb rfl) rfl rfl (by omega) ?_ | refine bI rfl rfl rfl (nb rfl) rfl rfl rfl (by omega) (by omega) ?_ | refine bJ rfl rfl rfl (nb rfl) rfl rfl rfl (by omega) (by omega) ?_ | refine bH tabOk rfl rfl rfl (nb rfl) rfl rfl rfl rfl rfl rfl rfl rfl rfl ?_ | refine aZ tabOk rfl rfl (nb rfl) rfl ?_ | refine aU tabOk rfl rfl rfl (nb rfl) rfl rfl rfl rfl rfl rfl ?_ | refine aV tabOk rfl rfl rfl (nb rfl) rfl rfl rfl rfl ?_ | refine aN tabOk rfl rfl rfl rfl rfl rfl rfl rfl rfl rfl rfl ?_ | refine aR tabOk rfl rfl rfl (nb rfl) rfl rfl rfl rfl (by first | assumption | omega) ?_ | refine aJ tabOk rfl rfl rfl (nb rfl) rfl rfl rfl rfl (by first | rfl | omega) (by first | omega | simp) ?_ | refine aC tabOk rfl rfl rfl (nb rfl) rfl rfl rfl (by assumption) ?_ | refine aC tabOk rfl rfl rfl (nb rfl) rfl rfl rfl (bS _ _ (by first | assumption | omega)) ?_ | refine aE rfl rfl rfl (nb rfl) rfl rfl (by omega) ?_ | ((fail_if_success (refine aG (b := true) rfl rfl rfl ?_)); (fail_if_success (refine aG (b := false) rfl rfl rfl ?_)); refine aW rfl rfl rfl (fun hq => ?_) (fun hq => ?_) <;> first | subst hq | (first | (simp only [sD, sE, sB, sC, sN, sM, sT, sF] at hq; try (exfalso; omega)) | skip)) | fail) | (refine bW ?_; first | refine bN ?_ | refine bT ?_ | refine aQ ?_ | refine bD ?_ | refine bU ?_ | refine bL ?_ | refine bK ?_ | refine aA (b := true) rfl (fun _ => ?_) nTf | refine aA (b := false) rfl nFt (fun _ => ?_) | refine bE ?_ | refine bC ?_ | refine bA mixed (by kernel_rfl) ?_ | refine aD mixed (by kernel_rfl) ?_ | (refine aA rfl (fun hq => ?_) (fun hq => ?_) <;> first | subst hq | (first | (simp only [sD, sE, sB, sC, sN, sM, sT, sF] at hq; try (exfalso; omega)) | skip)) | fail) | (refine bQ ?_; first | refine bZ ?_ | refine aK ?_ | refine aT ?_ | fail) | (refine bG ?_; first | refine bV ?_ | refine aH ?_ | refine aI (by decide) ?_ | refine aM ?_ | fail) | refine bR (bB (by kernel_rfl)) ?_ | fail)
    all_goals first
      | (exfalso; omega)
      | (refine cO (cM (by first | exact .inl rfl | exact .inr rfl) (cB rfl (aY rfl)) rfl (by repeat' first | exact trivial | refine ⟨rfl, ?_⟩) rfl ?_); rfl)
set_option maxHeartbeats 4000000 in
set_option maxRecDepth 10000 in
theorem lK (l : List Tree) (F : FuncId) (x : IV) (R : Tree → Bool) (hl : l.length < 1000000000)
    (hf : ∀ j (h : j < l.length), ACalls Try.prog F [.imm l[j].iv, .obj 1001 0] [(1001, .cells [.imm x])] (.imm (.lit (.bool (R l[j])))) [(1001, .cells [.imm x])]) :
    ACalls Try.prog 72 [.imm (.sl false l.length (Tree.ivs l)), .func F [] [.obj 1001 0]] [(1001, .cells [.imm x])] (.imm (.lit (.bool (l.any R)))) [(1001, .cells [.imm x])] := by
  have hc := pV l F x R hl hf
  have ha := oQ R l 0
  generalize findP R l 0 = Q at *
  refine cJ [1001] Try.func72 rfl rfl (nb rfl) rfl rfl ?_
  repeat' (first | refine bM ?_ | (refine bP ?_; first | refine aX tabOk rfl rfl rfl (nb rfl) rfl ?_ | refine bF rfl rfl (nb rfl) ?_ | (refine bO rfl rfl rfl (nb rfl) rfl rfl rfl (fun hq => ?_) (fun hq => ?_) <;> (first | (simp only [sD, sE, sB, sC, sN, sM, sT, sF] at hq; try (exfalso; omega)) | skip))| refine cL rfl rfl (nb rfl) rfl rfl rfl rfl hc (by repeat' first | exact trivial | refine ⟨rfl, ?_⟩) rfl (by show ([1001] : List Nat).Nodup; decide) ?_ | refine aE rfl rfl rfl (nb rfl) rfl rfl (by omega) ?_ | refine bI rfl rfl rfl (nb rfl) rfl rfl rfl (by omega) (by omega) ?_ | refine bJ rfl rfl rfl (nb rfl) rfl rfl rfl (by omega) (by omega) ?_ | refine bH tabOk rfl rfl rfl (nb rfl) rfl rfl rfl rfl rfl rfl rfl rfl rfl ?_ | refine aZ tabOk rfl rfl (nb rfl) rfl ?_ | refine aU tabOk rfl rfl rfl (nb rfl) rfl rfl rfl rfl rfl rfl ?_ | refine aV tabOk rfl rfl rfl (nb rfl) rfl rfl rfl rfl ?_ | refine aN tabOk rfl rfl rfl rfl rfl rfl rfl rfl rfl rfl rfl ?_ | refine aR tabOk rfl rfl rfl (nb rfl) rfl rfl rfl rfl (by first | assumption | omega) ?_ | refine aJ tabOk rfl rfl rfl (nb rfl) rfl rfl rfl rfl (by first | rfl | omega) (by first | omega | simp) ?_ | refine aC tabOk rfl rfl rfl (nb rfl) rfl rfl rfl (by assumption) ?_ | refine aC tabOk rfl rfl rfl (nb rfl) rfl rfl rfl (bS _ _ (by first | assumption | omega)) ?_ | refine aE rfl rfl rfl (nb rfl) rfl rfl (by omega) ?_ | ((fail_if_success (refine aG (b := true) rfl rfl rfl ?_)); (fail_if_success (refine aG (b := false) rfl rfl rfl ?_)); refine aW rfl rfl rfl (fun hq => ?_) (fun hq => ?_) <;> first | subst hq | (first | (simp only [sD, sE, sB, sC, sN, sM, sT, sF] at hq; try (exfalso; omega)) | skip)) | fail) | (refine bW ?_; first | refine bN ?_ | refine bT ?_ | refine aQ ?_ | refine bD ?_ | refine bU ?_ | refine bL ?_ | refine bK ?_ | refine aA (b := true) rfl (fun _ => ?_) nTf | refine aA (b := false) rfl nFt (fun _ => ?_) | refine bE ?_ | refine bC ?_ | refine bA mixed (by kernel_rfl) ?_ | refine aD mixed (by kernel_rfl) ?_ | (refine aA rfl (fun hq => ?_) (fun hq => ?_) <;> first | subst hq | (first | (simp only [sD, sE, sB, sC, sN, sM, sT, sF] at hq; try (exfalso; omega)) | skip)) | fail) | (refine bQ ?_; first | refine bZ ?_ | refine aK ?_ | refine aT ?_ | fail) | (refine bG ?_; first | refine bV ?_ | refine aH ?_ | refine aI (by decide) ?_ | refine aM ?_ | fail) | refine bR (bB (by kernel_rfl)) ?_ | fail)
  all_goals
    (have e : l.any R = decide (Q ≥ 0) := by
       cases h : l.any R with
       | true => exact (decide_eq_true (ha.2 h)).symm
       | false => exact (decide_eq_false (fun hq => by rw [ha.1 hq] at h; cases h)).symm
     rw [e]
     refine cO (cM (by first | exact .inl rfl | exact .inr rfl) (cB rfl (aY rfl)) rfl (by repeat' first | exact trivial | refine ⟨rfl, ?_⟩) rfl ?_); refine cK ?_; first | exact (decide_eq_true (by assumption)).symm | exact (decide_eq_false (by assumption)).symm)
mutual
/-- Is a normal form ground, so many sums lying around? -/
def groundP : Tree → Int → Bool
  | .nil, _ => false
  | .node k n _ _ kids, s => if k = 111 ∨ k = 112 ∨ k = 113 then true else if k = 110 then decide (n < s) else if k = 115 then groundKs kids s else if k = 121 then groundKs kids (s + 1) else false
def groundKs : List Tree → Int → Bool
  | [], _ => true
  | t :: ts, s => groundK t s && groundKs ts s
def groundK : Tree → Int → Bool
  | .nil, _ => false
  | .node _ _ _ _ ks, s => ground1 ks s
def ground1 : List Tree → Int → Bool
  | [c], s => groundP c s
  | _, _ => false
end
theorem pW (l : List Tree) (s : Int) : groundKs l s = !l.any fun t => !groundK t s := by
  induction l with
  | nil => simp [groundKs]
  | cons t ts ih => simp [groundKs, ih]
set_option maxHeartbeats 8000000 in
set_option maxRecDepth 10000 in
theorem vZ (k n : Int) (a b : ByteArray) (c : Tree) (s : Int)
    (h : ACalls Try.prog 44 [.imm c.iv, .imm (.lit (.int .i64 s))] [] (.imm (.lit (.bool (groundP c s)))) []) :
    ACalls Try.prog 73 [.imm (Tree.iv (.node k n a b [c])), .obj 1001 0] [(1001, .cells [.imm (.lit (.int .i64 s))])] (.imm (.lit (.bool (!groundK (.node k n a b [c]) s)))) [(1001, .cells [.imm (.lit (.int .i64 s))])] := by
  have e : groundK (.node k n a b [c]) s = groundP c s := by rw [groundK, ground1]
  rw [e]
  generalize groundP c s = q at *
  refine cJ [1001] Try.func73 rfl rfl (nb rfl) rfl rfl ?_
  repeat' (first | refine bM ?_ | (refine bP ?_; first | refine aX tabOk rfl rfl rfl (nb rfl) rfl ?_ | refine bF rfl rfl (nb rfl) ?_ | (refine bO rfl rfl rfl (nb rfl) rfl rfl rfl (fun hq => ?_) (fun hq => ?_) <;> (first | (simp only [sD, sE, sB, sC, sN, sM, sT, sF] at hq; try (exfalso; omega)) | skip))| refine bX rfl rfl (nb rfl) rfl rfl rfl rfl (h) ?_ | refine aE rfl rfl rfl (nb rfl) rfl rfl (by omega) ?_ | refine bI rfl rfl rfl (nb rfl) rfl rfl rfl (by omega) (by omega) ?_ | refine bJ rfl rfl rfl (nb rfl) rfl rfl rfl (by omega) (by omega) ?_ | refine bH tabOk rfl rfl rfl (nb rfl) rfl rfl rfl rfl rfl rfl rfl rfl rfl ?_ | refine aZ tabOk rfl rfl (nb rfl) rfl ?_ | refine aU tabOk rfl rfl rfl (nb rfl) rfl rfl rfl rfl rfl rfl ?_ | refine aV tabOk rfl rfl rfl (nb rfl) rfl rfl rfl rfl ?_ | refine aN tabOk rfl rfl rfl rfl rfl rfl rfl rfl rfl rfl rfl ?_ | refine aR tabOk rfl rfl rfl (nb rfl) rfl rfl rfl rfl (by first | assumption | omega) ?_ | refine aJ tabOk rfl rfl rfl (nb rfl) rfl rfl rfl rfl (by first | rfl | omega) (by first | omega | simp) ?_ | refine aC tabOk rfl rfl rfl (nb rfl) rfl rfl rfl (by assumption) ?_ | refine aC tabOk rfl rfl rfl (nb rfl) rfl rfl rfl (bS _ _ (by first | assumption | omega)) ?_ | refine aE rfl rfl rfl (nb rfl) rfl rfl (by omega) ?_ | ((fail_if_success (refine aG (b := true) rfl rfl rfl ?_)); (fail_if_success (refine aG (b := false) rfl rfl rfl ?_)); refine aW rfl rfl rfl (fun hq => ?_) (fun hq => ?_) <;> first | subst hq | (first | (simp only [sD, sE, sB, sC, sN, sM, sT, sF] at hq; try (exfalso; omega)) | skip)) | fail) | (refine bW ?_; first | refine bN ?_ | refine bT ?_ | refine aQ ?_ | refine bD ?_ | refine bU ?_ | refine bL ?_ | refine bK ?_ | refine aA (b := true) rfl (fun _ => ?_) nTf | refine aA (b := false) rfl nFt (fun _ => ?_) | refine bE ?_ | refine bC ?_ | refine bA mixed (by kernel_rfl) ?_ | refine aD mixed (by kernel_rfl) ?_ | (refine aA rfl (fun hq => ?_) (fun hq => ?_) <;> first | subst hq | (first | (simp only [sD, sE, sB, sC, sN, sM, sT, sF] at hq; try (exfalso; omega)) | skip)) | fail) | (refine bQ ?_; first | refine bZ ?_ | refine aK ?_ | refine aT ?_ | fail) | (refine bG ?_; first | refine bV ?_ | refine aH ?_ | refine aI (by decide) ?_ | refine aM ?_ | fail) | refine bR (bB (by kernel_rfl)) ?_ | fail)
  all_goals (refine cO (cM (by first | exact .inl rfl | exact .inr rfl) (cB rfl (aY rfl)) rfl (by repeat' first | exact trivial | refine ⟨rfl, ?_⟩) rfl ?_); rfl)
set_option maxHeartbeats 8000000 in
set_option maxRecDepth 10000 in
theorem wA (k n : Int) (a b : ByteArray) (kids : List Tree) (s : Int) (hl : kids.length < 1000000000)
    (h : ∀ j (h : j < kids.length), ACalls Try.prog 73 [.imm kids[j].iv, .obj 1001 0] [(1001, .cells [.imm (.lit (.int .i64 s))])] (.imm (.lit (.bool (!groundK kids[j] s)))) [(1001, .cells [.imm (.lit (.int .i64 s))])]) :
    ACalls Try.prog 71 [.imm (.lit (.int .i64 s)), .obj 1000 0] [(1000, .cells [.imm (Tree.iv (.node k n a b kids))])] (.imm (.lit (.bool (groundKs kids s)))) [(1000, .cells [.imm (Tree.iv (.node k n a b kids))])] := by
  have hc := lK kids 73 (.lit (.int .i64 s)) (fun t => !groundK t s) hl h
  have e := pW kids s
  generalize groundKs kids s = q at *
  refine cJ [1000] Try.func71 rfl rfl (nb rfl) rfl rfl ?_
  repeat' (first | refine bM ?_ | (refine bP ?_; first | refine aX tabOk rfl rfl rfl (nb rfl) rfl ?_ | refine bF rfl rfl (nb rfl) ?_ | (refine bO rfl rfl rfl (nb rfl) rfl rfl rfl (fun hq => ?_) (fun hq => ?_) <;> (first | (simp only [sD, sE, sB, sC, sN, sM, sT, sF] at hq; try (exfalso; omega)) | skip))| refine cR 1001 (d := 2) rfl rfl rfl (nb rfl) rfl rfl rfl rfl rfl rfl rfl ?_ | refine cL rfl rfl (nb rfl) rfl rfl rfl rfl hc (by repeat' first | exact trivial | refine ⟨rfl, ?_⟩) rfl (by show ([1001] : List Nat).Nodup; decide) ?_ | refine aE rfl rfl rfl (nb rfl) rfl rfl (by omega) ?_ | refine bI rfl rfl rfl (nb rfl) rfl rfl rfl (by omega) (by omega) ?_ | refine bJ rfl rfl rfl (nb rfl) rfl rfl rfl (by omega) (by omega) ?_ | refine bH tabOk rfl rfl rfl (nb rfl) rfl rfl rfl rfl rfl rfl rfl rfl rfl ?_ | refine aZ tabOk rfl rfl (nb rfl) rfl ?_ | refine aU tabOk rfl rfl rfl (nb rfl) rfl rfl rfl rfl rfl rfl ?_ | refine aV tabOk rfl rfl rfl (nb rfl) rfl rfl rfl rfl ?_ | refine aN tabOk rfl rfl rfl rfl rfl rfl rfl rfl rfl rfl rfl ?_ | refine aR tabOk rfl rfl rfl (nb rfl) rfl rfl rfl rfl (by first | assumption | omega) ?_ | refine aJ tabOk rfl rfl rfl (nb rfl) rfl rfl rfl rfl (by first | rfl | omega) (by first | omega | simp) ?_ | refine aC tabOk rfl rfl rfl (nb rfl) rfl rfl rfl (by assumption) ?_ | refine aC tabOk rfl rfl rfl (nb rfl) rfl rfl rfl (bS _ _ (by first | assumption | omega)) ?_ | refine aE rfl rfl rfl (nb rfl) rfl rfl (by omega) ?_ | ((fail_if_success (refine aG (b := true) rfl rfl rfl ?_)); (fail_if_success (refine aG (b := false) rfl rfl rfl ?_)); refine aW rfl rfl rfl (fun hq => ?_) (fun hq => ?_) <;> first | subst hq | (first | (simp only [sD, sE, sB, sC, sN, sM, sT, sF] at hq; try (exfalso; omega)) | skip)) | fail) | (refine bW ?_; first | refine bN ?_ | refine bT ?_ | refine aQ ?_ | refine bD ?_ | refine bU ?_ | refine bL ?_ | refine bK ?_ | refine aA (b := true) rfl (fun _ => ?_) nTf | refine aA (b := false) rfl nFt (fun _ => ?_) | refine bE ?_ | refine bC ?_ | refine bA mixed (by kernel_rfl) ?_ | refine aD mixed (by kernel_rfl) ?_ | (refine aA rfl (fun hq => ?_) (fun hq => ?_) <;> first | subst hq | (first | (simp only [sD, sE, sB, sC, sN, sM, sT, sF] at hq; try (exfalso; omega)) | skip)) | fail) | (refine bQ ?_; first | refine bZ ?_ | refine aK ?_ | refine aT ?_ | fail) | (refine bG ?_; first | refine bV ?_ | refine aH ?_ | refine aI (by decide) ?_ | refine aM ?_ | fail) | refine bR (bB (by kernel_rfl)) ?_ | fail)
  all_goals (rw [e]; refine cO (cM (by first | exact .inl rfl | exact .inr rfl) (cB rfl (aY rfl)) rfl (by repeat' first | exact trivial | refine ⟨rfl, ?_⟩) rfl ?_); rfl)
set_option maxHeartbeats 8000000 in
set_option maxRecDepth 10000 in
theorem xU (t : Tree) : isConP t = true → t.whole = true → ∀ s : Int, 0 ≤ s → s + t.size ≤ 1000000 → ACalls Try.prog 44 [.imm t.iv, .imm (.lit (.int .i64 s))] [] (.imm (.lit (.bool (groundP t s)))) [] := by
  induction t using Tree.sind with
  | h t ih =>
    intro hf hw s hs0 hs
    obtain ⟨k, n, a, b, kids, rfl⟩ := cZ hw
    have hl : kids.length < 1000000000 := by have := cI kids hw; simp only [Tree.size] at hs; omega
    have hE : ∀ kind : Int, namedPs kids kind = true → ∀ s : Int, 0 ≤ s → s + (Tree.node k n a b kids).size ≤ 1000001 → ACalls Try.prog 71 [.imm (.lit (.int .i64 s)), .obj 1000 0] [(1000, .cells [.imm (Tree.iv (.node k n a b kids))])] (.imm (.lit (.bool (groundKs kids s)))) [(1000, .cells [.imm (Tree.iv (.node k n a b kids))])] := by
      intro kind hn s hs0 hs
      refine wA k n a b kids s hl fun j h => ?_
      have hm := List.getElem_mem h
      rw [dC] at hn
      have hj := List.all_eq_true.1 hn _ hm
      have hz := cG (k := k) (n := n) (a := a) (b := b) hm
      have hwj := cD hw hm
      generalize kids[j] = u at *
      cases u with
      | nil => simp [okNamed] at hj
      | node k' n' a' b' ks =>
        simp only [okNamed, Bool.and_eq_true] at hj
        by_cases h1 : ks.length = 1
        · obtain ⟨c, rfl⟩ := one_of h1
          have hz2 := cG (k := k') (n := n') (a := a') (b := b') (kids := [c]) (t := c) (by simp)
          exact vZ k' n' a' b' c s (ih c (by omega) (by simpa [isCon1] using hj.2) (cD hwj (by simp)) s hs0 (by omega))
        · rw [fA h1] at hj; cases hj.2
    have hE115 : k = 115 → ACalls Try.prog 71 [.imm (.lit (.int .i64 s)), .obj 1000 0] [(1000, .cells [.imm (Tree.iv (.node k n a b kids))])] (.imm (.lit (.bool (groundKs kids s)))) [(1000, .cells [.imm (Tree.iv (.node k n a b kids))])] := fun e => by
      subst e
      rw [isConP, Bool.and_eq_true] at hf
      have h := hf.2
      rw [if_neg (by decide), if_neg (by decide), if_neg (by decide), if_pos rfl, Bool.and_eq_true] at h
      exact hE 116 h.1 s hs0 (by omega)
    have hE121 : k = 121 → ACalls Try.prog 71 [.imm (.lit (.int .i64 (s + 1))), .obj 1000 0] [(1000, .cells [.imm (Tree.iv (.node k n a b kids))])] (.imm (.lit (.bool (groundKs kids (s + 1))))) [(1000, .cells [.imm (Tree.iv (.node k n a b kids))])] := fun e => by
      subst e
      rw [isConP, Bool.and_eq_true] at hf
      have h := hf.2
      rw [if_neg (by decide), if_neg (by decide), if_neg (by decide), if_neg (by decide), if_neg (by decide), if_pos rfl, Bool.and_eq_true, Bool.and_eq_true] at h
      exact hE 122 h.1.2 (s + 1) (by omega) (by omega)
    clear hE ih
    obtain ⟨q, hq0⟩ : ∃ q, groundP (.node k n a b kids) s = q := ⟨_, rfl⟩
    rw [hq0]
    rw [groundP] at hq0
    generalize groundKs kids s = g1 at *
    generalize groundKs kids (s + 1) = g2 at *
    have hsz : (Tree.node k n a b kids).size = 1 + Tree.sizes kids := by rw [Tree.size]
    refine bY Try.func44 rfl rfl (nb rfl) rfl ?_
    repeat' (first | refine bM ?_ | (refine bP ?_; first | refine aX tabOk rfl rfl rfl (nb rfl) rfl ?_ | refine bF rfl rfl (nb rfl) ?_ | (refine bO rfl rfl rfl (nb rfl) rfl rfl rfl (fun hq => ?_) (fun hq => ?_) <;> (first | (simp only [sD, sE, sB, sC, sN, sM, sT, sF] at hq; try (exfalso; omega)) | skip))| refine cR 1000 (d := 2) rfl rfl rfl (nb rfl) rfl rfl rfl rfl rfl rfl rfl ?_ | refine bI (z := s + 1) rfl rfl rfl (nb rfl) rfl rfl rfl (by omega) (by omega) ?_ | refine cL rfl rfl (nb rfl) rfl rfl rfl rfl (hE115 (by assumption)) (by repeat' first | exact trivial | refine ⟨rfl, ?_⟩) rfl (by show ([1000] : List Nat).Nodup; decide) ?_ | refine cL rfl rfl (nb rfl) rfl rfl rfl rfl (hE121 (by assumption)) (by repeat' first | exact trivial | refine ⟨rfl, ?_⟩) rfl (by show ([1000] : List Nat).Nodup; decide) ?_ | refine aE rfl rfl rfl (nb rfl) rfl rfl (by omega) ?_ | refine bI rfl rfl rfl (nb rfl) rfl rfl rfl (by omega) (by omega) ?_ | refine bJ rfl rfl rfl (nb rfl) rfl rfl rfl (by omega) (by omega) ?_ | refine bH tabOk rfl rfl rfl (nb rfl) rfl rfl rfl rfl rfl rfl rfl rfl rfl ?_ | refine aZ tabOk rfl rfl (nb rfl) rfl ?_ | refine aU tabOk rfl rfl rfl (nb rfl) rfl rfl rfl rfl rfl rfl ?_ | refine aV tabOk rfl rfl rfl (nb rfl) rfl rfl rfl rfl ?_ | refine aN tabOk rfl rfl rfl rfl rfl rfl rfl rfl rfl rfl rfl ?_ | refine aR tabOk rfl rfl rfl (nb rfl) rfl rfl rfl rfl (by first | assumption | omega) ?_ | refine aJ tabOk rfl rfl rfl (nb rfl) rfl rfl rfl rfl (by first | rfl | omega) (by first | omega | simp) ?_ | refine aC tabOk rfl rfl rfl (nb rfl) rfl rfl rfl (by assumption) ?_ | refine aC tabOk rfl rfl rfl (nb rfl) rfl rfl rfl (bS _ _ (by first | assumption | omega)) ?_ | refine aE rfl rfl rfl (nb rfl) rfl rfl (by omega) ?_ | ((fail_if_success (refine aG (b := true) rfl rfl rfl ?_)); (fail_if_success (refine aG (b := false) rfl rfl rfl ?_)); refine aW rfl rfl rfl (fun hq => ?_) (fun hq => ?_) <;> first | subst hq | (first | (simp only [sD, sE, sB, sC, sN, sM, sT, sF] at hq; try (exfalso; omega)) | skip)) | fail) | (refine bW ?_; first | refine bN ?_ | refine bT ?_ | refine aQ ?_ | refine bD ?_ | refine bU ?_ | refine bL ?_ | refine bK ?_ | refine aA (b := true) rfl (fun _ => ?_) nTf | refine aA (b := false) rfl nFt (fun _ => ?_) | refine bE ?_ | refine bC ?_ | refine bA mixed (by kernel_rfl) ?_ | refine aD mixed (by kernel_rfl) ?_ | (refine aA rfl (fun hq => ?_) (fun hq => ?_) <;> first | subst hq | (first | (simp only [sD, sE, sB, sC, sN, sM, sT, sF] at hq; try (exfalso; omega)) | skip)) | fail) | (refine bQ ?_; first | refine bZ ?_ | refine aK ?_ | refine aT ?_ | fail) | (refine bG ?_; first | refine bV ?_ | refine aH ?_ | refine aI (by decide) ?_ | refine aM ?_ | fail) | refine bR (bB (by kernel_rfl)) ?_ | fail)
    all_goals (refine cA (by first | exact .inl rfl | exact .inr rfl) (cB rfl (aY rfl)) rfl ?_; refine cK ?_; subst hq0; simp_all)
end Go.Proofs.Ytlbemgokilhdnaa.Ab
namespace Go.Proofs.Ytlbemgokilhdnaa.RP
set_option linter.unusedVariables false
set_option linter.unusedSimpArgs false
open Go.RowKit Go.Lib Go.Proofs.YtlbemgokilhdnaaW.PrintWords Go.Proofs.YtlbemgokilhdnaaW.PrintLast Go.Proofs.YtlbemgokilhdnaaW.PrintMore Go.Proofs.Ytlbemgokilhdnaa.PAll
theorem w64 {x : Int} (h0 : -9223372036854775808 ≤ x) (h1 : x ≤ 9223372036854775807) : wrap64 x = x := by unfold wrap64; omega
theorem w64s (a : Nat) (h : a ≤ 9000000) : wrap64 ((a : Int) + 1) = ((a + 1 : Nat) : Int) := by rw [w64] <;> omega
theorem zL (a b : ByteArray) : (a ++ b).data.toList = a.data.toList ++ b.data.toList := by simp
theorem gP (a : ByteArray) : a.data.toList.length = a.size := Array.length_toList
theorem cN (a b : ByteArray) : (a ++ b).size = a.size + b.size := by rw [← gP, zL, List.length_append, gP, gP]
theorem xV (A M B : List Int) (a b : Int) :
    (((A ++ (a :: (M ++ [b])) ++ B).set A.length b).set (A.length + M.length + 1) a) = (A ++ [b]) ++ M ++ (a :: B) := by
  rw [List.append_assoc, List.set_append_right _ _ (Nat.le_refl _), Nat.sub_self]
  rw [List.set_append_right _ _ (by omega)]
  have e : A.length + M.length + 1 - A.length = M.length + 1 := by omega
  rw [e]
  simp only [List.cons_append, List.set_cons_zero, List.set_cons_succ, List.append_assoc, List.nil_append, List.singleton_append]
  rw [List.set_append_right _ _ (Nat.le_refl _), Nat.sub_self]
  simp
theorem aAj : ∀ (d : Nat) (A M B : List Int) (k : Nat), A.length = B.length → M.length ≤ d → d + 1 ≤ k → A.length + M.length ≤ 1000000 →
    slices_Reverse_byte_byte.l0 k (A ++ M ++ B) (A.length : Int) (((A.length : Int) + (M.length : Int)) - 1) = some (A ++ M.reverse ++ B) := by
  intro d
  induction d with
  | zero =>
    intro A M B k h h1 h2 h3
    obtain ⟨k, rfl⟩ : ∃ m, k = m + 1 := ⟨k - 1, by omega⟩
    have e : M = [] := List.eq_nil_of_length_eq_zero (by omega)
    subst e
    simp only [slices_Reverse_byte_byte.l0]
    rw [if_neg (by simp; omega)]
    rfl
  | succ d ih =>
    intro A M B k h h1 h2 h3
    obtain ⟨k, rfl⟩ : ∃ m, k = m + 1 := ⟨k - 1, by omega⟩
    simp only [slices_Reverse_byte_byte.l0]
    cases M with
    | nil => rw [if_neg (by simp; omega)]; rfl
    | cons a T =>
      rcases List.eq_nil_or_concat T with rfl | ⟨M, b, rfl⟩
      · rw [if_neg (by simp)]; rfl
      · simp only [List.length_cons, List.length_append, List.length_nil, List.concat_eq_append] at h1 h3 ⊢
        have e1 : ((A.length : Int) + ((M.length + (0 + 1) + 1 : Nat) : Int) - 1) = ((A.length + M.length + 1 : Nat) : Int) := by omega
        rw [e1, if_pos (by omega), if_pos (by omega), if_pos (by omega), if_pos (by omega), if_pos (by omega)]
        have r1 : rd (A ++ a :: (M ++ [b]) ++ B) ((A.length + M.length + 1 : Nat) : Int) = b := by
          unfold rd
          rw [Int.toNat_natCast, List.append_assoc, List.getD_eq_getElem?_getD, List.getElem?_append_right (by omega)]
          have e : A.length + M.length + 1 - A.length = M.length + 1 := by omega
          rw [e]
          simp
        have r2 : rd (A ++ a :: (M ++ [b]) ++ B) (A.length : Int) = a := by
          unfold rd
          rw [Int.toNat_natCast, List.append_assoc, List.getD_eq_getElem?_getD, List.getElem?_append_right (by omega), Nat.sub_self]
          simp
        rw [r1, r2, Int.toNat_natCast, Int.toNat_natCast, xV, w64s _ (by omega)]
        have e2 : wrap64 (((A.length + M.length + 1 : Nat) : Int) - 1) = ((A ++ [b]).length : Int) + (M.length : Int) - 1 := by
          rw [w64 (by omega) (by omega), List.length_append]; simp; omega
        have e3 : ((A.length + 1 : Nat) : Int) = ((A ++ [b]).length : Int) := by rw [List.length_append]; simp
        rw [e2, e3, ih (A ++ [b]) M (a :: B) k (by simp [h]) (by omega) (by omega) (by simp; omega)]
        simp
theorem aAk (l : List Int) (k : Nat) (hk : l.length + 1 ≤ k) (hl : l.length ≤ 1000000) : slices_Reverse_byte_byte.f k l = some l.reverse := by
  unfold slices_Reverse_byte_byte.f
  have h := aAj l.length [] l [] k rfl (Nat.le_refl _) hk (by simpa using hl)
  rw [w64 (by omega) (by omega)]
  simp only [List.nil_append, List.append_nil, List.length_nil] at h
  have e : (((0 : Nat) : Int) + (l.length : Int) - 1) = (l.length : Int) - 1 := by omega
  rw [e] at h
  exact h
/-- The digits of a number, the last one first. -/
def digL : Nat → Nat → List Int
  | 0, _ => []
  | f + 1, m => (48 + ((m % 10 : Nat) : Int)) :: if m / 10 = 0 then [] else digL f (m / 10)
theorem rG : ∀ f m, (digL f m).length ≤ f
  | 0, _ => Nat.le_refl _
  | f + 1, m => by
    unfold digL
    by_cases h : m / 10 = 0
    · rw [if_pos h]; simp
    · rw [if_neg h]; have := rG f (m / 10); simp; omega
def signP (n : Int) : ByteArray := if n < 0 then ⟨#[126]⟩ else ⟨#[]⟩
def numP (n : Int) : ByteArray := signP n ++ strOfNums (digL 20 n.natAbs).reverse
theorem xW {n : Int} (h0 : 0 ≤ n) (h1 : n < 18446744073709551616) : IntKind.u64.wrap n = n := by rw [IntKind.wrap_u64]; omega
theorem oR (sg : ByteArray) (hsg : sg.size ≤ 1) : ∀ (f m : Nat) (acc : List Int) (k : Nat), m < 10 ^ f → 1 ≤ f → f ≤ 20 → acc.length + f ≤ 100 → f + 110 ≤ k → m < 18446744073709551616 →
    lexer_Number.l0 k (m : Int) sg acc true = some (sg ++ strOfNums (acc ++ digL f m).reverse) := by
  intro f
  induction f with
  | zero => intro m acc k _ h; omega
  | succ f ih =>
    intro m acc k h1 h2 h2' h3 hk hm
    obtain ⟨k, rfl⟩ : ∃ j, k = j + 1 := ⟨k - 1, by omega⟩
    have ed : Int.tdiv (m : Int) 10 = ((m / 10 : Nat) : Int) := by
      rw [Int.tdiv_eq_ediv_of_nonneg (by omega)]; omega
    have em : Int.tmod (m : Int) 10 = ((m % 10 : Nat) : Int) := by
      rw [Int.tmod_eq_emod_of_nonneg (by omega)]; omega
    simp only [lexer_Number.l0]
    rw [if_pos trivial, if_pos (by omega), ed, em, xW (by omega) (by omega), xW (by omega) (by omega)]
    have e2 : (48 + ((m % 10 : Nat) : Int)) % 256 = 48 + ((m % 10 : Nat) : Int) := by omega
    rw [e2]
    by_cases h : m / 10 = 0
    · rw [h]
      obtain ⟨k, rfl⟩ : ∃ j, k = j + 1 := ⟨k - 1, by omega⟩
      have e0 : decide (((0 : Nat) : Int) > 0) = false := rfl
      simp only [lexer_Number.l0, e0]
      rw [if_neg (by simp), aAk _ k (by simp; omega) (by simp; omega)]
      simp only [Option.bind_some]
      have e3 : digL (f + 1) m = [48 + ((m % 10 : Nat) : Int)] := by unfold digL; rw [if_pos h]
      rw [e3, if_pos]
      rw [strOfNums_size]
      simp
      omega
    · have e0 : decide (((m / 10 : Nat) : Int) > 0) = true := decide_eq_true (by omega)
      rw [e0]
      have hf : 1 ≤ f := by
        cases f with
        | zero => omega
        | succ f => omega
      rw [ih (m / 10) (acc ++ [48 + ((m % 10 : Nat) : Int)]) k (by rw [Nat.pow_succ] at h1; omega) hf (by omega) (by simp; omega) (by omega) (by omega)]
      have e3 : digL (f + 1) m = (48 + ((m % 10 : Nat) : Int)) :: digL f (m / 10) := by unfold digL; rw [if_neg h]; cases f <;> rfl
      rw [e3]
      simp
theorem wB (n : Int) (h0 : -9223372036854775808 ≤ n) (h1 : n ≤ 9223372036854775807) : lexer_Number.f 200 n = some (numP n) := by
  unfold lexer_Number.f numP signP
  by_cases hn : n < 0
  · rw [if_pos hn, if_pos hn]
    have e : IntKind.u64.wrap (-(IntKind.u64.wrap n)) = ((n.natAbs : Nat) : Int) := by
      rw [IntKind.wrap_u64, IntKind.wrap_u64]; omega
    rw [e]
    simp only [lexer_Number.j0]
    rw [oR _ (by decide) 20 n.natAbs [] _ (Nat.lt_of_lt_of_le (show n.natAbs < 100000000000000000000 by omega) (by decide)) (by omega) (by omega) (by simp) (by omega) (by omega)]
    rfl
  · rw [if_neg hn, if_neg hn]
    have e : IntKind.u64.wrap n = ((n.natAbs : Nat) : Int) := by rw [IntKind.wrap_u64]; omega
    rw [e]
    simp only [lexer_Number.j0]
    rw [oR _ (by decide) 20 n.natAbs [] _ (Nat.lt_of_lt_of_le (show n.natAbs < 100000000000000000000 by omega) (by decide)) (by omega) (by omega) (by simp) (by omega) (by omega)]
    rfl
theorem wC (n : Int) : (numP n).size ≤ 21 := by
  unfold numP signP
  rw [cN, strOfNums_size, List.length_reverse]
  have := rG 20 n.natAbs
  split
  · have e : (⟨#[126]⟩ : ByteArray).size = 1 := rfl
    omega
  · have e : (⟨#[]⟩ : ByteArray).size = 0 := rfl
    omega
end Go.Proofs.Ytlbemgokilhdnaa.RP
namespace Go.Proofs.Ytlbemgokilhdnaa.Ab
set_option linter.unusedVariables false
set_option linter.unusedSimpArgs false
open Go.RowKit Go.Lib Go.Proofs.YtlbemgokilhdnaaW.PrintWords Go.Proofs.YtlbemgokilhdnaaW.PrintLast Go.Proofs.YtlbemgokilhdnaaW.PrintMore Go.Proofs.Ytlbemgokilhdnaa.RP Go.Proofs.Ytlbemgokilhdnaa.PAll
theorem rH {P : Program} {f : FuncId} {l : List Value} {r : Value} (he : Enters P f) (h1 : r.oneCell' = true)
    (h : ∀ w M, Amb w M → Calls P f l.toArray w fun e w' => e = .returned r ∧ Below w.heap.size w w') : ACalls P f (l.map fun v => .imm (.lit v)) [] (.imm (.lit r)) [] := by
  have := oK (P := P) (f := f) (args := l.map .lit) (r := .lit r) he (fun w M vs ha hv => by
    rw [gH hv]
    exact (h w M ha).mono fun e w' ⟨h2, h3⟩ => ⟨r, h2, h3, jJ h1⟩)
  rw [List.map_map] at this
  exact this
theorem xX (n : Int) (h0 : -9223372036854775808 ≤ n) (h1 : n ≤ 9223372036854775807) : ACalls Try.prog 58 [.imm (.lit (.int .i64 n))] [] (.imm (.lit (.string (numP n)))) [] :=
  rH (l := [.int .i64 n]) ⟨_, Try.func58, rfl, rfl⟩ rfl (fun w M ha => lexer_Number.calls 200 n _ w (wB n h0 h1))
/-- Texts, one behind the other, a separator between. -/
def joinS (sep : ByteArray) (l : List ByteArray) : ByteArray := ⟨(Lib.join (l.map (·.data.toList)) sep.data.toList).toArray⟩
theorem tP (sep : ByteArray) : ∀ (l : List ByteArray), (joinS sep l).size ≤ (l.map fun s => s.size + sep.size).sum := by
  have key : ∀ l : List (List UInt8), (Lib.join l sep.data.toList).length ≤ (l.map fun s => s.length + sep.size).sum := by
    intro l
    induction l with
    | nil => simp [Lib.join, List.intercalate]
    | cons x l ih =>
      cases l with
      | nil => simp [Lib.join, List.intercalate]
      | cons y l =>
        have h1 : Lib.join (x :: y :: l) sep.data.toList = x ++ (sep.data.toList ++ Lib.join (y :: l) sep.data.toList) := by
          simp [Lib.join, List.intercalate]
        rw [h1, List.length_append, List.length_append, gP, List.map_cons, List.sum_cons]
        omega
  intro l
  have h := key (l.map (·.data.toList))
  rw [List.map_map] at h
  have e : ((fun s : List UInt8 => s.length + sep.size) ∘ fun s : ByteArray => s.data.toList) = fun s : ByteArray => s.size + sep.size := by
    funext s
    show s.data.toList.length + sep.size = _
    rw [gP]
  rw [e] at h
  have e2 : (joinS sep l).size = (Lib.join (l.map (·.data.toList)) sep.data.toList).length := by rw [← gP]; rfl
  rw [e2]
  exact h
theorem zM (f : Bool) (l : List ByteArray) (sep : ByteArray) (hl : l.length ≤ 1000000) (hs : (joinS sep l).size ≤ 140737488355328) : ACalls Try.prog 59 [.imm (.sl f l.length (strs l)), .imm (.lit (.string sep))] [] (.imm (.lit (.string (joinS sep l)))) [] :=
  oK (args := [.sl f l.length (strs l), .lit (.string sep)]) (r := .lit (.string (joinS sep l))) ⟨_, Try.func59, rfl, rfl⟩ (fun w M vs ha hv => by
    obtain ⟨v, us, rfl, h1, h2⟩ := kF hv
    obtain ⟨v2, us, rfl, h3, h4⟩ := kF h2
    rw [uU h3, qX h4]
    obtain ⟨a, cap, rfl, hc, hn, h⟩ := xN h1
    have hj : (Lib.join (l.map (·.data.toList)) sep.data.toList).length ≤ 140737488355328 := by
      have e2 : (joinS sep l).size = (Lib.join (l.map (·.data.toList)) sep.data.toList).length := by rw [← gP]; rfl
      rw [← e2]; exact hs
    rcases h with rfl | ⟨b, o, rfl, hb, hcells⟩
    · refine (Try.strings_Join_none a cap sep w).mono fun e w' ⟨he, hw⟩ => ⟨_, he, ?_, ?_⟩
      · rw [hw]; exact Below.refl _ _
      · exact jJ rfl
    · refine (Try.strings_Join b o cap l sep w hcells hb (by omega) hc hj).mono fun e w' ⟨he, hw⟩ => ⟨_, he, hw, ?_⟩
      exact jJ rfl)
theorem wD (l : List ByteArray) (x : ByteArray) : strs (l ++ [x]) = strs l ++ [.lit (.string x)] := by simp [strs]
end Go.Proofs.Ytlbemgokilhdnaa.Ab
namespace Go.Proofs.Ytlbemgokilhdnaa.Ab
set_option linter.unusedVariables false
set_option linter.unusedSimpArgs false
attribute [local irreducible] AWP AOps AExit AThen ABlock ANoGoto FeetOk
set_option maxRecDepth 10000 in
theorem mP (s : ByteArray) : ACalls Try.prog 85 [.imm (.lit (.string s))] [] (.imm (.lit (.bool (labelP s)))) [] := by
  refine bY Try.func85 rfl rfl (nb rfl) rfl ?_
  repeat' (first | refine bM ?_ | (refine bP ?_; first | refine aX tabOk rfl rfl rfl (nb rfl) rfl ?_ | refine bF rfl rfl (nb rfl) ?_ | (refine bO rfl rfl rfl (nb rfl) rfl rfl rfl (fun hq => ?_) (fun hq => ?_) <;> (first | (simp only [sD, sE, sB, sC, sN, sM, sT, sF] at hq; try (exfalso; omega)) | skip)) | refine aE rfl rfl rfl (nb rfl) rfl rfl (by omega) ?_ | refine bI rfl rfl rfl (nb rfl) rfl rfl rfl (by omega) (by omega) ?_ | refine bJ rfl rfl rfl (nb rfl) rfl rfl rfl (by omega) (by omega) ?_ | refine bH tabOk rfl rfl rfl (nb rfl) rfl rfl rfl rfl rfl rfl rfl rfl rfl ?_ | refine aZ tabOk rfl rfl (nb rfl) rfl ?_ | refine aU tabOk rfl rfl rfl (nb rfl) rfl rfl rfl rfl rfl rfl ?_ | refine aV tabOk rfl rfl rfl (nb rfl) rfl rfl rfl rfl ?_ | refine aN tabOk rfl rfl rfl rfl rfl rfl rfl rfl rfl rfl rfl ?_ | refine aR tabOk rfl rfl rfl (nb rfl) rfl rfl rfl rfl (by first | assumption | omega) ?_ | refine aJ tabOk rfl rfl rfl (nb rfl) rfl rfl rfl rfl (by first | rfl | omega) (by first | omega | simp) ?_ | refine aC tabOk rfl rfl rfl (nb rfl) rfl rfl rfl (by assumption) ?_ | refine aC tabOk rfl rfl rfl (nb rfl) rfl rfl rfl (bS _ _ (by first | assumption | omega)) ?_ | refine aE rfl rfl rfl (nb rfl) rfl rfl (by omega) ?_ | ((fail_if_success (refine aG (b := true) rfl rfl rfl ?_)); (fail_if_success (refine aG (b := false) rfl rfl rfl ?_)); refine aW rfl rfl rfl (fun hq => ?_) (fun hq => ?_) <;> first | subst hq | (first | (simp only [sD, sE, sB, sC, sN, sM, sT, sF] at hq; try (exfalso; omega)) | skip)) | fail) | (refine bW ?_; first | refine bN ?_ | refine bT ?_ | refine aQ ?_ | refine bD ?_ | refine bU ?_ | refine bL ?_ | refine bK ?_ | refine aA (b := true) rfl (fun _ => ?_) nTf | refine aA (b := false) rfl nFt (fun _ => ?_) | refine bE ?_ | refine bC ?_ | refine bA mixed (by kernel_rfl) ?_ | refine aD mixed (by kernel_rfl) ?_ | (refine aA rfl (fun hq => ?_) (fun hq => ?_) <;> first | subst hq | (first | (simp only [sD, sE, sB, sC, sN, sM, sT, sF] at hq; try (exfalso; omega)) | skip)) | fail) | (refine bQ ?_; first | refine bZ ?_ | refine aK ?_ | refine aT ?_ | fail) | (refine bG ?_; first | refine bV ?_ | refine aH ?_ | refine aI (by decide) ?_ | refine aM ?_ | fail) | refine bR (bB (by kernel_rfl)) ?_ | fail)
  all_goals (refine cA (by first | exact .inl rfl | exact .inr rfl) (cB rfl (aY rfl)) rfl ?_; refine cK ?_; simp_all [labelP] <;> omega)
def numberP (k n : Int) : Bool :=
  if k = 130 then decide (n ≥ 0) && decide (n ≤ 65536)
  else if k = 131 then decide (n ≥ -1073741824) && decide (n ≤ 1073741824)
  else if k = 132 then (n == 0) || (n == 1)
  else if k = 145 then decide (n ≥ 1) && decide (n ≤ 5)
  else n == 0
set_option maxHeartbeats 4000000 in
set_option maxRecDepth 10000 in
theorem tQ (k n : Int) (a b : ByteArray) (kids : List Tree) : ACalls Try.prog 86 [.imm (Tree.iv (.node k n a b kids))] [] (.imm (.lit (.bool (numberP k n)))) [] := by
  refine bY Try.func86 rfl rfl (nb rfl) rfl ?_
  repeat' (first | refine bM ?_ | (refine bP ?_; first | refine aX tabOk rfl rfl rfl (nb rfl) rfl ?_ | refine bF rfl rfl (nb rfl) ?_ | (refine bO rfl rfl rfl (nb rfl) rfl rfl rfl (fun hq => ?_) (fun hq => ?_) <;> (first | (simp only [sD, sE, sB, sC, sN, sM, sT, sF] at hq; try (exfalso; omega)) | skip)) | refine aE rfl rfl rfl (nb rfl) rfl rfl (by omega) ?_ | refine bI rfl rfl rfl (nb rfl) rfl rfl rfl (by omega) (by omega) ?_ | refine bJ rfl rfl rfl (nb rfl) rfl rfl rfl (by omega) (by omega) ?_ | refine bH tabOk rfl rfl rfl (nb rfl) rfl rfl rfl rfl rfl rfl rfl rfl rfl ?_ | refine aZ tabOk rfl rfl (nb rfl) rfl ?_ | refine aU tabOk rfl rfl rfl (nb rfl) rfl rfl rfl rfl rfl rfl ?_ | refine aV tabOk rfl rfl rfl (nb rfl) rfl rfl rfl rfl ?_ | refine aN tabOk rfl rfl rfl rfl rfl rfl rfl rfl rfl rfl rfl ?_ | refine aR tabOk rfl rfl rfl (nb rfl) rfl rfl rfl rfl (by first | assumption | omega) ?_ | refine aJ tabOk rfl rfl rfl (nb rfl) rfl rfl rfl rfl (by first | rfl | omega) (by first | omega | simp) ?_ | refine aC tabOk rfl rfl rfl (nb rfl) rfl rfl rfl (by assumption) ?_ | refine aC tabOk rfl rfl rfl (nb rfl) rfl rfl rfl (bS _ _ (by first | assumption | omega)) ?_ | refine aE rfl rfl rfl (nb rfl) rfl rfl (by omega) ?_ | ((fail_if_success (refine aG (b := true) rfl rfl rfl ?_)); (fail_if_success (refine aG (b := false) rfl rfl rfl ?_)); refine aW rfl rfl rfl (fun hq => ?_) (fun hq => ?_) <;> first | subst hq | (first | (simp only [sD, sE, sB, sC, sN, sM, sT, sF] at hq; try (exfalso; omega)) | skip)) | fail) | (refine bW ?_; first | refine bN ?_ | refine bT ?_ | refine aQ ?_ | refine bD ?_ | refine bU ?_ | refine bL ?_ | refine bK ?_ | refine aA (b := true) rfl (fun _ => ?_) nTf | refine aA (b := false) rfl nFt (fun _ => ?_) | refine bE ?_ | refine bC ?_ | refine bA mixed (by kernel_rfl) ?_ | refine aD mixed (by kernel_rfl) ?_ | (refine aA rfl (fun hq => ?_) (fun hq => ?_) <;> first | subst hq | (first | (simp only [sD, sE, sB, sC, sN, sM, sT, sF] at hq; try (exfalso; omega)) | skip)) | fail) | (refine bQ ?_; first | refine bZ ?_ | refine aK ?_ | refine aT ?_ | fail) | (refine bG ?_; first | refine bV ?_ | refine aH ?_ | refine aI (by decide) ?_ | refine aM ?_ | fail) | refine bR (bB (by kernel_rfl)) ?_ | fail)
  all_goals (refine cA (by first | exact .inl rfl | exact .inr rfl) (cB rfl (aY rfl)) rfl ?_; refine cK ?_; first | (simp_all [numberP]; done) | (simp_all [numberP]; omega))
def tconP (t : Tree) : Bool := checkP isConP t == 0
def tkindP (t : Tree) : Bool := checkP isKindP t == 0
set_option maxRecDepth 10000 in
theorem xY (t : Tree) (hs : t.size ≤ 1000000) : ACalls Try.prog 88 [.imm t.iv] [] (.imm (.lit (.bool (tconP t)))) [] := by
  refine bY Try.func88 rfl rfl (nb rfl) rfl ?_
  repeat' (first | refine bM ?_ | (refine bP ?_; first | refine aX tabOk rfl rfl rfl (nb rfl) rfl ?_ | refine bF rfl rfl (nb rfl) ?_ | (refine bO rfl rfl rfl (nb rfl) rfl rfl rfl (fun hq => ?_) (fun hq => ?_) <;> (first | (simp only [sD, sE, sB, sC, sN, sM, sT, sF] at hq; try (exfalso; omega)) | skip))| (refine mG rfl rfl rfl (nb rfl) rfl rfl rfl (gC t hs) (fun q hq => ?_)) | refine aE rfl rfl rfl (nb rfl) rfl rfl (by omega) ?_ | refine bI rfl rfl rfl (nb rfl) rfl rfl rfl (by omega) (by omega) ?_ | refine bJ rfl rfl rfl (nb rfl) rfl rfl rfl (by omega) (by omega) ?_ | refine bH tabOk rfl rfl rfl (nb rfl) rfl rfl rfl rfl rfl rfl rfl rfl rfl ?_ | refine aZ tabOk rfl rfl (nb rfl) rfl ?_ | refine aU tabOk rfl rfl rfl (nb rfl) rfl rfl rfl rfl rfl rfl ?_ | refine aV tabOk rfl rfl rfl (nb rfl) rfl rfl rfl rfl ?_ | refine aN tabOk rfl rfl rfl rfl rfl rfl rfl rfl rfl rfl rfl ?_ | refine aR tabOk rfl rfl rfl (nb rfl) rfl rfl rfl rfl (by first | assumption | omega) ?_ | refine aJ tabOk rfl rfl rfl (nb rfl) rfl rfl rfl rfl (by first | rfl | omega) (by first | omega | simp) ?_ | refine aC tabOk rfl rfl rfl (nb rfl) rfl rfl rfl (by assumption) ?_ | refine aC tabOk rfl rfl rfl (nb rfl) rfl rfl rfl (bS _ _ (by first | assumption | omega)) ?_ | refine aE rfl rfl rfl (nb rfl) rfl rfl (by omega) ?_ | ((fail_if_success (refine aG (b := true) rfl rfl rfl ?_)); (fail_if_success (refine aG (b := false) rfl rfl rfl ?_)); refine aW rfl rfl rfl (fun hq => ?_) (fun hq => ?_) <;> first | subst hq | (first | (simp only [sD, sE, sB, sC, sN, sM, sT, sF] at hq; try (exfalso; omega)) | skip)) | fail) | (refine bW ?_; first | refine bN ?_ | refine bT ?_ | refine aQ ?_ | refine bD ?_ | refine bU ?_ | refine bL ?_ | refine bK ?_ | refine aA (b := true) rfl (fun _ => ?_) nTf | refine aA (b := false) rfl nFt (fun _ => ?_) | refine bE ?_ | refine bC ?_ | refine bA mixed (by kernel_rfl) ?_ | refine aD mixed (by kernel_rfl) ?_ | (refine aA rfl (fun hq => ?_) (fun hq => ?_) <;> first | subst hq | (first | (simp only [sD, sE, sB, sC, sN, sM, sT, sF] at hq; try (exfalso; omega)) | skip)) | fail) | (refine bQ ?_; first | refine bZ ?_ | refine aK ?_ | refine aT ?_ | fail) | (refine bG ?_; first | refine bV ?_ | refine aH ?_ | refine aI (by decide) ?_ | refine aM ?_ | fail) | refine bR (bB (by kernel_rfl)) ?_ | fail)
  all_goals (refine cA (by first | exact .inl rfl | exact .inr rfl) (cB rfl (aY rfl)) rfl ?_; refine cK ?_; simp_all [tconP])
set_option maxRecDepth 10000 in
theorem wE (t : Tree) (hs : t.size ≤ 1000000) : ACalls Try.prog 89 [.imm t.iv] [] (.imm (.lit (.bool (tkindP t)))) [] := by
  refine bY Try.func89 rfl rfl (nb rfl) rfl ?_
  repeat' (first | refine bM ?_ | (refine bP ?_; first | refine aX tabOk rfl rfl rfl (nb rfl) rfl ?_ | refine bF rfl rfl (nb rfl) ?_ | (refine bO rfl rfl rfl (nb rfl) rfl rfl rfl (fun hq => ?_) (fun hq => ?_) <;> (first | (simp only [sD, sE, sB, sC, sN, sM, sT, sF] at hq; try (exfalso; omega)) | skip))| (refine mG rfl rfl rfl (nb rfl) rfl rfl rfl (xQ t hs) (fun q hq => ?_)) | refine aE rfl rfl rfl (nb rfl) rfl rfl (by omega) ?_ | refine bI rfl rfl rfl (nb rfl) rfl rfl rfl (by omega) (by omega) ?_ | refine bJ rfl rfl rfl (nb rfl) rfl rfl rfl (by omega) (by omega) ?_ | refine bH tabOk rfl rfl rfl (nb rfl) rfl rfl rfl rfl rfl rfl rfl rfl rfl ?_ | refine aZ tabOk rfl rfl (nb rfl) rfl ?_ | refine aU tabOk rfl rfl rfl (nb rfl) rfl rfl rfl rfl rfl rfl ?_ | refine aV tabOk rfl rfl rfl (nb rfl) rfl rfl rfl rfl ?_ | refine aN tabOk rfl rfl rfl rfl rfl rfl rfl rfl rfl rfl rfl ?_ | refine aR tabOk rfl rfl rfl (nb rfl) rfl rfl rfl rfl (by first | assumption | omega) ?_ | refine aJ tabOk rfl rfl rfl (nb rfl) rfl rfl rfl rfl (by first | rfl | omega) (by first | omega | simp) ?_ | refine aC tabOk rfl rfl rfl (nb rfl) rfl rfl rfl (by assumption) ?_ | refine aC tabOk rfl rfl rfl (nb rfl) rfl rfl rfl (bS _ _ (by first | assumption | omega)) ?_ | refine aE rfl rfl rfl (nb rfl) rfl rfl (by omega) ?_ | ((fail_if_success (refine aG (b := true) rfl rfl rfl ?_)); (fail_if_success (refine aG (b := false) rfl rfl rfl ?_)); refine aW rfl rfl rfl (fun hq => ?_) (fun hq => ?_) <;> first | subst hq | (first | (simp only [sD, sE, sB, sC, sN, sM, sT, sF] at hq; try (exfalso; omega)) | skip)) | fail) | (refine bW ?_; first | refine bN ?_ | refine bT ?_ | refine aQ ?_ | refine bD ?_ | refine bU ?_ | refine bL ?_ | refine bK ?_ | refine aA (b := true) rfl (fun _ => ?_) nTf | refine aA (b := false) rfl nFt (fun _ => ?_) | refine bE ?_ | refine bC ?_ | refine bA mixed (by kernel_rfl) ?_ | refine aD mixed (by kernel_rfl) ?_ | (refine aA rfl (fun hq => ?_) (fun hq => ?_) <;> first | subst hq | (first | (simp only [sD, sE, sB, sC, sN, sM, sT, sF] at hq; try (exfalso; omega)) | skip)) | fail) | (refine bQ ?_; first | refine bZ ?_ | refine aK ?_ | refine aT ?_ | fail) | (refine bG ?_; first | refine bV ?_ | refine aH ?_ | refine aI (by decide) ?_ | refine aM ?_ | fail) | refine bR (bB (by kernel_rfl)) ?_ | fail)
  all_goals (refine cA (by first | exact .inl rfl | exact .inr rfl) (cB rfl (aY rfl)) rfl ?_; refine cK ?_; simp_all [tkindP])
/-- The first kids are of these forms, one after the other. -/
def formsP : List (FuncId × (Tree → Bool)) → List Tree → Bool
  | p :: ps, t :: ts => p.2 t && formsP ps ts
  | [], _ => true
  | _ :: _, [] => false
theorem jO : ∀ (fs : List (FuncId × (Tree → Bool))) (l : List Tree), fs.length ≤ l.length → (formsP fs l = true ↔ ∀ i (hi : i < fs.length) (hk : i < l.length), fs[i].2 l[i] = true)
  | [], l, _ => by simp [formsP]
  | p :: ps, [], h => by simp at h
  | p :: ps, t :: ts, h => by
    rw [formsP, Bool.and_eq_true, jO ps ts (by simpa using h)]
    constructor
    · rintro ⟨h1, h2⟩ i hi hk
      cases i with
      | zero => exact h1
      | succ i => exact h2 i (by simpa using hi) (by simpa using hk)
    · intro h
      exact ⟨h 0 (by simp) (by simp), fun i hi hk => h (i + 1) (by simpa using hi) (by simpa using hk)⟩
def kidsP (kids : List Tree) (more : Bool) (fs : List (FuncId × (Tree → Bool))) : Bool := decide (fs.length ≤ kids.length) && (more || decide (kids.length ≤ fs.length)) && formsP fs kids
def fsIv (fs : List (FuncId × (Tree → Bool))) : List IV := fs.map fun p => .func p.1 [] []
theorem xZ (fs : List (FuncId × (Tree → Bool))) (i : Nat) (h : i < fs.length) : (fsIv fs)[i * 1]? = some (.func fs[i].1 [] []) := by simp [fsIv, h]
set_option maxHeartbeats 4000000 in
set_option maxRecDepth 10000 in
theorem eO (k n : Int) (a b : ByteArray) (kids : List Tree) (more : Bool) (fs : List (FuncId × (Tree → Bool))) (hlen : fs.length < 1000) (hl : kids.length < 1000000000)
    (hf : ∀ i (hi : i < fs.length) (hk : i < kids.length), ACalls Try.prog fs[i].1 [.imm kids[i].iv] [] (.imm (.lit (.bool (fs[i].2 kids[i])))) []) :
    ACalls Try.prog 87 [.imm (Tree.iv (.node k n a b kids)), .imm (.lit (.bool more)), .imm (.sl true fs.length (fsIv fs))] [] (.imm (.lit (.bool (kidsP kids more fs)))) [] := by
  refine bY Try.func87 rfl rfl (nb rfl) rfl ?_
  repeat' (first | refine bM ?_ | (refine bP ?_; first | refine aX tabOk rfl rfl rfl (nb rfl) rfl ?_ | refine bF rfl rfl (nb rfl) ?_ | (refine bO rfl rfl rfl (nb rfl) rfl rfl rfl (fun hq => ?_) (fun hq => ?_) <;> (first | (simp only [sD, sE, sB, sC, sN, sM, sT, sF] at hq; try (exfalso; omega)) | skip)) | refine aE rfl rfl rfl (nb rfl) rfl rfl (by omega) ?_ | refine bI rfl rfl rfl (nb rfl) rfl rfl rfl (by omega) (by omega) ?_ | refine bJ rfl rfl rfl (nb rfl) rfl rfl rfl (by omega) (by omega) ?_ | refine bH tabOk rfl rfl rfl (nb rfl) rfl rfl rfl rfl rfl rfl rfl rfl rfl ?_ | refine aZ tabOk rfl rfl (nb rfl) rfl ?_ | refine aU tabOk rfl rfl rfl (nb rfl) rfl rfl rfl rfl rfl rfl ?_ | refine aV tabOk rfl rfl rfl (nb rfl) rfl rfl rfl rfl ?_ | refine aN tabOk rfl rfl rfl rfl rfl rfl rfl rfl rfl rfl rfl ?_ | refine aR tabOk rfl rfl rfl (nb rfl) rfl rfl rfl rfl (by first | assumption | omega) ?_ | refine aJ tabOk rfl rfl rfl (nb rfl) rfl rfl rfl rfl (by first | rfl | omega) (by first | omega | simp) ?_ | refine aC tabOk rfl rfl rfl (nb rfl) rfl rfl rfl (by assumption) ?_ | refine aC tabOk rfl rfl rfl (nb rfl) rfl rfl rfl (bS _ _ (by first | assumption | omega)) ?_ | refine aE rfl rfl rfl (nb rfl) rfl rfl (by omega) ?_ | ((fail_if_success (refine aG (b := true) rfl rfl rfl ?_)); (fail_if_success (refine aG (b := false) rfl rfl rfl ?_)); refine aW rfl rfl rfl (fun hq => ?_) (fun hq => ?_) <;> first | subst hq | (first | (simp only [sD, sE, sB, sC, sN, sM, sT, sF] at hq; try (exfalso; omega)) | skip)) | fail) | (refine bW ?_; first | refine bN ?_ | refine bT ?_ | refine aQ ?_ | refine bD ?_ | refine bU ?_ | refine bL ?_ | refine bK ?_ | refine aA (b := true) rfl (fun _ => ?_) nTf | refine aA (b := false) rfl nFt (fun _ => ?_) | refine bE ?_ | refine bC ?_ | refine bA mixed (by kernel_rfl) ?_ | refine aD mixed (by kernel_rfl) ?_ | (refine aA rfl (fun hq => ?_) (fun hq => ?_) <;> first | subst hq | (first | (simp only [sD, sE, sB, sC, sN, sM, sT, sF] at hq; try (exfalso; omega)) | skip)) | fail) | (refine bQ ?_; first | refine bZ ?_ | refine aK ?_ | refine aT ?_ | fail) | (refine bG ?_; first | refine bV ?_ | refine aH ?_ | refine aI (by decide) ?_ | refine aM ?_ | fail) | refine bR (bB (by kernel_rfl)) ?_ | fail)
  · refine cA (by first | exact .inl rfl | exact .inr rfl) (cB rfl (aY rfl)) rfl ?_; refine cK ?_; simp_all [kidsP]; omega
  · refine cA (by first | exact .inl rfl | exact .inr rfl) (cB rfl (aY rfl)) rfl ?_; refine cK ?_; simp_all [kidsP]; omega
  all_goals
    have hle : fs.length ≤ kids.length := by omega
    have hmore : (more || decide (kids.length ≤ fs.length)) = true := by simp_all; try omega
    refine cH (ι := {j : Nat // j ≤ fs.length ∧ ∀ i (hi : i < fs.length) (hk : i < kids.length), i < j → fs[i].2 kids[i] = true}) (fun j => S.f ⟨[(33, .imm (.lit (.int .i64 (j.1 : Int)))), (32, .imm (.lit (.int .i64 (fs.length : Int)))), (31, .imm (.sl true fs.length (fsIv fs))), (0, .imm (Tree.iv (.node k n a b kids)))], []⟩) (fun j => fs.length - j.1) ⟨0, Nat.zero_le _, fun i _ _ hi => absurd hi (Nat.not_lt_zero _)⟩ (cF (by repeat' first | exact trivial | refine ⟨rfl, ?_⟩) (by repeat' first | exact trivial | refine ⟨rfl, ?_⟩)) ?_
    rintro ⟨j, hj, hok⟩
    dsimp only
    by_cases hlt : j < fs.length
    · have hltk : j < kids.length := by omega
      repeat' (first | refine bM ?_ | (refine bP ?_; first | refine aX tabOk rfl rfl rfl (nb rfl) rfl ?_ | refine bF rfl rfl (nb rfl) ?_ | (refine bO rfl rfl rfl (nb rfl) rfl rfl rfl (fun hq => ?_) (fun hq => ?_) <;> (first | (simp only [sD, sE, sB, sC, sN, sM, sT, sF] at hq; try (exfalso; omega)) | skip))| refine aC tabOk rfl rfl rfl (nb rfl) rfl rfl rfl (xZ fs j hlt) ?_ | (refine cE rfl rfl rfl (nb rfl) rfl rfl rfl (hf j hlt hltk) (fun hq => ?_) (fun hq => ?_)) | refine aE rfl rfl rfl (nb rfl) rfl rfl (by omega) ?_ | refine bI rfl rfl rfl (nb rfl) rfl rfl rfl (by omega) (by omega) ?_ | refine bJ rfl rfl rfl (nb rfl) rfl rfl rfl (by omega) (by omega) ?_ | refine bH tabOk rfl rfl rfl (nb rfl) rfl rfl rfl rfl rfl rfl rfl rfl rfl ?_ | refine aZ tabOk rfl rfl (nb rfl) rfl ?_ | refine aU tabOk rfl rfl rfl (nb rfl) rfl rfl rfl rfl rfl rfl ?_ | refine aV tabOk rfl rfl rfl (nb rfl) rfl rfl rfl rfl ?_ | refine aN tabOk rfl rfl rfl rfl rfl rfl rfl rfl rfl rfl rfl ?_ | refine aR tabOk rfl rfl rfl (nb rfl) rfl rfl rfl rfl (by first | assumption | omega) ?_ | refine aJ tabOk rfl rfl rfl (nb rfl) rfl rfl rfl rfl (by first | rfl | omega) (by first | omega | simp) ?_ | refine aC tabOk rfl rfl rfl (nb rfl) rfl rfl rfl (by assumption) ?_ | refine aC tabOk rfl rfl rfl (nb rfl) rfl rfl rfl (bS _ _ (by first | assumption | omega)) ?_ | refine aE rfl rfl rfl (nb rfl) rfl rfl (by omega) ?_ | ((fail_if_success (refine aG (b := true) rfl rfl rfl ?_)); (fail_if_success (refine aG (b := false) rfl rfl rfl ?_)); refine aW rfl rfl rfl (fun hq => ?_) (fun hq => ?_) <;> first | subst hq | (first | (simp only [sD, sE, sB, sC, sN, sM, sT, sF] at hq; try (exfalso; omega)) | skip)) | fail) | (refine bW ?_; first | refine bN ?_ | refine bT ?_ | refine aQ ?_ | refine bD ?_ | refine bU ?_ | refine bL ?_ | refine bK ?_ | refine aA (b := true) rfl (fun _ => ?_) nTf | refine aA (b := false) rfl nFt (fun _ => ?_) | refine bE ?_ | refine bC ?_ | refine bA mixed (by kernel_rfl) ?_ | refine aD mixed (by kernel_rfl) ?_ | (refine aA rfl (fun hq => ?_) (fun hq => ?_) <;> first | subst hq | (first | (simp only [sD, sE, sB, sC, sN, sM, sT, sF] at hq; try (exfalso; omega)) | skip)) | fail) | (refine bQ ?_; first | refine bZ ?_ | refine aK ?_ | refine aT ?_ | fail) | (refine bG ?_; first | refine bV ?_ | refine aH ?_ | refine aI (by decide) ?_ | refine aM ?_ | fail) | refine bR (bB (by kernel_rfl)) ?_ | fail)
      all_goals first
        | (have hq : fs[j].2 kids[j] = false := by assumption
           refine cA (by first | exact .inl rfl | exact .inr rfl) (cB rfl (aY rfl)) rfl ?_; refine cK ?_; symm; rw [Bool.eq_false_iff]; intro hc
           simp only [kidsP, Bool.and_eq_true] at hc
           have := (jO fs kids hle).1 hc.2 j hlt hltk
           rw [hq] at this; cases this; done)
        | (have hq : fs[j].2 kids[j] = true := by assumption
           exact ⟨⟨j + 1, hlt, fun i hi hk hij => by
             by_cases e : i = j
             · subst e; exact hq
             · exact hok i hi hk (by omega)⟩, (by show fs.length - (j + 1) < fs.length - j; omega), (cF (by repeat' first | exact trivial | refine ⟨rfl, ?_⟩) (by repeat' first | exact trivial | refine ⟨rfl, ?_⟩))⟩)
    · repeat' (first | refine bM ?_ | (refine bP ?_; first | refine aX tabOk rfl rfl rfl (nb rfl) rfl ?_ | refine bF rfl rfl (nb rfl) ?_ | (refine bO rfl rfl rfl (nb rfl) rfl rfl rfl (fun hq => ?_) (fun hq => ?_) <;> (first | (simp only [sD, sE, sB, sC, sN, sM, sT, sF] at hq; try (exfalso; omega)) | skip)) | refine aE rfl rfl rfl (nb rfl) rfl rfl (by omega) ?_ | refine bI rfl rfl rfl (nb rfl) rfl rfl rfl (by omega) (by omega) ?_ | refine bJ rfl rfl rfl (nb rfl) rfl rfl rfl (by omega) (by omega) ?_ | refine bH tabOk rfl rfl rfl (nb rfl) rfl rfl rfl rfl rfl rfl rfl rfl rfl ?_ | refine aZ tabOk rfl rfl (nb rfl) rfl ?_ | refine aU tabOk rfl rfl rfl (nb rfl) rfl rfl rfl rfl rfl rfl ?_ | refine aV tabOk rfl rfl rfl (nb rfl) rfl rfl rfl rfl ?_ | refine aN tabOk rfl rfl rfl rfl rfl rfl rfl rfl rfl rfl rfl ?_ | refine aR tabOk rfl rfl rfl (nb rfl) rfl rfl rfl rfl (by first | assumption | omega) ?_ | refine aJ tabOk rfl rfl rfl (nb rfl) rfl rfl rfl rfl (by first | rfl | omega) (by first | omega | simp) ?_ | refine aC tabOk rfl rfl rfl (nb rfl) rfl rfl rfl (by assumption) ?_ | refine aC tabOk rfl rfl rfl (nb rfl) rfl rfl rfl (bS _ _ (by first | assumption | omega)) ?_ | refine aE rfl rfl rfl (nb rfl) rfl rfl (by omega) ?_ | ((fail_if_success (refine aG (b := true) rfl rfl rfl ?_)); (fail_if_success (refine aG (b := false) rfl rfl rfl ?_)); refine aW rfl rfl rfl (fun hq => ?_) (fun hq => ?_) <;> first | subst hq | (first | (simp only [sD, sE, sB, sC, sN, sM, sT, sF] at hq; try (exfalso; omega)) | skip)) | fail) | (refine bW ?_; first | refine bN ?_ | refine bT ?_ | refine aQ ?_ | refine bD ?_ | refine bU ?_ | refine bL ?_ | refine bK ?_ | refine aA (b := true) rfl (fun _ => ?_) nTf | refine aA (b := false) rfl nFt (fun _ => ?_) | refine bE ?_ | refine bC ?_ | refine bA mixed (by kernel_rfl) ?_ | refine aD mixed (by kernel_rfl) ?_ | (refine aA rfl (fun hq => ?_) (fun hq => ?_) <;> first | subst hq | (first | (simp only [sD, sE, sB, sC, sN, sM, sT, sF] at hq; try (exfalso; omega)) | skip)) | fail) | (refine bQ ?_; first | refine bZ ?_ | refine aK ?_ | refine aT ?_ | fail) | (refine bG ?_; first | refine bV ?_ | refine aH ?_ | refine aI (by decide) ?_ | refine aM ?_ | fail) | refine bR (bB (by kernel_rfl)) ?_ | fail)
      all_goals (refine cA (by first | exact .inl rfl | exact .inr rfl) (cB rfl (aY rfl)) rfl ?_; refine cK ?_; simp only [kidsP, hmore, Bool.and_true]; rw [(jO fs kids hle).2 (fun i hi hk => hok i hi hk (by omega))]; simp [hle])
end Go.Proofs.Ytlbemgokilhdnaa.Ab
namespace Go.Proofs.Ytlbemgokilhdnaa.Ab
set_option linter.unusedVariables false
set_option linter.unusedSimpArgs false
/-- No name is ahead of the one before it. -/
def steadyP : List Tree → Bool
  | t :: u :: r => !(ltB u.name t.name) && steadyP (u :: r)
  | _ => true
theorem iB : ∀ (l : List Tree), steadyP l = true ↔ ∀ i (hi : i + 1 < l.length), ltB l[i + 1].name (l[i]'(by omega)).name = false
  | [] => by simp [steadyP]
  | [x] => by simp [steadyP]
  | t :: u :: r => by
    rw [steadyP, Bool.and_eq_true, iB (u :: r), Bool.not_eq_true']
    constructor
    · rintro ⟨h1, h2⟩ i hi
      cases i with
      | zero => simpa using h1
      | succ i => exact h2 i (by simpa using hi)
    · intro h
      exact ⟨h 0 (by simp), fun i hi => h (i + 1) (by simpa using hi)⟩
def namedK (k : Int) : Bool := k == 138 || k == 146
def headP (k n : Int) (a b : ByteArray) : Bool := eqB b emptyB && (namedK k == !(eqB a emptyB)) && (!(namedK k) || labelP a) && numberP k n
mutual
def isTermP : Tree → Bool
  | .nil => false
  | .node k n a b kids => headP k n a b &&
    (if k = 130 ∨ k = 131 ∨ k = 132 ∨ k = 133 then kids.isEmpty
     else if k = 134 then isT_ct kids
     else if k = 139 then isT_kt kids
     else if k = 135 ∨ k = 142 ∨ k = 143 ∨ k = 145 then isT_tt kids
     else if k = 136 then fieldsP kids 137 && distinctP kids && steadyP kids
     else if k = 138 then isT_t kids
     else if k = 140 then isT_tc kids
     else if k = 141 then isT_ctc kids
     else if k = 144 then isT_ttt kids
     else if k = 146 then isT_ct kids
     else if k = 147 then isT_ta kids
     else if k = 148 then isT_tca kids
     else false)
def isT_t : List Tree → Bool
  | [x] => isTermP x
  | _ => false
def isT_ct : List Tree → Bool
  | [x, y] => tconP x && isTermP y
  | _ => false
def isT_kt : List Tree → Bool
  | [x, y] => tkindP x && isTermP y
  | _ => false
def isT_tt : List Tree → Bool
  | [x, y] => isTermP x && isTermP y
  | _ => false
def isT_tc : List Tree → Bool
  | [x, y] => isTermP x && tconP y
  | _ => false
def isT_ctc : List Tree → Bool
  | [x, y, z] => tconP x && isTermP y && tconP z
  | _ => false
def isT_ttt : List Tree → Bool
  | [x, y, z] => isTermP x && isTermP y && isTermP z
  | _ => false
def isT_ta : List Tree → Bool
  | x :: y :: r => isTermP x && (fieldsP (y :: r) 149 && distinctP (y :: r))
  | _ => false
def isT_tca : List Tree → Bool
  | x :: y :: z :: r => isTermP x && tconP y && (fieldsP (z :: r) 149 && distinctP (z :: r))
  | _ => false
def fieldsP : List Tree → Int → Bool
  | [], _ => true
  | .nil :: _, _ => false
  | .node k n a b ks :: ts, kind => (k == kind && n == 0 && eqB b emptyB && labelP a && isT_t ks) && fieldsP ts kind
end
/-- One field, one arm. -/
def okField (kind : Int) : Tree → Bool
  | .nil => false
  | .node k n a b ks => k == kind && n == 0 && eqB b emptyB && labelP a && isT_t ks
theorem iC (kind : Int) (l : List Tree) : fieldsP l kind = l.all (okField kind) := by
  induction l with
  | nil => simp [fieldsP]
  | cons t ts ih => cases t <;> simp [fieldsP, okField, ih]
end Go.Proofs.Ytlbemgokilhdnaa.Ab
namespace Go.Proofs.Ytlbemgokilhdnaa.Ab
set_option linter.unusedVariables false
set_option linter.unusedSimpArgs false
attribute [local irreducible] AWP AOps AExit AThen ABlock ANoGoto FeetOk
theorem pY (f : FuncId) (l : List Tree) : kidsP l false [(f, isTermP)] = isT_t l := by
  rcases l with _ | ⟨x, _ | ⟨y, r⟩⟩ <;> simp [kidsP, formsP, isT_t]
def labelledP (l : List Tree) (kind : Int) (rise : Bool) : Bool := fieldsP l kind && distinctP l && (!rise || steadyP l)
theorem wF (a : ByteArray) : Op.bytesLess a.toList emptyB.toList = false := by
  have : emptyB.toList = [] := by rw [ByteArray.toList_eq]; rfl
  rw [this]
  cases a.toList <;> rfl
set_option maxHeartbeats 8000000 in
set_option maxRecDepth 10000 in
theorem kB (l : List Tree) (kind : Int) (rise : Bool) (h : Tree.wholes l = true) (hsz : Tree.sizes l ≤ 1000000)
    (ht : ∀ t', t'.size < Tree.sizes l → t'.whole = true → ACalls Try.prog 57 [.imm t'.iv] [] (.imm (.lit (.bool (isTermP t')))) []) :
    ACalls Try.prog 90 [.imm (.sl false l.length (Tree.ivs l)), .imm (.lit (.int .i64 kind)), .imm (.lit (.bool rise))] [] (.imm (.lit (.bool (labelledP l kind rise)))) [] := by
  have hl : l.length < 1000000000 := by have := cI l h; omega
  refine bY Try.func90 rfl rfl (nb rfl) rfl ?_
  repeat' (first | refine bM ?_ | (refine bP ?_; first | refine aX tabOk rfl rfl rfl (nb rfl) rfl ?_ | refine bF rfl rfl (nb rfl) ?_ | (refine bO rfl rfl rfl (nb rfl) rfl rfl rfl (fun hq => ?_) (fun hq => ?_) <;> (first | (simp only [sD, sE, sB, sC, sN, sM, sT, sF] at hq; try (exfalso; omega)) | skip))| refine eU rfl rfl rfl (nb rfl) rfl rfl rfl ?_ | (refine eV tabOk rfl rfl rfl (nb rfl) rfl rfl rfl rfl rfl rfl rfl rfl (rfl) (fun hq => ?_) (fun hq => ?_)) | refine fJ tabOk rfl rfl rfl rfl rfl rfl rfl rfl rfl rfl rfl (hno (by assumption)) ?_ | refine eK tabOk rfl rfl rfl (nb rfl) rfl rfl rfl rfl rfl rfl rfl rfl (hno (by assumption)) ?_ | refine eL rfl rfl rfl rfl rfl rfl rfl rfl rfl ?_ | refine aE rfl rfl rfl (nb rfl) rfl rfl (by omega) ?_ | refine bI rfl rfl rfl (nb rfl) rfl rfl rfl (by omega) (by omega) ?_ | refine bJ rfl rfl rfl (nb rfl) rfl rfl rfl (by omega) (by omega) ?_ | refine bH tabOk rfl rfl rfl (nb rfl) rfl rfl rfl rfl rfl rfl rfl rfl rfl ?_ | refine aZ tabOk rfl rfl (nb rfl) rfl ?_ | refine aU tabOk rfl rfl rfl (nb rfl) rfl rfl rfl rfl rfl rfl ?_ | refine aV tabOk rfl rfl rfl (nb rfl) rfl rfl rfl rfl ?_ | refine aN tabOk rfl rfl rfl rfl rfl rfl rfl rfl rfl rfl rfl ?_ | refine aR tabOk rfl rfl rfl (nb rfl) rfl rfl rfl rfl (by first | assumption | omega) ?_ | refine aJ tabOk rfl rfl rfl (nb rfl) rfl rfl rfl rfl (by first | rfl | omega) (by first | omega | simp) ?_ | refine aC tabOk rfl rfl rfl (nb rfl) rfl rfl rfl (by assumption) ?_ | refine aC tabOk rfl rfl rfl (nb rfl) rfl rfl rfl (bS _ _ (by first | assumption | omega)) ?_ | refine aE rfl rfl rfl (nb rfl) rfl rfl (by omega) ?_ | ((fail_if_success (refine aG (b := true) rfl rfl rfl ?_)); (fail_if_success (refine aG (b := false) rfl rfl rfl ?_)); refine aW rfl rfl rfl (fun hq => ?_) (fun hq => ?_) <;> first | subst hq | (first | (simp only [sD, sE, sB, sC, sN, sM, sT, sF] at hq; try (exfalso; omega)) | skip)) | fail) | (refine bW ?_; first | refine bN ?_ | refine bT ?_ | refine aQ ?_ | refine bD ?_ | refine bU ?_ | refine bL ?_ | refine bK ?_ | refine aA (b := true) rfl (fun _ => ?_) nTf | refine aA (b := false) rfl nFt (fun _ => ?_) | refine bE ?_ | refine bC ?_ | refine bA mixed (by kernel_rfl) ?_ | refine aD mixed (by kernel_rfl) ?_ | (refine aA rfl (fun hq => ?_) (fun hq => ?_) <;> first | subst hq | (first | (simp only [sD, sE, sB, sC, sN, sM, sT, sF] at hq; try (exfalso; omega)) | skip)) | fail) | (refine bQ ?_; first | refine bZ ?_ | refine aK ?_ | refine aT ?_ | fail) | (refine bG ?_; first | refine bV ?_ | refine aH ?_ | refine aI (by decide) ?_ | refine aM ?_ | fail) | refine bR (bB (by kernel_rfl)) ?_ | fail)
  refine cH (ι := {p : Nat × List (ByteArray × IV) × ByteArray // p.1 ≤ l.length ∧ p.2.1 = seenL (l.take p.1) ∧ (p.1 = 0 → p.2.2 = emptyB) ∧ (∀ i (hi : i < l.length), i + 1 = p.1 → p.2.2 = l[i].name) ∧ (∀ i (hi : i < l.length), i < p.1 → okField kind l[i] = true) ∧
      (∀ i i' (h1 : i < i') (h2 : i' < l.length), i' < p.1 → eqB l[i'].name (l[i]'(by omega)).name = false) ∧ (rise = true → ∀ i (hi : i + 1 < l.length), i + 1 < p.1 → ltB l[i + 1].name (l[i]'(by omega)).name = false)})
    (fun p => S.f ⟨[(14, .imm (.lit (.int .i64 (p.1.1 : Int)))), (13, .imm (.lit (.int .i64 (l.length : Int)))), (12, .imm (.sl false l.length (Tree.ivs l))), (7, .mp 11), (8, .imm (.lit (.string p.1.2.2))), (1, .imm (.lit (.int .i64 kind))), (2, .imm (.lit (.bool rise)))], [(11, .map p.1.2.1)]⟩) (fun p => l.length - p.1.1)
    ⟨(0, [], emptyB), Nat.zero_le _, rfl, fun _ => rfl, fun i _ hi => by omega, fun i _ hi => absurd hi (Nat.not_lt_zero _), fun i i' _ _ hi => absurd hi (Nat.not_lt_zero _), fun _ i _ hi => absurd hi (Nat.not_lt_zero _)⟩ (cF (by repeat' first | exact trivial | refine ⟨rfl, ?_⟩) (by repeat' first | exact trivial | refine ⟨rfl, ?_⟩)) ?_
  rintro ⟨⟨j, ml, last⟩, hj, hs, hlast0, hlast, hok, hdi, hst⟩
  dsimp only at hj hs hlast0 hlast hok hdi hst ⊢
  by_cases hlt : j < l.length
  · obtain ⟨k1, n1, a1, b1, ks1, e1, hget, hw1⟩ := gI h hlt
    have hb := oM (l.take j) a1
    rw [← hs] at hb
    have hno : ((l.take j).any fun u => eqB u.name a1) = false → mget ml a1 = none := fun h => by rw [hs]; exact oN h
    have hm1 := cT (List.getElem_mem hlt)
    rw [e1] at hm1
    have hl1 : ks1.length < 1000000000 := by have := cI ks1 hw1; simp only [Tree.size] at hm1; omega
    have hf : ∀ i (hi : i < [((57 : FuncId), isTermP)].length) (hk : i < ks1.length), ACalls Try.prog [((57 : FuncId), isTermP)][i].1 [.imm ks1[i].iv] [] (.imm (.lit (.bool ([((57 : FuncId), isTermP)][i].2 ks1[i])))) [] := fun i hi hk => by
      have : i = 0 := by simpa using hi
      subst this
      have h2 := cG (k := k1) (n := n1) (a := a1) (b := b1) (List.getElem_mem hk)
      exact ht _ (by omega) (cD hw1 (List.getElem_mem hk))
    have hmeet : ((l.take j).any fun u => eqB u.name a1) = true → labelledP l kind rise = false := fun h => by
      rw [Bool.eq_false_iff]
      intro hd
      simp only [labelledP, Bool.and_eq_true] at hd
      have hd := (dS _).1 hd.1.2
      rw [List.any_eq_true] at h
      obtain ⟨u, hu, hub⟩ := h
      obtain ⟨i, hi, rfl⟩ := List.getElem_of_mem hu
      simp only [List.length_take] at hi
      have h2 := hd i j (by omega) hlt
      rw [e1] at h2
      simp only [List.getElem_take] at hub
      rw [(dW _ _).1 hub] at h2
      have h3 := (dW a1 a1).2 rfl
      rw [show Tree.name (Tree.node k1 n1 a1 b1 ks1) = a1 from rfl, h3] at h2
      cases h2
    have hnext : ((l.take j).any fun u => eqB u.name a1) = false → ∀ i i' (h1 : i < i') (h2 : i' < l.length), i' < j + 1 → eqB l[i'].name (l[i]'(by omega)).name = false := fun h i i' h1 h2 h3 => by
      by_cases e : i' = j
      · subst e
        rw [List.any_eq_false] at h
        have := h l[i] (List.mem_iff_getElem.2 ⟨i, by simp; omega, by simp⟩)
        rw [e1]
        rw [Bool.eq_false_iff]
        intro hc
        exact this ((dW _ _).2 ((dW _ _).1 hc).symm)
      · exact hdi i i' h1 h2 (by omega)
    have hlast1 : ∀ i (hi : i < l.length), i + 1 = j + 1 → a1 = l[i].name := fun i hi hij => by
      have : i = j := by omega
      subst this
      rw [e1]; rfl
    have hbad : okField kind (Tree.node k1 n1 a1 b1 ks1) = false → labelledP l kind rise = false := fun hb => by
      simp only [labelledP, iC, hP hlt (by rw [e1]; exact hb), Bool.false_and]
    have hgood : okField kind (Tree.node k1 n1 a1 b1 ks1) = true → ∀ i (hi : i < l.length), i < j + 1 → okField kind l[i] = true := fun hgb i hi hij => by
      by_cases e : i = j
      · subst e; rw [e1]; exact hgb
      · exact hok i hi (by omega)
    have hfall : rise = true → Op.bytesLess a1.toList last.toList = true → labelledP l kind rise = false := fun hr hb => by
      rw [Bool.eq_false_iff]
      intro hd
      simp only [labelledP, Bool.and_eq_true, hr, Bool.not_true, Bool.false_or] at hd
      by_cases hj0 : j = 0
      · rw [hlast0 hj0, wF] at hb; cases hb
      · have h2 := (iB _).1 hd.2 (j - 1) (by omega)
        have x1 : l[j - 1 + 1]'(by omega) = Tree.node k1 n1 a1 b1 ks1 := by simpa only [show j - 1 + 1 = j by omega] using e1
        rw [x1, ← hlast (j - 1) (by omega) (by omega)] at h2
        have h3 : Op.bytesLess a1.toList last.toList = false := h2
        rw [h3] at hb; cases hb
    have hrise : (rise = true → Op.bytesLess a1.toList last.toList = false) → rise = true → ∀ i (hi : i + 1 < l.length), i + 1 < j + 1 → ltB l[i + 1].name (l[i]'(by omega)).name = false := fun hb hr i hi hij => by
      by_cases e : i + 1 = j
      · have x1 : l[i + 1] = Tree.node k1 n1 a1 b1 ks1 := by simpa only [e] using e1
        rw [x1, ← hlast i (by omega) e]
        exact hb hr
      · exact hst hr i hi (by omega)
    repeat' (first | refine bM ?_ | (refine bP ?_; first | refine aX tabOk rfl rfl rfl (nb rfl) rfl ?_ | refine bF rfl rfl (nb rfl) ?_ | (refine bO rfl rfl rfl (nb rfl) rfl rfl rfl (fun hq => ?_) (fun hq => ?_) <;> (first | (simp only [sD, sE, sB, sC, sN, sM, sT, sF] at hq; try (exfalso; omega)) | skip))| refine eU rfl rfl rfl (nb rfl) rfl rfl rfl ?_ | (refine eV tabOk rfl rfl rfl (nb rfl) rfl rfl rfl rfl rfl rfl rfl rfl (hb) (fun hq => ?_) (fun hq => ?_)) | refine fJ tabOk rfl rfl rfl rfl rfl rfl rfl rfl rfl rfl rfl (hno (by assumption)) ?_ | refine eK tabOk rfl rfl rfl (nb rfl) rfl rfl rfl rfl rfl rfl rfl rfl (hno (by assumption)) ?_ | refine eL rfl rfl rfl rfl rfl rfl rfl rfl rfl ?_ | (refine cE rfl rfl rfl (nb rfl) rfl rfl rfl (mP _) (fun hq => ?_) (fun hq => ?_)) | (refine cE rfl rfl rfl (nb rfl) rfl rfl rfl (eO _ _ _ _ _ false [((57 : FuncId), isTermP)] (by decide) hl1 hf) (fun hq => ?_) (fun hq => ?_)) | refine aE rfl rfl rfl (nb rfl) rfl rfl (by omega) ?_ | refine bI rfl rfl rfl (nb rfl) rfl rfl rfl (by omega) (by omega) ?_ | refine bJ rfl rfl rfl (nb rfl) rfl rfl rfl (by omega) (by omega) ?_ | refine bH tabOk rfl rfl rfl (nb rfl) rfl rfl rfl rfl rfl rfl rfl rfl rfl ?_ | refine aZ tabOk rfl rfl (nb rfl) rfl ?_ | refine aU tabOk rfl rfl rfl (nb rfl) rfl rfl rfl rfl rfl rfl ?_ | refine aV tabOk rfl rfl rfl (nb rfl) rfl rfl rfl rfl ?_ | refine aN tabOk rfl rfl rfl rfl rfl rfl rfl rfl rfl rfl rfl ?_ | refine aR tabOk rfl rfl rfl (nb rfl) rfl rfl rfl rfl (by first | assumption | omega) ?_ | refine aJ tabOk rfl rfl rfl (nb rfl) rfl rfl rfl rfl (by first | rfl | omega) (by first | omega | simp) ?_ | refine aC tabOk rfl rfl rfl (nb rfl) rfl rfl rfl (by assumption) ?_ | refine aC tabOk rfl rfl rfl (nb rfl) rfl rfl rfl (bS _ _ (by first | assumption | omega)) ?_ | refine aE rfl rfl rfl (nb rfl) rfl rfl (by omega) ?_ | ((fail_if_success (refine aG (b := true) rfl rfl rfl ?_)); (fail_if_success (refine aG (b := false) rfl rfl rfl ?_)); refine aW rfl rfl rfl (fun hq => ?_) (fun hq => ?_) <;> first | subst hq | (first | (simp only [sD, sE, sB, sC, sN, sM, sT, sF] at hq; try (exfalso; omega)) | skip)) | fail) | (refine bW ?_; first | refine bN ?_ | refine bT ?_ | refine aQ ?_ | refine bD ?_ | refine bU ?_ | refine bL ?_ | refine bK ?_ | refine aA (b := true) rfl (fun _ => ?_) nTf | refine aA (b := false) rfl nFt (fun _ => ?_) | refine bE ?_ | refine bC ?_ | refine bA mixed (by kernel_rfl) ?_ | refine aD mixed (by kernel_rfl) ?_ | (refine aA rfl (fun hq => ?_) (fun hq => ?_) <;> first | subst hq | (first | (simp only [sD, sE, sB, sC, sN, sM, sT, sF] at hq; try (exfalso; omega)) | skip)) | fail) | (refine bQ ?_; first | refine bZ ?_ | refine aK ?_ | refine aT ?_ | fail) | (refine bG ?_; first | refine bV ?_ | refine aH ?_ | refine aI (by decide) ?_ | refine aM ?_ | fail) | refine bR (bB (by kernel_rfl)) ?_ | fail)
    all_goals first
      | (refine cA (by first | exact .inl rfl | exact .inr rfl) (cB rfl (aY rfl)) rfl ?_; refine cK ?_; symm; first
          | exact hmeet (by assumption)
          | exact hfall rfl (by assumption)
          | (refine hbad ?_; simp_all [okField, pY, eqB, emptyB]; done))
      | exact ⟨⟨(j + 1, ml ++ [(a1, .lit (.bool true))], a1), hlt, (hs ▸ oO l _ j hlt e1), (fun h => by cases h), hlast1,
          hgood (by simp_all [okField, pY, eqB, emptyB]), hnext (by assumption), hrise (by first | (intro _; assumption) | (intro h; cases h))⟩, (by show l.length - (j + 1) < l.length - j; omega), (cF (by repeat' first | exact trivial | refine ⟨rfl, ?_⟩) (by repeat' first | exact trivial | refine ⟨rfl, ?_⟩))⟩
  · repeat' (first | refine bM ?_ | (refine bP ?_; first | refine aX tabOk rfl rfl rfl (nb rfl) rfl ?_ | refine bF rfl rfl (nb rfl) ?_ | (refine bO rfl rfl rfl (nb rfl) rfl rfl rfl (fun hq => ?_) (fun hq => ?_) <;> (first | (simp only [sD, sE, sB, sC, sN, sM, sT, sF] at hq; try (exfalso; omega)) | skip)) | refine aE rfl rfl rfl (nb rfl) rfl rfl (by omega) ?_ | refine bI rfl rfl rfl (nb rfl) rfl rfl rfl (by omega) (by omega) ?_ | refine bJ rfl rfl rfl (nb rfl) rfl rfl rfl (by omega) (by omega) ?_ | refine bH tabOk rfl rfl rfl (nb rfl) rfl rfl rfl rfl rfl rfl rfl rfl rfl ?_ | refine aZ tabOk rfl rfl (nb rfl) rfl ?_ | refine aU tabOk rfl rfl rfl (nb rfl) rfl rfl rfl rfl rfl rfl ?_ | refine aV tabOk rfl rfl rfl (nb rfl) rfl rfl rfl rfl ?_ | refine aN tabOk rfl rfl rfl rfl rfl rfl rfl rfl rfl rfl rfl ?_ | refine aR tabOk rfl rfl rfl (nb rfl) rfl rfl rfl rfl (by first | assumption | omega) ?_ | refine aJ tabOk rfl rfl rfl (nb rfl) rfl rfl rfl rfl (by first | rfl | omega) (by first | omega | simp) ?_ | refine aC tabOk rfl rfl rfl (nb rfl) rfl rfl rfl (by assumption) ?_ | refine aC tabOk rfl rfl rfl (nb rfl) rfl rfl rfl (bS _ _ (by first | assumption | omega)) ?_ | refine aE rfl rfl rfl (nb rfl) rfl rfl (by omega) ?_ | ((fail_if_success (refine aG (b := true) rfl rfl rfl ?_)); (fail_if_success (refine aG (b := false) rfl rfl rfl ?_)); refine aW rfl rfl rfl (fun hq => ?_) (fun hq => ?_) <;> first | subst hq | (first | (simp only [sD, sE, sB, sC, sN, sM, sT, sF] at hq; try (exfalso; omega)) | skip)) | fail) | (refine bW ?_; first | refine bN ?_ | refine bT ?_ | refine aQ ?_ | refine bD ?_ | refine bU ?_ | refine bL ?_ | refine bK ?_ | refine aA (b := true) rfl (fun _ => ?_) nTf | refine aA (b := false) rfl nFt (fun _ => ?_) | refine bE ?_ | refine bC ?_ | refine bA mixed (by kernel_rfl) ?_ | refine aD mixed (by kernel_rfl) ?_ | (refine aA rfl (fun hq => ?_) (fun hq => ?_) <;> first | subst hq | (first | (simp only [sD, sE, sB, sC, sN, sM, sT, sF] at hq; try (exfalso; omega)) | skip)) | fail) | (refine bQ ?_; first | refine bZ ?_ | refine aK ?_ | refine aT ?_ | fail) | (refine bG ?_; first | refine bV ?_ | refine aH ?_ | refine aI (by decide) ?_ | refine aM ?_ | fail) | refine bR (bB (by kernel_rfl)) ?_ | fail)
    all_goals (refine cA (by first | exact .inl rfl | exact .inr rfl) (cB rfl (aY rfl)) rfl ?_; refine cK ?_; symm
               have z1 : fieldsP l kind = true := by rw [iC]; exact jL fun i hi => hok i hi (by omega)
               have z2 : distinctP l = true := (dS l).2 fun i i' h1 h2 => hdi i i' h1 h2 (by omega)
               have z3 : rise = true → steadyP l = true := fun hr => (iB l).2 fun i hi => hst hr i hi (by omega)
               simp only [labelledP, z1, z2, Bool.true_and]
               cases rise with
               | true => simp [z3 rfl]
               | false => rfl)
end Go.Proofs.Ytlbemgokilhdnaa.Ab
namespace Go.Proofs.Ytlbemgokilhdnaa.Ab
set_option linter.unusedVariables false
set_option linter.unusedSimpArgs false
attribute [local irreducible] AWP AOps AExit AThen ABlock ANoGoto FeetOk
theorem kV : ∀ (l : List Tree) (f : Nat), Tree.wholes l = true → Tree.wholes (l.drop f) = true
  | l, 0, h => h
  | [], f + 1, _ => rfl
  | t :: ts, f + 1, h => by
    simp only [Tree.wholes, Bool.and_eq_true] at h
    exact kV ts f h.2
theorem mQ : ∀ (l : List Tree) (f : Nat), Tree.sizes (l.drop f) ≤ Tree.sizes l
  | l, 0 => Nat.le_refl _
  | [], f + 1 => Nat.le_refl _
  | t :: ts, f + 1 => by
    have := mQ ts f
    simp only [List.drop_succ_cons, Tree.sizes]; omega
theorem yA (l : List Tree) (f : Nat) (h : f ≤ l.length) : IV.sl false (l.length - f) (((Tree.ivs l).drop (f * 1)).take ((l.length - f) * 1)) = IV.sl false (l.drop f).length (Tree.ivs (l.drop f)) := by
  rw [dK, dK, List.length_drop, Nat.mul_one, Nat.mul_one, ← List.map_drop, List.take_of_length_le (by simp)]
def armsP (kids : List Tree) (f : Nat) : Bool := decide (f < kids.length) && labelledP (kids.drop f) 149 false
set_option maxHeartbeats 4000000 in
set_option maxRecDepth 10000 in
theorem rI (k n : Int) (a b : ByteArray) (kids : List Tree) (f : Nat) (hf : f < 1000) (h : Tree.wholes kids = true) (hsz : Tree.sizes kids ≤ 1000000)
    (ht : ∀ t', t'.size ≤ Tree.sizes kids → t'.whole = true → ACalls Try.prog 57 [.imm t'.iv] [] (.imm (.lit (.bool (isTermP t')))) []) :
    ACalls Try.prog 91 [.imm (Tree.iv (.node k n a b kids)), .imm (.lit (.int .i64 (f : Int)))] [] (.imm (.lit (.bool (armsP kids f)))) [] := by
  have hd := mQ kids f
  refine bY Try.func91 rfl rfl (nb rfl) rfl ?_
  repeat' (first | refine bM ?_ | (refine bP ?_; first | refine aX tabOk rfl rfl rfl (nb rfl) rfl ?_ | refine bF rfl rfl (nb rfl) ?_ | (refine bO rfl rfl rfl (nb rfl) rfl rfl rfl (fun hq => ?_) (fun hq => ?_) <;> (first | (simp only [sD, sE, sB, sC, sN, sM, sT, sF] at hq; try (exfalso; omega)) | skip))| refine gG tabOk rfl rfl rfl (nb rfl) rfl rfl rfl rfl rfl (by omega) (Nat.le_refl _) (yA kids f (by omega)) ?_ | (refine cE rfl rfl rfl (nb rfl) rfl rfl rfl (kB _ _ _ (kV kids f h) (by omega) (fun t' h1 h2 => ht t' (by omega) h2)) (fun hq => ?_) (fun hq => ?_)) | refine aE rfl rfl rfl (nb rfl) rfl rfl (by omega) ?_ | refine bI rfl rfl rfl (nb rfl) rfl rfl rfl (by omega) (by omega) ?_ | refine bJ rfl rfl rfl (nb rfl) rfl rfl rfl (by omega) (by omega) ?_ | refine bH tabOk rfl rfl rfl (nb rfl) rfl rfl rfl rfl rfl rfl rfl rfl rfl ?_ | refine aZ tabOk rfl rfl (nb rfl) rfl ?_ | refine aU tabOk rfl rfl rfl (nb rfl) rfl rfl rfl rfl rfl rfl ?_ | refine aV tabOk rfl rfl rfl (nb rfl) rfl rfl rfl rfl ?_ | refine aN tabOk rfl rfl rfl rfl rfl rfl rfl rfl rfl rfl rfl ?_ | refine aR tabOk rfl rfl rfl (nb rfl) rfl rfl rfl rfl (by first | assumption | omega) ?_ | refine aJ tabOk rfl rfl rfl (nb rfl) rfl rfl rfl rfl (by first | rfl | omega) (by first | omega | simp) ?_ | refine aC tabOk rfl rfl rfl (nb rfl) rfl rfl rfl (by assumption) ?_ | refine aC tabOk rfl rfl rfl (nb rfl) rfl rfl rfl (bS _ _ (by first | assumption | omega)) ?_ | refine aE rfl rfl rfl (nb rfl) rfl rfl (by omega) ?_ | ((fail_if_success (refine aG (b := true) rfl rfl rfl ?_)); (fail_if_success (refine aG (b := false) rfl rfl rfl ?_)); refine aW rfl rfl rfl (fun hq => ?_) (fun hq => ?_) <;> first | subst hq | (first | (simp only [sD, sE, sB, sC, sN, sM, sT, sF] at hq; try (exfalso; omega)) | skip)) | fail) | (refine bW ?_; first | refine bN ?_ | refine bT ?_ | refine aQ ?_ | refine bD ?_ | refine bU ?_ | refine bL ?_ | refine bK ?_ | refine aA (b := true) rfl (fun _ => ?_) nTf | refine aA (b := false) rfl nFt (fun _ => ?_) | refine bE ?_ | refine bC ?_ | refine bA mixed (by kernel_rfl) ?_ | refine aD mixed (by kernel_rfl) ?_ | (refine aA rfl (fun hq => ?_) (fun hq => ?_) <;> first | subst hq | (first | (simp only [sD, sE, sB, sC, sN, sM, sT, sF] at hq; try (exfalso; omega)) | skip)) | fail) | (refine bQ ?_; first | refine bZ ?_ | refine aK ?_ | refine aT ?_ | fail) | (refine bG ?_; first | refine bV ?_ | refine aH ?_ | refine aI (by decide) ?_ | refine aM ?_ | fail) | refine bR (bB (by kernel_rfl)) ?_ | fail)
  all_goals (refine cA (by first | exact .inl rfl | exact .inr rfl) (cB rfl (aY rfl)) rfl ?_; refine cK ?_; first | (simp_all [armsP]; done) | (simp_all [armsP]; omega))
set_option maxHeartbeats 4000000 in
set_option maxRecDepth 10000 in
theorem wG (k n : Int) (a b : ByteArray) (kids : List Tree) : ACalls Try.prog 87 [.imm (Tree.iv (.node k n a b kids)), .imm (.lit (.bool false)), .imm (.lit (.slice none 0 0))] [] (.imm (.lit (.bool kids.isEmpty))) [] := by
  refine bY Try.func87 rfl rfl (nb rfl) rfl ?_
  repeat' (first | refine bM ?_ | (refine bP ?_; first | refine aX tabOk rfl rfl rfl (nb rfl) rfl ?_ | refine bF rfl rfl (nb rfl) ?_ | (refine bO rfl rfl rfl (nb rfl) rfl rfl rfl (fun hq => ?_) (fun hq => ?_) <;> (first | (simp only [sD, sE, sB, sC, sN, sM, sT, sF] at hq; try (exfalso; omega)) | skip)) | refine aE rfl rfl rfl (nb rfl) rfl rfl (by omega) ?_ | refine bI rfl rfl rfl (nb rfl) rfl rfl rfl (by omega) (by omega) ?_ | refine bJ rfl rfl rfl (nb rfl) rfl rfl rfl (by omega) (by omega) ?_ | refine bH tabOk rfl rfl rfl (nb rfl) rfl rfl rfl rfl rfl rfl rfl rfl rfl ?_ | refine aZ tabOk rfl rfl (nb rfl) rfl ?_ | refine aU tabOk rfl rfl rfl (nb rfl) rfl rfl rfl rfl rfl rfl ?_ | refine aV tabOk rfl rfl rfl (nb rfl) rfl rfl rfl rfl ?_ | refine aN tabOk rfl rfl rfl rfl rfl rfl rfl rfl rfl rfl rfl ?_ | refine aR tabOk rfl rfl rfl (nb rfl) rfl rfl rfl rfl (by first | assumption | omega) ?_ | refine aJ tabOk rfl rfl rfl (nb rfl) rfl rfl rfl rfl (by first | rfl | omega) (by first | omega | simp) ?_ | refine aC tabOk rfl rfl rfl (nb rfl) rfl rfl rfl (by assumption) ?_ | refine aC tabOk rfl rfl rfl (nb rfl) rfl rfl rfl (bS _ _ (by first | assumption | omega)) ?_ | refine aE rfl rfl rfl (nb rfl) rfl rfl (by omega) ?_ | ((fail_if_success (refine aG (b := true) rfl rfl rfl ?_)); (fail_if_success (refine aG (b := false) rfl rfl rfl ?_)); refine aW rfl rfl rfl (fun hq => ?_) (fun hq => ?_) <;> first | subst hq | (first | (simp only [sD, sE, sB, sC, sN, sM, sT, sF] at hq; try (exfalso; omega)) | skip)) | fail) | (refine bW ?_; first | refine bN ?_ | refine bT ?_ | refine aQ ?_ | refine bD ?_ | refine bU ?_ | refine bL ?_ | refine bK ?_ | refine aA (b := true) rfl (fun _ => ?_) nTf | refine aA (b := false) rfl nFt (fun _ => ?_) | refine bE ?_ | refine bC ?_ | refine bA mixed (by kernel_rfl) ?_ | refine aD mixed (by kernel_rfl) ?_ | (refine aA rfl (fun hq => ?_) (fun hq => ?_) <;> first | subst hq | (first | (simp only [sD, sE, sB, sC, sN, sM, sT, sF] at hq; try (exfalso; omega)) | skip)) | fail) | (refine bQ ?_; first | refine bZ ?_ | refine aK ?_ | refine aT ?_ | fail) | (refine bG ?_; first | refine bV ?_ | refine aH ?_ | refine aI (by decide) ?_ | refine aM ?_ | fail) | refine bR (bB (by kernel_rfl)) ?_ | fail)
  · refine cA (by first | exact .inl rfl | exact .inr rfl) (cB rfl (aY rfl)) rfl ?_; refine cK ?_; cases kids <;> simp_all
  · refine cH (ι := Unit) (fun _ => S.f ⟨[(33, .imm (.lit (.int .i64 0))), (32, .imm (.lit (.int .i64 0)))], []⟩) (fun _ => 0) () (cF (by repeat' first | exact trivial | refine ⟨rfl, ?_⟩) (by repeat' first | exact trivial | refine ⟨rfl, ?_⟩)) ?_
    intro _
    repeat' (first | refine bM ?_ | (refine bP ?_; first | refine aX tabOk rfl rfl rfl (nb rfl) rfl ?_ | refine bF rfl rfl (nb rfl) ?_ | (refine bO rfl rfl rfl (nb rfl) rfl rfl rfl (fun hq => ?_) (fun hq => ?_) <;> (first | (simp only [sD, sE, sB, sC, sN, sM, sT, sF] at hq; try (exfalso; omega)) | skip)) | refine aE rfl rfl rfl (nb rfl) rfl rfl (by omega) ?_ | refine bI rfl rfl rfl (nb rfl) rfl rfl rfl (by omega) (by omega) ?_ | refine bJ rfl rfl rfl (nb rfl) rfl rfl rfl (by omega) (by omega) ?_ | refine bH tabOk rfl rfl rfl (nb rfl) rfl rfl rfl rfl rfl rfl rfl rfl rfl ?_ | refine aZ tabOk rfl rfl (nb rfl) rfl ?_ | refine aU tabOk rfl rfl rfl (nb rfl) rfl rfl rfl rfl rfl rfl ?_ | refine aV tabOk rfl rfl rfl (nb rfl) rfl rfl rfl rfl ?_ | refine aN tabOk rfl rfl rfl rfl rfl rfl rfl rfl rfl rfl rfl ?_ | refine aR tabOk rfl rfl rfl (nb rfl) rfl rfl rfl rfl (by first | assumption | omega) ?_ | refine aJ tabOk rfl rfl rfl (nb rfl) rfl rfl rfl rfl (by first | rfl | omega) (by first | omega | simp) ?_ | refine aC tabOk rfl rfl rfl (nb rfl) rfl rfl rfl (by assumption) ?_ | refine aC tabOk rfl rfl rfl (nb rfl) rfl rfl rfl (bS _ _ (by first | assumption | omega)) ?_ | refine aE rfl rfl rfl (nb rfl) rfl rfl (by omega) ?_ | ((fail_if_success (refine aG (b := true) rfl rfl rfl ?_)); (fail_if_success (refine aG (b := false) rfl rfl rfl ?_)); refine aW rfl rfl rfl (fun hq => ?_) (fun hq => ?_) <;> first | subst hq | (first | (simp only [sD, sE, sB, sC, sN, sM, sT, sF] at hq; try (exfalso; omega)) | skip)) | fail) | (refine bW ?_; first | refine bN ?_ | refine bT ?_ | refine aQ ?_ | refine bD ?_ | refine bU ?_ | refine bL ?_ | refine bK ?_ | refine aA (b := true) rfl (fun _ => ?_) nTf | refine aA (b := false) rfl nFt (fun _ => ?_) | refine bE ?_ | refine bC ?_ | refine bA mixed (by kernel_rfl) ?_ | refine aD mixed (by kernel_rfl) ?_ | (refine aA rfl (fun hq => ?_) (fun hq => ?_) <;> first | subst hq | (first | (simp only [sD, sE, sB, sC, sN, sM, sT, sF] at hq; try (exfalso; omega)) | skip)) | fail) | (refine bQ ?_; first | refine bZ ?_ | refine aK ?_ | refine aT ?_ | fail) | (refine bG ?_; first | refine bV ?_ | refine aH ?_ | refine aI (by decide) ?_ | refine aM ?_ | fail) | refine bR (bB (by kernel_rfl)) ?_ | fail)
    all_goals first
      | (exfalso; omega)
      | (refine cA (by first | exact .inl rfl | exact .inr rfl) (cB rfl (aY rfl)) rfl ?_; refine cK ?_; cases kids <;> simp_all)
theorem yB (f g : FuncId) (l : List Tree) : kidsP l false [(f, tconP), (g, isTermP)] = isT_ct l := by
  rcases l with _ | ⟨x, _ | ⟨y, _ | ⟨z, r⟩⟩⟩ <;> simp [kidsP, formsP, isT_ct]
theorem yC (f g : FuncId) (l : List Tree) : kidsP l false [(f, tkindP), (g, isTermP)] = isT_kt l := by
  rcases l with _ | ⟨x, _ | ⟨y, _ | ⟨z, r⟩⟩⟩ <;> simp [kidsP, formsP, isT_kt]
theorem yD (f g : FuncId) (l : List Tree) : kidsP l false [(f, isTermP), (g, isTermP)] = isT_tt l := by
  rcases l with _ | ⟨x, _ | ⟨y, _ | ⟨z, r⟩⟩⟩ <;> simp [kidsP, formsP, isT_tt]
theorem yE (f g : FuncId) (l : List Tree) : kidsP l false [(f, isTermP), (g, tconP)] = isT_tc l := by
  rcases l with _ | ⟨x, _ | ⟨y, _ | ⟨z, r⟩⟩⟩ <;> simp [kidsP, formsP, isT_tc]
theorem wH (f g h : FuncId) (l : List Tree) : kidsP l false [(f, tconP), (g, isTermP), (h, tconP)] = isT_ctc l := by
  rcases l with _ | ⟨x, _ | ⟨y, _ | ⟨z, _ | ⟨u, r⟩⟩⟩⟩ <;> simp [kidsP, formsP, isT_ctc, Bool.and_assoc]
theorem wI (f g h : FuncId) (l : List Tree) : kidsP l false [(f, isTermP), (g, isTermP), (h, isTermP)] = isT_ttt l := by
  rcases l with _ | ⟨x, _ | ⟨y, _ | ⟨z, _ | ⟨u, r⟩⟩⟩⟩ <;> simp [kidsP, formsP, isT_ttt, Bool.and_assoc]
theorem yF (f : FuncId) (l : List Tree) : (kidsP l true [(f, isTermP)] && armsP l 1) = isT_ta l := by
  rcases l with _ | ⟨x, _ | ⟨y, r⟩⟩ <;> simp [kidsP, formsP, isT_ta, armsP, labelledP]
theorem wJ (f g : FuncId) (l : List Tree) : (kidsP l true [(f, isTermP), (g, tconP)] && armsP l 2) = isT_tca l := by
  rcases l with _ | ⟨x, _ | ⟨y, _ | ⟨z, r⟩⟩⟩ <;> simp [kidsP, formsP, isT_tca, armsP, labelledP]
end Go.Proofs.Ytlbemgokilhdnaa.Ab
namespace Go.Proofs.Ytlbemgokilhdnaa.Ab
set_option linter.unusedVariables false
set_option linter.unusedSimpArgs false
attribute [local irreducible] AWP AOps AExit AThen ABlock ANoGoto FeetOk
theorem false_and {x y : Bool} (h : x = false) : false = (x && y) := by rw [h]; rfl
set_option maxHeartbeats 16000000 in
set_option maxRecDepth 10000 in
theorem tR (t : Tree) : t.whole = true → t.size ≤ 1000000 → ACalls Try.prog 57 [.imm t.iv] [] (.imm (.lit (.bool (isTermP t)))) [] := by
  induction t using Tree.sind with
  | h t ih =>
    intro h hs
    obtain ⟨k, n, a, b, kids, rfl⟩ := cZ h
    have hw : Tree.wholes kids = true := h
    have hz : Tree.sizes kids ≤ 1000000 := by simp only [Tree.size] at hs; omega
    have hl : kids.length < 1000000000 := by have := cI kids h; omega
    have ht : ∀ t', t'.size ≤ Tree.sizes kids → t'.whole = true → ACalls Try.prog 57 [.imm t'.iv] [] (.imm (.lit (.bool (isTermP t')))) [] := fun t' h1 h2 => ih t' (by simp only [Tree.size]; omega) h2 (by omega)
    have hfs : ∀ fs : List (FuncId × (Tree → Bool)), (∀ p ∈ fs, p = ((88 : FuncId), tconP) ∨ p = ((89 : FuncId), tkindP) ∨ p = ((57 : FuncId), isTermP)) →
        ∀ i (hi : i < fs.length) (hk : i < kids.length), ACalls Try.prog fs[i].1 [.imm kids[i].iv] [] (.imm (.lit (.bool (fs[i].2 kids[i])))) [] := fun fs hp i hi hk => by
      have hm := cT (List.getElem_mem hk)
      rcases hp fs[i] (List.getElem_mem hi) with e | e | e <;> rw [e]
      · exact xY _ (by omega)
      · exact wE _ (by omega)
      · exact ht _ hm (cD h (List.getElem_mem hk))
    refine bY Try.func57 rfl rfl (nb rfl) rfl ?_
    repeat' (first | refine bM ?_ | (refine bP ?_; first | refine aX tabOk rfl rfl rfl (nb rfl) rfl ?_ | refine bF rfl rfl (nb rfl) ?_ | (refine bO rfl rfl rfl (nb rfl) rfl rfl rfl (fun hq => ?_) (fun hq => ?_) <;> (first | (simp only [sD, sE, sB, sC, sN, sM, sT, sF] at hq; try (exfalso; omega)) | skip))| (refine cE rfl rfl rfl (nb rfl) rfl rfl rfl (mP _) (fun hq => ?_) (fun hq => ?_)) | (refine cE rfl rfl rfl (nb rfl) rfl rfl rfl (tQ _ _ _ _ _) (fun hq => ?_) (fun hq => ?_)) | (refine cE rfl rfl rfl (nb rfl) rfl rfl rfl (wG _ _ _ _ _) (fun hq => ?_) (fun hq => ?_)) | (refine cE rfl rfl rfl (nb rfl) rfl rfl rfl (kB kids 137 true hw hz (fun t' h1 h2 => ht t' (by omega) h2)) (fun hq => ?_) (fun hq => ?_)) | (refine cE rfl rfl rfl (nb rfl) rfl rfl rfl (rI _ _ _ _ kids 1 (by omega) hw hz ht) (fun hq => ?_) (fun hq => ?_)) | (refine cE rfl rfl rfl (nb rfl) rfl rfl rfl (rI _ _ _ _ kids 2 (by omega) hw hz ht) (fun hq => ?_) (fun hq => ?_)) | (refine cE rfl rfl rfl (nb rfl) rfl rfl rfl (eO _ _ _ _ _ _ [((88 : FuncId), tconP), ((57 : FuncId), isTermP)] (by decide) hl (hfs _ (by simp))) (fun hq => ?_) (fun hq => ?_)) | (refine cE rfl rfl rfl (nb rfl) rfl rfl rfl (eO _ _ _ _ _ _ [((89 : FuncId), tkindP), ((57 : FuncId), isTermP)] (by decide) hl (hfs _ (by simp))) (fun hq => ?_) (fun hq => ?_)) | (refine cE rfl rfl rfl (nb rfl) rfl rfl rfl (eO _ _ _ _ _ _ [((57 : FuncId), isTermP), ((57 : FuncId), isTermP)] (by decide) hl (hfs _ (by simp))) (fun hq => ?_) (fun hq => ?_)) | (refine cE rfl rfl rfl (nb rfl) rfl rfl rfl (eO _ _ _ _ _ _ [((57 : FuncId), isTermP)] (by decide) hl (hfs _ (by simp))) (fun hq => ?_) (fun hq => ?_)) | (refine cE rfl rfl rfl (nb rfl) rfl rfl rfl (eO _ _ _ _ _ _ [((57 : FuncId), isTermP), ((88 : FuncId), tconP)] (by decide) hl (hfs _ (by simp))) (fun hq => ?_) (fun hq => ?_)) | (refine cE rfl rfl rfl (nb rfl) rfl rfl rfl (eO _ _ _ _ _ _ [((88 : FuncId), tconP), ((57 : FuncId), isTermP), ((88 : FuncId), tconP)] (by decide) hl (hfs _ (by simp))) (fun hq => ?_) (fun hq => ?_)) | (refine cE rfl rfl rfl (nb rfl) rfl rfl rfl (eO _ _ _ _ _ _ [((57 : FuncId), isTermP), ((57 : FuncId), isTermP), ((57 : FuncId), isTermP)] (by decide) hl (hfs _ (by simp))) (fun hq => ?_) (fun hq => ?_)) | refine aE rfl rfl rfl (nb rfl) rfl rfl (by omega) ?_ | refine bI rfl rfl rfl (nb rfl) rfl rfl rfl (by omega) (by omega) ?_ | refine bJ rfl rfl rfl (nb rfl) rfl rfl rfl (by omega) (by omega) ?_ | refine bH tabOk rfl rfl rfl (nb rfl) rfl rfl rfl rfl rfl rfl rfl rfl rfl ?_ | refine aZ tabOk rfl rfl (nb rfl) rfl ?_ | refine aU tabOk rfl rfl rfl (nb rfl) rfl rfl rfl rfl rfl rfl ?_ | refine aV tabOk rfl rfl rfl (nb rfl) rfl rfl rfl rfl ?_ | refine aN tabOk rfl rfl rfl rfl rfl rfl rfl rfl rfl rfl rfl ?_ | refine aR tabOk rfl rfl rfl (nb rfl) rfl rfl rfl rfl (by first | assumption | omega) ?_ | refine aJ tabOk rfl rfl rfl (nb rfl) rfl rfl rfl rfl (by first | rfl | omega) (by first | omega | simp) ?_ | refine aC tabOk rfl rfl rfl (nb rfl) rfl rfl rfl (by assumption) ?_ | refine aC tabOk rfl rfl rfl (nb rfl) rfl rfl rfl (bS _ _ (by first | assumption | omega)) ?_ | refine aE rfl rfl rfl (nb rfl) rfl rfl (by omega) ?_ | ((fail_if_success (refine aG (b := true) rfl rfl rfl ?_)); (fail_if_success (refine aG (b := false) rfl rfl rfl ?_)); refine aW rfl rfl rfl (fun hq => ?_) (fun hq => ?_) <;> first | subst hq | (first | (simp only [sD, sE, sB, sC, sN, sM, sT, sF] at hq; try (exfalso; omega)) | skip)) | fail) | (refine bW ?_; first | refine bN ?_ | refine bT ?_ | refine aQ ?_ | refine bD ?_ | refine bU ?_ | refine bL ?_ | refine bK ?_ | refine aA (b := true) rfl (fun _ => ?_) nTf | refine aA (b := false) rfl nFt (fun _ => ?_) | refine bE ?_ | refine bC ?_ | refine bA mixed (by kernel_rfl) ?_ | refine aD mixed (by kernel_rfl) ?_ | (refine aA rfl (fun hq => ?_) (fun hq => ?_) <;> first | subst hq | (first | (simp only [sD, sE, sB, sC, sN, sM, sT, sF] at hq; try (exfalso; omega)) | skip)) | fail) | (refine bQ ?_; first | refine bZ ?_ | refine aK ?_ | refine aT ?_ | fail) | (refine bG ?_; first | refine bV ?_ | refine aH ?_ | refine aI (by decide) ?_ | refine aM ?_ | fail) | refine bR (bB (by kernel_rfl)) ?_ | fail)
    all_goals
      refine cA (by first | exact .inl rfl | exact .inr rfl) (cB rfl (aY rfl)) rfl ?_
      refine cK ?_
      clear hfs ht ih
      have e1 := (yF 57 kids).symm
      have e2 := (wJ 57 88 kids).symm
      have e3 : (fieldsP kids 137 && distinctP kids && steadyP kids) = labelledP kids 137 true := by simp [labelledP]
      try simp only [yB, yC, yD, pY, yE, wH, wI] at *
      first | (have hk : k = 130 := (by assumption); subst hk) | (have hk : k = 131 := (by assumption); subst hk) | (have hk : k = 132 := (by assumption); subst hk) | (have hk : k = 133 := (by assumption); subst hk) | (have hk : k = 134 := (by assumption); subst hk) | (have hk : k = 135 := (by assumption); subst hk) | (have hk : k = 136 := (by assumption); subst hk) | (have hk : k = 138 := (by assumption); subst hk) | (have hk : k = 139 := (by assumption); subst hk) | (have hk : k = 140 := (by assumption); subst hk) | (have hk : k = 141 := (by assumption); subst hk) | (have hk : k = 142 := (by assumption); subst hk) | (have hk : k = 143 := (by assumption); subst hk) | (have hk : k = 144 := (by assumption); subst hk) | (have hk : k = 145 := (by assumption); subst hk) | (have hk : k = 146 := (by assumption); subst hk) | (have hk : k = 147 := (by assumption); subst hk) | (have hk : k = 148 := (by assumption); subst hk) | skip
      rw [isTermP]
      first | (have h3 : eqB a emptyB = true := beq_iff_eq.2 (by assumption); have h4 : eqB b emptyB = true := beq_iff_eq.2 (by assumption); simp [headP, namedK, h3, h4, *]; done) | (have h3 : eqB a emptyB = false := beq_eq_false_iff_ne.2 (by assumption); have h4 : eqB b emptyB = true := beq_iff_eq.2 (by assumption); simp [headP, namedK, h3, h4, *]; done) | (simp [headP, namedK, eqB, emptyB, *]; done) | (refine false_and ?_; have h1 : (k == 138) = false := beq_eq_false_iff_ne.2 (by assumption); have h2 : (k == 146) = false := beq_eq_false_iff_ne.2 (by assumption); have h3 : eqB a emptyB = false := beq_eq_false_iff_ne.2 (by assumption); simp [headP, namedK, h1, h2, h3]; done) | (refine false_and ?_; have h1 : (k == 138) = false := beq_eq_false_iff_ne.2 (by assumption); have h2 : (k == 146) = false := beq_eq_false_iff_ne.2 (by assumption); clear e1 e2 e3; simp_all [headP, namedK, eqB, emptyB]; done) | (refine false_and ?_; clear e1 e2 e3; simp_all [headP, namedK, eqB, emptyB]; done) | skip
def tcheckP (t : Tree) : Int := checkP isTermP t
set_option maxHeartbeats 4000000 in
set_option maxRecDepth 10000 in
theorem tS (t : Tree) (hs : t.size ≤ 1000000) : ACalls Try.prog 27 [.imm t.iv] [] (.imm (.lit (.int .i64 (tcheckP t)))) [] := by
  refine bY Try.func27 rfl rfl (nb rfl) rfl ?_
  repeat' (first | refine bM ?_ | (refine bP ?_; first | refine aX tabOk rfl rfl rfl (nb rfl) rfl ?_ | refine bF rfl rfl (nb rfl) ?_ | (refine bO rfl rfl rfl (nb rfl) rfl rfl rfl (fun hq => ?_) (fun hq => ?_) <;> (first | (simp only [sD, sE, sB, sC, sN, sM, sT, sF] at hq; try (exfalso; omega)) | skip))| refine cX 1000 tabOk rfl rfl rfl (nb rfl) rfl rfl rfl rfl rfl rfl ?_ | refine cL rfl rfl (nb rfl) rfl rfl rfl rfl (tO t 65536 hs (by omega) (by omega)) (by exact ⟨rfl, trivial⟩) rfl (by simp) ?_ | (refine cE rfl rfl rfl (nb rfl) rfl rfl rfl (tR t (eD t _ (by assumption)) hs) (fun hq => ?_) (fun hq => ?_)) | refine aE rfl rfl rfl (nb rfl) rfl rfl (by omega) ?_ | refine bI rfl rfl rfl (nb rfl) rfl rfl rfl (by omega) (by omega) ?_ | refine bJ rfl rfl rfl (nb rfl) rfl rfl rfl (by omega) (by omega) ?_ | refine bH tabOk rfl rfl rfl (nb rfl) rfl rfl rfl rfl rfl rfl rfl rfl rfl ?_ | refine aZ tabOk rfl rfl (nb rfl) rfl ?_ | refine aU tabOk rfl rfl rfl (nb rfl) rfl rfl rfl rfl rfl rfl ?_ | refine aV tabOk rfl rfl rfl (nb rfl) rfl rfl rfl rfl ?_ | refine aN tabOk rfl rfl rfl rfl rfl rfl rfl rfl rfl rfl rfl ?_ | refine aR tabOk rfl rfl rfl (nb rfl) rfl rfl rfl rfl (by first | assumption | omega) ?_ | refine aJ tabOk rfl rfl rfl (nb rfl) rfl rfl rfl rfl (by first | rfl | omega) (by first | omega | simp) ?_ | refine aC tabOk rfl rfl rfl (nb rfl) rfl rfl rfl (by assumption) ?_ | refine aC tabOk rfl rfl rfl (nb rfl) rfl rfl rfl (bS _ _ (by first | assumption | omega)) ?_ | refine aE rfl rfl rfl (nb rfl) rfl rfl (by omega) ?_ | ((fail_if_success (refine aG (b := true) rfl rfl rfl ?_)); (fail_if_success (refine aG (b := false) rfl rfl rfl ?_)); refine aW rfl rfl rfl (fun hq => ?_) (fun hq => ?_) <;> first | subst hq | (first | (simp only [sD, sE, sB, sC, sN, sM, sT, sF] at hq; try (exfalso; omega)) | skip)) | fail) | (refine bW ?_; first | refine bN ?_ | refine bT ?_ | refine aQ ?_ | refine bD ?_ | refine bU ?_ | refine bL ?_ | refine bK ?_ | refine aA (b := true) rfl (fun _ => ?_) nTf | refine aA (b := false) rfl nFt (fun _ => ?_) | refine bE ?_ | refine bC ?_ | refine bA mixed (by kernel_rfl) ?_ | refine aD mixed (by kernel_rfl) ?_ | (refine aA rfl (fun hq => ?_) (fun hq => ?_) <;> first | subst hq | (first | (simp only [sD, sE, sB, sC, sN, sM, sT, sF] at hq; try (exfalso; omega)) | skip)) | fail) | (refine bQ ?_; first | refine bZ ?_ | refine aK ?_ | refine aT ?_ | fail) | (refine bG ?_; first | refine bV ?_ | refine aH ?_ | refine aI (by decide) ?_ | refine aM ?_ | fail) | refine bR (bB (by kernel_rfl)) ?_ | fail)
  all_goals (refine cA (by first | exact .inl rfl | exact .inr rfl) (cB rfl (aY rfl)) rfl ?_; refine kE ?_; simp_all [tcheckP, checkP])
end Go.Proofs.Ytlbemgokilhdnaa.Ab
