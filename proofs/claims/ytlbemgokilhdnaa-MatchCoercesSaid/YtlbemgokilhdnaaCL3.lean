/- Words, walks and laws under the claim's statement: what it uses of them. No condition of its own. -/
import Derived.Test.YtlbemgokilhdnaaCL2
import Derived.Test.YtlbemgokilhdnaaCL0
import Derived.Test.YtlbemgokilhdnaaCAb1
import Derived.Test.YtlbemgokilhdnaaCAb0
namespace Go.Proofs.Ytlbemgokilhdnaa.Ab
set_option linter.unusedVariables false
set_option linter.unusedSimpArgs false
open Go.RowKit
attribute [local irreducible] AWP AOps AExit AThen ABlock ANoGoto FeetOk
set_option maxHeartbeats 4000000 in
set_option maxRecDepth 10000 in
theorem nW (l : List Tree) (F : FuncId) (R : Tree → Bool) (hl : l.length < 1000000000)
    (hf : ∀ j (h : j < l.length), ACalls Try.prog F [.imm l[j].iv] [] (.imm (.lit (.bool (R l[j])))) []) :
    ACalls Try.prog 101 [.imm (.sl false l.length (Tree.ivs l)), .imm (.func F [] [])] [] (.imm (.lit (.int .i64 (findP R l 0)))) [] := by
  generalize hR : findP R l 0 = Q
  refine cG [] Try.func101 rfl rfl (nb rfl) rfl rfl ?_
  repeat' (first | refine bG ?_ | (refine bJ ?_; first | refine aR tabOk rfl rfl rfl (nb rfl) rfl ?_ | refine aZ rfl rfl (nb rfl) ?_ | (refine bI rfl rfl rfl (nb rfl) rfl rfl rfl (fun hq => ?_) (fun hq => ?_) <;> (first | (simp only [sD, sE, sB, sC, sN, sM, sT, sF] at hq; try (exfalso; omega)) | skip)) | refine aD rfl rfl rfl (nb rfl) rfl rfl (by omega) ?_ | refine bC rfl rfl rfl (nb rfl) rfl rfl rfl (by omega) (by omega) ?_ | refine bD rfl rfl rfl (nb rfl) rfl rfl rfl (by omega) (by omega) ?_ | refine bB tabOk rfl rfl rfl (nb rfl) rfl rfl rfl rfl rfl rfl rfl rfl rfl ?_ | refine aT tabOk rfl rfl (nb rfl) rfl ?_ | refine aN tabOk rfl rfl rfl (nb rfl) rfl rfl rfl rfl rfl rfl ?_ | refine aO tabOk rfl rfl rfl (nb rfl) rfl rfl rfl rfl ?_ | refine aK tabOk rfl rfl rfl rfl rfl rfl rfl rfl rfl rfl rfl ?_ | refine aP tabOk rfl rfl rfl (nb rfl) rfl rfl rfl rfl (by first | assumption | omega) ?_ | refine aH tabOk rfl rfl rfl (nb rfl) rfl rfl rfl rfl (by first | rfl | omega) (by first | omega | simp) ?_ | refine aB tabOk rfl rfl rfl (nb rfl) rfl rfl rfl (by assumption) ?_ | refine aB tabOk rfl rfl rfl (nb rfl) rfl rfl rfl (bM _ _ (by first | assumption | omega)) ?_ | refine aD rfl rfl rfl (nb rfl) rfl rfl (by omega) ?_ | ((fail_if_success (refine aE (b := true) rfl rfl rfl ?_)); (fail_if_success (refine aE (b := false) rfl rfl rfl ?_)); refine aQ rfl rfl rfl (fun hq => ?_) (fun hq => ?_) <;> first | subst hq | (first | (simp only [sD, sE, sB, sC, sN, sM, sT, sF] at hq; try (exfalso; omega)) | skip)) | fail) | (refine bQ ?_; first | refine bH ?_ | refine bN ?_ | refine aL ?_ | refine aX ?_ | refine bO ?_ | refine bF ?_ | refine bE ?_ | refine aA (b := true) rfl (fun _ => ?_) nTf | refine aA (b := false) rfl nFt (fun _ => ?_) | refine aY ?_ | refine aW ?_ | refine aU mixed (by kernel_rfl) ?_ | refine aC mixed (by kernel_rfl) ?_ | (refine aA rfl (fun hq => ?_) (fun hq => ?_) <;> first | subst hq | (first | (simp only [sD, sE, sB, sC, sN, sM, sT, sF] at hq; try (exfalso; omega)) | skip)) | fail) | (refine bK ?_; first | refine bT ?_ | refine aI ?_ | refine aM ?_ | fail) | (refine bA ?_; first | refine bP ?_ | refine aF ?_ | refine aG (by decide) ?_ | refine aJ ?_ | fail) | refine bL (aV (by kernel_rfl)) ?_ | fail)
  refine cJ (ι := {j : Nat // j ≤ l.length ∧ findP R (l.drop j) j = Q}) (fun j => S.f ⟨[(8, .imm (.lit (.int .i64 (j.1 : Int)))), (7, .imm (.lit (.int .i64 (l.length : Int)))), (0, .imm (.sl false l.length (Tree.ivs l))), (1, .imm (.func F [] []))], []⟩) (fun j => l.length - j.1) ⟨0, Nat.zero_le _, hR⟩ (cB (by repeat' first | exact trivial | refine ⟨rfl, ?_⟩) (by repeat' first | exact trivial | refine ⟨rfl, ?_⟩)) ?_
  clear hR
  rintro ⟨j, hj, hR⟩
  dsimp only
  by_cases hlt : j < l.length
  · have hget := bM l j hlt
    have hc := hf j hlt
    rw [List.drop_eq_getElem_cons hlt, findP] at hR
    cases hRj : R l[j] with
    | true =>
      rw [hRj] at hc hR
      rw [if_pos rfl] at hR
      subst hR
      repeat' (first | refine bG ?_ | (refine bJ ?_; first | refine aR tabOk rfl rfl rfl (nb rfl) rfl ?_ | refine aZ rfl rfl (nb rfl) ?_ | (refine bI rfl rfl rfl (nb rfl) rfl rfl rfl (fun hq => ?_) (fun hq => ?_) <;> (first | (simp only [sD, sE, sB, sC, sN, sM, sT, sF] at hq; try (exfalso; omega)) | skip))| refine cC rfl rfl (nb rfl) rfl rfl rfl rfl hc (by repeat' first | exact trivial | refine ⟨rfl, ?_⟩) rfl (by show ([] : List Nat).Nodup; decide) ?_ | refine aD rfl rfl rfl (nb rfl) rfl rfl (by omega) ?_ | refine bC rfl rfl rfl (nb rfl) rfl rfl rfl (by omega) (by omega) ?_ | refine bD rfl rfl rfl (nb rfl) rfl rfl rfl (by omega) (by omega) ?_ | refine bB tabOk rfl rfl rfl (nb rfl) rfl rfl rfl rfl rfl rfl rfl rfl rfl ?_ | refine aT tabOk rfl rfl (nb rfl) rfl ?_ | refine aN tabOk rfl rfl rfl (nb rfl) rfl rfl rfl rfl rfl rfl ?_ | refine aO tabOk rfl rfl rfl (nb rfl) rfl rfl rfl rfl ?_ | refine aK tabOk rfl rfl rfl rfl rfl rfl rfl rfl rfl rfl rfl ?_ | refine aP tabOk rfl rfl rfl (nb rfl) rfl rfl rfl rfl (by first | assumption | omega) ?_ | refine aH tabOk rfl rfl rfl (nb rfl) rfl rfl rfl rfl (by first | rfl | omega) (by first | omega | simp) ?_ | refine aB tabOk rfl rfl rfl (nb rfl) rfl rfl rfl (by assumption) ?_ | refine aB tabOk rfl rfl rfl (nb rfl) rfl rfl rfl (bM _ _ (by first | assumption | omega)) ?_ | refine aD rfl rfl rfl (nb rfl) rfl rfl (by omega) ?_ | ((fail_if_success (refine aE (b := true) rfl rfl rfl ?_)); (fail_if_success (refine aE (b := false) rfl rfl rfl ?_)); refine aQ rfl rfl rfl (fun hq => ?_) (fun hq => ?_) <;> first | subst hq | (first | (simp only [sD, sE, sB, sC, sN, sM, sT, sF] at hq; try (exfalso; omega)) | skip)) | fail) | (refine bQ ?_; first | refine bH ?_ | refine bN ?_ | refine aL ?_ | refine aX ?_ | refine bO ?_ | refine bF ?_ | refine bE ?_ | refine aA (b := true) rfl (fun _ => ?_) nTf | refine aA (b := false) rfl nFt (fun _ => ?_) | refine aY ?_ | refine aW ?_ | refine aU mixed (by kernel_rfl) ?_ | refine aC mixed (by kernel_rfl) ?_ | (refine aA rfl (fun hq => ?_) (fun hq => ?_) <;> first | subst hq | (first | (simp only [sD, sE, sB, sC, sN, sM, sT, sF] at hq; try (exfalso; omega)) | skip)) | fail) | (refine bK ?_; first | refine bT ?_ | refine aI ?_ | refine aM ?_ | fail) | (refine bA ?_; first | refine bP ?_ | refine aF ?_ | refine aG (by decide) ?_ | refine aJ ?_ | fail) | refine bL (aV (by kernel_rfl)) ?_ | fail)
      all_goals first
        | (exfalso; omega)
        | (refine cK (cF (by first | exact .inl rfl | exact .inr rfl) (bU rfl (aS rfl)) rfl (by repeat' first | exact trivial | refine ⟨rfl, ?_⟩) rfl ?_); rfl)
    | false =>
      rw [hRj] at hc hR
      rw [if_neg (by simp)] at hR
      repeat' (first | refine bG ?_ | (refine bJ ?_; first | refine aR tabOk rfl rfl rfl (nb rfl) rfl ?_ | refine aZ rfl rfl (nb rfl) ?_ | (refine bI rfl rfl rfl (nb rfl) rfl rfl rfl (fun hq => ?_) (fun hq => ?_) <;> (first | (simp only [sD, sE, sB, sC, sN, sM, sT, sF] at hq; try (exfalso; omega)) | skip))| refine cC rfl rfl (nb rfl) rfl rfl rfl rfl hc (by repeat' first | exact trivial | refine ⟨rfl, ?_⟩) rfl (by show ([] : List Nat).Nodup; decide) ?_ | refine aD rfl rfl rfl (nb rfl) rfl rfl (by omega) ?_ | refine bC rfl rfl rfl (nb rfl) rfl rfl rfl (by omega) (by omega) ?_ | refine bD rfl rfl rfl (nb rfl) rfl rfl rfl (by omega) (by omega) ?_ | refine bB tabOk rfl rfl rfl (nb rfl) rfl rfl rfl rfl rfl rfl rfl rfl rfl ?_ | refine aT tabOk rfl rfl (nb rfl) rfl ?_ | refine aN tabOk rfl rfl rfl (nb rfl) rfl rfl rfl rfl rfl rfl ?_ | refine aO tabOk rfl rfl rfl (nb rfl) rfl rfl rfl rfl ?_ | refine aK tabOk rfl rfl rfl rfl rfl rfl rfl rfl rfl rfl rfl ?_ | refine aP tabOk rfl rfl rfl (nb rfl) rfl rfl rfl rfl (by first | assumption | omega) ?_ | refine aH tabOk rfl rfl rfl (nb rfl) rfl rfl rfl rfl (by first | rfl | omega) (by first | omega | simp) ?_ | refine aB tabOk rfl rfl rfl (nb rfl) rfl rfl rfl (by assumption) ?_ | refine aB tabOk rfl rfl rfl (nb rfl) rfl rfl rfl (bM _ _ (by first | assumption | omega)) ?_ | refine aD rfl rfl rfl (nb rfl) rfl rfl (by omega) ?_ | ((fail_if_success (refine aE (b := true) rfl rfl rfl ?_)); (fail_if_success (refine aE (b := false) rfl rfl rfl ?_)); refine aQ rfl rfl rfl (fun hq => ?_) (fun hq => ?_) <;> first | subst hq | (first | (simp only [sD, sE, sB, sC, sN, sM, sT, sF] at hq; try (exfalso; omega)) | skip)) | fail) | (refine bQ ?_; first | refine bH ?_ | refine bN ?_ | refine aL ?_ | refine aX ?_ | refine bO ?_ | refine bF ?_ | refine bE ?_ | refine aA (b := true) rfl (fun _ => ?_) nTf | refine aA (b := false) rfl nFt (fun _ => ?_) | refine aY ?_ | refine aW ?_ | refine aU mixed (by kernel_rfl) ?_ | refine aC mixed (by kernel_rfl) ?_ | (refine aA rfl (fun hq => ?_) (fun hq => ?_) <;> first | subst hq | (first | (simp only [sD, sE, sB, sC, sN, sM, sT, sF] at hq; try (exfalso; omega)) | skip)) | fail) | (refine bK ?_; first | refine bT ?_ | refine aI ?_ | refine aM ?_ | fail) | (refine bA ?_; first | refine bP ?_ | refine aF ?_ | refine aG (by decide) ?_ | refine aJ ?_ | fail) | refine bL (aV (by kernel_rfl)) ?_ | fail)
      all_goals first
        | (exfalso; omega)
        | exact ⟨⟨j + 1, hlt, hR⟩, (by show l.length - (j + 1) < l.length - j; omega), (cB (by repeat' first | exact trivial | refine ⟨rfl, ?_⟩) (by repeat' first | exact trivial | refine ⟨rfl, ?_⟩))⟩
  · have ej : j = l.length := by omega
    subst ej
    rw [List.drop_length, findP] at hR
    subst hR
    repeat' (first | refine bG ?_ | (refine bJ ?_; first | refine aR tabOk rfl rfl rfl (nb rfl) rfl ?_ | refine aZ rfl rfl (nb rfl) ?_ | (refine bI rfl rfl rfl (nb rfl) rfl rfl rfl (fun hq => ?_) (fun hq => ?_) <;> (first | (simp only [sD, sE, sB, sC, sN, sM, sT, sF] at hq; try (exfalso; omega)) | skip)) | refine aD rfl rfl rfl (nb rfl) rfl rfl (by omega) ?_ | refine bC rfl rfl rfl (nb rfl) rfl rfl rfl (by omega) (by omega) ?_ | refine bD rfl rfl rfl (nb rfl) rfl rfl rfl (by omega) (by omega) ?_ | refine bB tabOk rfl rfl rfl (nb rfl) rfl rfl rfl rfl rfl rfl rfl rfl rfl ?_ | refine aT tabOk rfl rfl (nb rfl) rfl ?_ | refine aN tabOk rfl rfl rfl (nb rfl) rfl rfl rfl rfl rfl rfl ?_ | refine aO tabOk rfl rfl rfl (nb rfl) rfl rfl rfl rfl ?_ | refine aK tabOk rfl rfl rfl rfl rfl rfl rfl rfl rfl rfl rfl ?_ | refine aP tabOk rfl rfl rfl (nb rfl) rfl rfl rfl rfl (by first | assumption | omega) ?_ | refine aH tabOk rfl rfl rfl (nb rfl) rfl rfl rfl rfl (by first | rfl | omega) (by first | omega | simp) ?_ | refine aB tabOk rfl rfl rfl (nb rfl) rfl rfl rfl (by assumption) ?_ | refine aB tabOk rfl rfl rfl (nb rfl) rfl rfl rfl (bM _ _ (by first | assumption | omega)) ?_ | refine aD rfl rfl rfl (nb rfl) rfl rfl (by omega) ?_ | ((fail_if_success (refine aE (b := true) rfl rfl rfl ?_)); (fail_if_success (refine aE (b := false) rfl rfl rfl ?_)); refine aQ rfl rfl rfl (fun hq => ?_) (fun hq => ?_) <;> first | subst hq | (first | (simp only [sD, sE, sB, sC, sN, sM, sT, sF] at hq; try (exfalso; omega)) | skip)) | fail) | (refine bQ ?_; first | refine bH ?_ | refine bN ?_ | refine aL ?_ | refine aX ?_ | refine bO ?_ | refine bF ?_ | refine bE ?_ | refine aA (b := true) rfl (fun _ => ?_) nTf | refine aA (b := false) rfl nFt (fun _ => ?_) | refine aY ?_ | refine aW ?_ | refine aU mixed (by kernel_rfl) ?_ | refine aC mixed (by kernel_rfl) ?_ | (refine aA rfl (fun hq => ?_) (fun hq => ?_) <;> first | subst hq | (first | (simp only [sD, sE, sB, sC, sN, sM, sT, sF] at hq; try (exfalso; omega)) | skip)) | fail) | (refine bK ?_; first | refine bT ?_ | refine aI ?_ | refine aM ?_ | fail) | (refine bA ?_; first | refine bP ?_ | refine aF ?_ | refine aG (by decide) ?_ | refine aJ ?_ | fail) | refine bL (aV (by kernel_rfl)) ?_ | fail)
    all_goals first
      | (exfalso; omega)
      | (refine cK (cF (by first | exact .inl rfl | exact .inr rfl) (bU rfl (aS rfl)) rfl (by repeat' first | exact trivial | refine ⟨rfl, ?_⟩) rfl ?_); rfl)
set_option maxHeartbeats 4000000 in
set_option maxRecDepth 10000 in
theorem kL (l : List Tree) (F : FuncId) (R : Tree → Bool) (hl : l.length < 1000000000)
    (hf : ∀ j (h : j < l.length), ACalls Try.prog F [.imm l[j].iv] [] (.imm (.lit (.bool (R l[j])))) []) :
    ACalls Try.prog 72 [.imm (.sl false l.length (Tree.ivs l)), .imm (.func F [] [])] [] (.imm (.lit (.bool (l.any R)))) [] := by
  have hc := nW l F R hl hf
  have ha := mX R l 0
  generalize findP R l 0 = Q at *
  refine cG [] Try.func72 rfl rfl (nb rfl) rfl rfl ?_
  repeat' (first | refine bG ?_ | (refine bJ ?_; first | refine aR tabOk rfl rfl rfl (nb rfl) rfl ?_ | refine aZ rfl rfl (nb rfl) ?_ | (refine bI rfl rfl rfl (nb rfl) rfl rfl rfl (fun hq => ?_) (fun hq => ?_) <;> (first | (simp only [sD, sE, sB, sC, sN, sM, sT, sF] at hq; try (exfalso; omega)) | skip))| refine cC rfl rfl (nb rfl) rfl rfl rfl rfl hc (by repeat' first | exact trivial | refine ⟨rfl, ?_⟩) rfl (by show ([] : List Nat).Nodup; decide) ?_ | refine aD rfl rfl rfl (nb rfl) rfl rfl (by omega) ?_ | refine bC rfl rfl rfl (nb rfl) rfl rfl rfl (by omega) (by omega) ?_ | refine bD rfl rfl rfl (nb rfl) rfl rfl rfl (by omega) (by omega) ?_ | refine bB tabOk rfl rfl rfl (nb rfl) rfl rfl rfl rfl rfl rfl rfl rfl rfl ?_ | refine aT tabOk rfl rfl (nb rfl) rfl ?_ | refine aN tabOk rfl rfl rfl (nb rfl) rfl rfl rfl rfl rfl rfl ?_ | refine aO tabOk rfl rfl rfl (nb rfl) rfl rfl rfl rfl ?_ | refine aK tabOk rfl rfl rfl rfl rfl rfl rfl rfl rfl rfl rfl ?_ | refine aP tabOk rfl rfl rfl (nb rfl) rfl rfl rfl rfl (by first | assumption | omega) ?_ | refine aH tabOk rfl rfl rfl (nb rfl) rfl rfl rfl rfl (by first | rfl | omega) (by first | omega | simp) ?_ | refine aB tabOk rfl rfl rfl (nb rfl) rfl rfl rfl (by assumption) ?_ | refine aB tabOk rfl rfl rfl (nb rfl) rfl rfl rfl (bM _ _ (by first | assumption | omega)) ?_ | refine aD rfl rfl rfl (nb rfl) rfl rfl (by omega) ?_ | ((fail_if_success (refine aE (b := true) rfl rfl rfl ?_)); (fail_if_success (refine aE (b := false) rfl rfl rfl ?_)); refine aQ rfl rfl rfl (fun hq => ?_) (fun hq => ?_) <;> first | subst hq | (first | (simp only [sD, sE, sB, sC, sN, sM, sT, sF] at hq; try (exfalso; omega)) | skip)) | fail) | (refine bQ ?_; first | refine bH ?_ | refine bN ?_ | refine aL ?_ | refine aX ?_ | refine bO ?_ | refine bF ?_ | refine bE ?_ | refine aA (b := true) rfl (fun _ => ?_) nTf | refine aA (b := false) rfl nFt (fun _ => ?_) | refine aY ?_ | refine aW ?_ | refine aU mixed (by kernel_rfl) ?_ | refine aC mixed (by kernel_rfl) ?_ | (refine aA rfl (fun hq => ?_) (fun hq => ?_) <;> first | subst hq | (first | (simp only [sD, sE, sB, sC, sN, sM, sT, sF] at hq; try (exfalso; omega)) | skip)) | fail) | (refine bK ?_; first | refine bT ?_ | refine aI ?_ | refine aM ?_ | fail) | (refine bA ?_; first | refine bP ?_ | refine aF ?_ | refine aG (by decide) ?_ | refine aJ ?_ | fail) | refine bL (aV (by kernel_rfl)) ?_ | fail)
  all_goals
    (have e : l.any R = decide (Q ≥ 0) := by
       cases h : l.any R with
       | true => exact (decide_eq_true (ha.2 h)).symm
       | false => exact (decide_eq_false (fun hq => by rw [ha.1 hq] at h; cases h)).symm
     rw [e]
     refine cK (cF (by first | exact .inl rfl | exact .inr rfl) (bU rfl (aS rfl)) rfl (by repeat' first | exact trivial | refine ⟨rfl, ?_⟩) rfl ?_); refine cE ?_; first | exact (decide_eq_true (by assumption)).symm | exact (decide_eq_false (by assumption)).symm)
set_option maxRecDepth 10000 in
theorem sU (t : Tree) (hs : t.size ≤ 1000000) : ACalls Try.prog 104 [.imm t.iv] [] (.imm (.lit (.bool (!decide (checkP isConP t = 0))))) [] := by
  have c1 := dV t hs
  generalize checkP isConP t = C at *
  refine bR Try.func104 rfl rfl (nb rfl) rfl ?_
  repeat' (first | refine bG ?_ | (refine bJ ?_; first | refine aR tabOk rfl rfl rfl (nb rfl) rfl ?_ | refine aZ rfl rfl (nb rfl) ?_ | (refine bI rfl rfl rfl (nb rfl) rfl rfl rfl (fun hq => ?_) (fun hq => ?_) <;> (first | (simp only [sD, sE, sB, sC, sN, sM, sT, sF] at hq; try (exfalso; omega)) | skip))| refine bS rfl rfl (nb rfl) rfl rfl rfl rfl (c1) ?_ | refine aD rfl rfl rfl (nb rfl) rfl rfl (by omega) ?_ | refine bC rfl rfl rfl (nb rfl) rfl rfl rfl (by omega) (by omega) ?_ | refine bD rfl rfl rfl (nb rfl) rfl rfl rfl (by omega) (by omega) ?_ | refine bB tabOk rfl rfl rfl (nb rfl) rfl rfl rfl rfl rfl rfl rfl rfl rfl ?_ | refine aT tabOk rfl rfl (nb rfl) rfl ?_ | refine aN tabOk rfl rfl rfl (nb rfl) rfl rfl rfl rfl rfl rfl ?_ | refine aO tabOk rfl rfl rfl (nb rfl) rfl rfl rfl rfl ?_ | refine aK tabOk rfl rfl rfl rfl rfl rfl rfl rfl rfl rfl rfl ?_ | refine aP tabOk rfl rfl rfl (nb rfl) rfl rfl rfl rfl (by first | assumption | omega) ?_ | refine aH tabOk rfl rfl rfl (nb rfl) rfl rfl rfl rfl (by first | rfl | omega) (by first | omega | simp) ?_ | refine aB tabOk rfl rfl rfl (nb rfl) rfl rfl rfl (by assumption) ?_ | refine aB tabOk rfl rfl rfl (nb rfl) rfl rfl rfl (bM _ _ (by first | assumption | omega)) ?_ | refine aD rfl rfl rfl (nb rfl) rfl rfl (by omega) ?_ | ((fail_if_success (refine aE (b := true) rfl rfl rfl ?_)); (fail_if_success (refine aE (b := false) rfl rfl rfl ?_)); refine aQ rfl rfl rfl (fun hq => ?_) (fun hq => ?_) <;> first | subst hq | (first | (simp only [sD, sE, sB, sC, sN, sM, sT, sF] at hq; try (exfalso; omega)) | skip)) | fail) | (refine bQ ?_; first | refine bH ?_ | refine bN ?_ | refine aL ?_ | refine aX ?_ | refine bO ?_ | refine bF ?_ | refine bE ?_ | refine aA (b := true) rfl (fun _ => ?_) nTf | refine aA (b := false) rfl nFt (fun _ => ?_) | refine aY ?_ | refine aW ?_ | refine aU mixed (by kernel_rfl) ?_ | refine aC mixed (by kernel_rfl) ?_ | (refine aA rfl (fun hq => ?_) (fun hq => ?_) <;> first | subst hq | (first | (simp only [sD, sE, sB, sC, sN, sM, sT, sF] at hq; try (exfalso; omega)) | skip)) | fail) | (refine bK ?_; first | refine bT ?_ | refine aI ?_ | refine aM ?_ | fail) | (refine bA ?_; first | refine bP ?_ | refine aF ?_ | refine aG (by decide) ?_ | refine aJ ?_ | fail) | refine bL (aV (by kernel_rfl)) ?_ | fail)
  all_goals (refine bV (by first | exact .inl rfl | exact .inr rfl) (bU rfl (aS rfl)) rfl ?_; refine cE ?_; simp_all)
/-- The constructors put in, one after the other. -/
def fillL (n : Int) : List Tree → Int → Tree → Tree × Int
  | [], _, s => (s, 0)
  | c :: cs, i, s => if (shiftP c (n - 1 - i) 0).2 ≠ 0 then (.nil, 3) else if (ssubstP s 0 (shiftP c (n - 1 - i) 0).1).2 ≠ 0 then (.nil, (ssubstP s 0 (shiftP c (n - 1 - i) 0).1).2) else fillL n cs (i + 1) (ssubstP s 0 (shiftP c (n - 1 - i) 0).1).1
/-- None of what is made on the way is beyond what is looked at here. -/
def fillOk (n : Int) : List Tree → Int → Tree → Bool
  | [], _, _ => true
  | c :: cs, i, s => if (shiftP c (n - 1 - i) 0).2 ≠ 0 then true else decide ((swalkP (ssubC 0 (shiftP c (n - 1 - i) 0).1) s 0).1.size ≤ 1000000) && (if (ssubstP s 0 (shiftP c (n - 1 - i) 0).1).2 ≠ 0 then true else fillOk n cs (i + 1) (ssubstP s 0 (shiftP c (n - 1 - i) 0).1).1)
/-- The end: are the types small? -/
def finP (r : Tree × Int) : Tree × Int := if r.2 ≠ 0 then (.nil, r.2) else if ssmallP r.1 ≠ 0 then (.nil, ssmallP r.1) else (r.1, 0)
def fillP (ex : Tree) (cons : List Tree) : Tree × Int :=
  if checkP sformP ex ≠ 0 then (.nil, checkP sformP ex)
  else if ex.kind ≠ 164 then (.nil, 16)
  else if (cons.length : Int) ≠ ex.num ∨ (cons.any fun c => !decide (checkP isConP c = 0)) = true then (.nil, 2)
  else finP (fillL cons.length cons 0 (kid0 ex))
theorem nX {t by_ : Tree} {i : Int} (h : (ssubstP t i by_).2 = 0) : (ssubstP t i by_).1.size ≤ 65536 := by
  unfold ssubstP at h ⊢
  split at h
  · rename_i hc; exact absurd h hc
  · rename_i hc
    rw [if_neg hc]
    split at h
    · rename_i hb; exact absurd h hb
    · rename_i hb
      rw [if_neg hb]
      split at h
      · cases h
      · rename_i hi
        rw [if_neg hi]
        unfold sizedP at h ⊢
        split at h
        · rename_i h1; exact absurd h h1
        · rename_i h1
          rw [if_neg h1]
          split at h
          · rename_i h2; exact absurd h h2
          · rename_i h2
            rw [if_neg h2]
            have h3 := jZ (swalkP (ssubC i by_) t 0).1 65536 (by omega) (by omega)
            have h4 := eM (swalkP (ssubC i by_) t 0).1 65536 (by omega) (by omega)
            dsimp only
            omega
set_option maxHeartbeats 16000000 in
set_option maxRecDepth 10000 in
theorem wC (ex : Tree) (cons : List Tree) (hse : ex.size ≤ 1000000) (hl : cons.length ≤ 100000) (hcs : ∀ c ∈ cons, c.size ≤ 1000000) (hok : fillOk cons.length cons 0 (kid0 ex) = true) :
    ACalls Try.prog 70 [.imm ex.iv, .imm (.sl false cons.length (Tree.ivs cons))] [] (.imm (.tup [(fillP ex cons).1.iv, .lit (.int .i64 (fillP ex cons).2)])) [] := by
  have c1 := dO ex hse
  have c2 := kL cons 104 (fun c => !decide (checkP isConP c = 0)) (by omega) (fun j h => sU _ (hcs _ (List.getElem_mem h)))
  have hgood : (cons.any fun c => !decide (checkP isConP c = 0)) = false → ∀ c ∈ cons, checkP isConP c = 0 := fun h c hc => by
    rw [List.any_eq_false] at h
    have := h c hc
    simpa using this
  obtain ⟨Q, hQ⟩ : ∃ Q, fillP ex cons = Q := ⟨_, rfl⟩
  rw [hQ]
  unfold fillP at hQ
  by_cases hca : checkP sformP ex = 0
  · rw [if_neg (by simpa using hca)] at hQ
    rw [hca] at c1
    have hwe := (cD hca).1
    by_cases hk : ex.kind = 164
    · rw [if_neg (by simpa using hk)] at hQ
      obtain ⟨N, a, b, kid, rfl, hkid, hN0, hN1⟩ := rG hca hk
      have hkz := cH (k := 164) (n := N) (a := a) (b := b) (kids := [kid]) (t := kid) (by simp)
      change fillOk cons.length cons 0 kid = true at hok
      have hnum : (Tree.node 164 N a b [kid]).num = N := rfl
      have hkd0 : kid0 (Tree.node 164 N a b [kid]) = kid := rfl
      rw [hnum, hkd0] at hQ
      by_cases hbad : (cons.length : Int) ≠ N ∨ (cons.any fun c => !decide (checkP isConP c = 0)) = true
      · rw [if_pos hbad] at hQ
        subst hQ
        clear hgood hok
        generalize (cons.any fun c => !decide (checkP isConP c = 0)) = B at *
        cases B <;>
        (refine bR Try.func70 rfl rfl (nb rfl) rfl ?_
         repeat' (first | refine bG ?_ | (refine bJ ?_; first | refine aR tabOk rfl rfl rfl (nb rfl) rfl ?_ | refine aZ rfl rfl (nb rfl) ?_ | (refine bI rfl rfl rfl (nb rfl) rfl rfl rfl (fun hq => ?_) (fun hq => ?_) <;> (first | (simp only [sD, sE, sB, sC, sN, sM, sT, sF] at hq; try (exfalso; omega)) | skip))| refine bS rfl rfl (nb rfl) rfl rfl rfl rfl (c1) ?_ | refine bS rfl rfl (nb rfl) rfl rfl rfl rfl (c2) ?_ | refine aD rfl rfl rfl (nb rfl) rfl rfl (by omega) ?_ | refine bC rfl rfl rfl (nb rfl) rfl rfl rfl (by omega) (by omega) ?_ | refine bD rfl rfl rfl (nb rfl) rfl rfl rfl (by omega) (by omega) ?_ | refine bB tabOk rfl rfl rfl (nb rfl) rfl rfl rfl rfl rfl rfl rfl rfl rfl ?_ | refine aT tabOk rfl rfl (nb rfl) rfl ?_ | refine aN tabOk rfl rfl rfl (nb rfl) rfl rfl rfl rfl rfl rfl ?_ | refine aO tabOk rfl rfl rfl (nb rfl) rfl rfl rfl rfl ?_ | refine aK tabOk rfl rfl rfl rfl rfl rfl rfl rfl rfl rfl rfl ?_ | refine aP tabOk rfl rfl rfl (nb rfl) rfl rfl rfl rfl (by first | assumption | omega) ?_ | refine aH tabOk rfl rfl rfl (nb rfl) rfl rfl rfl rfl (by first | rfl | omega) (by first | omega | simp) ?_ | refine aB tabOk rfl rfl rfl (nb rfl) rfl rfl rfl (by assumption) ?_ | refine aB tabOk rfl rfl rfl (nb rfl) rfl rfl rfl (bM _ _ (by first | assumption | omega)) ?_ | refine aD rfl rfl rfl (nb rfl) rfl rfl (by omega) ?_ | ((fail_if_success (refine aE (b := true) rfl rfl rfl ?_)); (fail_if_success (refine aE (b := false) rfl rfl rfl ?_)); refine aQ rfl rfl rfl (fun hq => ?_) (fun hq => ?_) <;> first | subst hq | (first | (simp only [sD, sE, sB, sC, sN, sM, sT, sF] at hq; try (exfalso; omega)) | skip)) | fail) | (refine bQ ?_; first | refine bH ?_ | refine bN ?_ | refine aL ?_ | refine aX ?_ | refine bO ?_ | refine bF ?_ | refine bE ?_ | refine aA (b := true) rfl (fun _ => ?_) nTf | refine aA (b := false) rfl nFt (fun _ => ?_) | refine aY ?_ | refine aW ?_ | refine aU mixed (by kernel_rfl) ?_ | refine aC mixed (by kernel_rfl) ?_ | (refine aA rfl (fun hq => ?_) (fun hq => ?_) <;> first | subst hq | (first | (simp only [sD, sE, sB, sC, sN, sM, sT, sF] at hq; try (exfalso; omega)) | skip)) | fail) | (refine bK ?_; first | refine bT ?_ | refine aI ?_ | refine aM ?_ | fail) | (refine bA ?_; first | refine bP ?_ | refine aF ?_ | refine aG (by decide) ?_ | refine aJ ?_ | fail) | refine bL (aV (by kernel_rfl)) ?_ | fail)
         all_goals first
           | exact absurd rfl (by assumption)
           | (exfalso; simp at hbad; omega)
           | (refine bV (by first | exact .inl rfl | exact .inr rfl) (bX rfl (aS rfl) (aS rfl)) rfl ?_; rfl))
      · rw [if_neg hbad] at hQ
        have hlen : (cons.length : Int) = N := by
          by_cases h : (cons.length : Int) = N
          · exact h
          · exact absurd (.inl h) hbad
        have hB : (cons.any fun c => !decide (checkP isConP c = 0)) = false := by
          cases h : (cons.any fun c => !decide (checkP isConP c = 0)) with
          | true => exact absurd (.inr h) hbad
          | false => rfl
        have hgood := hgood hB
        rw [hB] at c2
        clear hbad hB
        generalize hn : (cons.length : Int) = n at *
        refine bR Try.func70 rfl rfl (nb rfl) rfl ?_
        repeat' (first | refine bG ?_ | (refine bJ ?_; first | refine aR tabOk rfl rfl rfl (nb rfl) rfl ?_ | refine aZ rfl rfl (nb rfl) ?_ | (refine bI rfl rfl rfl (nb rfl) rfl rfl rfl (fun hq => ?_) (fun hq => ?_) <;> (first | (simp only [sD, sE, sB, sC, sN, sM, sT, sF] at hq; try (exfalso; omega)) | skip))| refine bS rfl rfl (nb rfl) rfl rfl rfl rfl (c1) ?_ | refine bS rfl rfl (nb rfl) rfl rfl rfl rfl (c2) ?_ | refine aD rfl rfl rfl (nb rfl) rfl rfl (by omega) ?_ | refine bC rfl rfl rfl (nb rfl) rfl rfl rfl (by omega) (by omega) ?_ | refine bD rfl rfl rfl (nb rfl) rfl rfl rfl (by omega) (by omega) ?_ | refine bB tabOk rfl rfl rfl (nb rfl) rfl rfl rfl rfl rfl rfl rfl rfl rfl ?_ | refine aT tabOk rfl rfl (nb rfl) rfl ?_ | refine aN tabOk rfl rfl rfl (nb rfl) rfl rfl rfl rfl rfl rfl ?_ | refine aO tabOk rfl rfl rfl (nb rfl) rfl rfl rfl rfl ?_ | refine aK tabOk rfl rfl rfl rfl rfl rfl rfl rfl rfl rfl rfl ?_ | refine aP tabOk rfl rfl rfl (nb rfl) rfl rfl rfl rfl (by first | assumption | omega) ?_ | refine aH tabOk rfl rfl rfl (nb rfl) rfl rfl rfl rfl (by first | rfl | omega) (by first | omega | simp) ?_ | refine aB tabOk rfl rfl rfl (nb rfl) rfl rfl rfl (by assumption) ?_ | refine aB tabOk rfl rfl rfl (nb rfl) rfl rfl rfl (bM _ _ (by first | assumption | omega)) ?_ | refine aD rfl rfl rfl (nb rfl) rfl rfl (by omega) ?_ | ((fail_if_success (refine aE (b := true) rfl rfl rfl ?_)); (fail_if_success (refine aE (b := false) rfl rfl rfl ?_)); refine aQ rfl rfl rfl (fun hq => ?_) (fun hq => ?_) <;> first | subst hq | (first | (simp only [sD, sE, sB, sC, sN, sM, sT, sF] at hq; try (exfalso; omega)) | skip)) | fail) | (refine bQ ?_; first | refine bH ?_ | refine bN ?_ | refine aL ?_ | refine aX ?_ | refine bO ?_ | refine bF ?_ | refine bE ?_ | refine aA (b := true) rfl (fun _ => ?_) nTf | refine aA (b := false) rfl nFt (fun _ => ?_) | refine aY ?_ | refine aW ?_ | refine aU mixed (by kernel_rfl) ?_ | refine aC mixed (by kernel_rfl) ?_ | (refine aA rfl (fun hq => ?_) (fun hq => ?_) <;> first | subst hq | (first | (simp only [sD, sE, sB, sC, sN, sM, sT, sF] at hq; try (exfalso; omega)) | skip)) | fail) | (refine bK ?_; first | refine bT ?_ | refine aI ?_ | refine aM ?_ | fail) | (refine bA ?_; first | refine bP ?_ | refine aF ?_ | refine aG (by decide) ?_ | refine aJ ?_ | fail) | refine bL (aV (by kernel_rfl)) ?_ | fail)
        all_goals first
          | exact absurd rfl (by assumption)
          | (exfalso; omega)
          | skip
        refine cJ (ι := {x : Nat × Tree // x.1 ≤ cons.length ∧ x.2.size ≤ 1000000 ∧ fillOk n (cons.drop x.1) (x.1 : Int) x.2 = true ∧ finP (fillL n (cons.drop x.1) (x.1 : Int) x.2) = Q}) (fun x => S.f ⟨[(46, .imm (.lit (.int .i64 (x.1.1 : Int)))), (45, .imm (.lit (.int .i64 (cons.length : Int)))), (44, .imm (.sl false cons.length (Tree.ivs cons))), (8, .imm x.1.2.iv), (1, .imm (.sl false cons.length (Tree.ivs cons)))], []⟩) (fun x => cons.length - x.1.1) ⟨(0, kid), Nat.zero_le _, by show kid.size ≤ 1000000; omega, hok, hQ⟩ (cB (by repeat' first | exact trivial | refine ⟨rfl, ?_⟩) (by repeat' first | exact trivial | refine ⟨rfl, ?_⟩)) ?_
        clear hQ hok c1 c2
        rintro ⟨⟨i, s⟩, hi, hss, hok, hQ⟩
        have hi : i ≤ cons.length := hi
        have hss : s.size ≤ 1000000 := hss
        have hok : fillOk n (cons.drop i) (i : Int) s = true := hok
        have hQ : finP (fillL n (cons.drop i) (i : Int) s) = Q := hQ
        dsimp only
        by_cases hlt : i < cons.length
        · have hm := List.getElem_mem hlt
          have hget := bM cons i hlt
          rw [List.drop_eq_getElem_cons hlt] at hok hQ
          rw [fillOk] at hok
          rw [fillL] at hQ
          have c3 := nR cons[i] (n - 1 - i) 0 (hcs _ hm)
          have hfn := gM cons[i] (n - 1 - i) 0
          have hcz := hcs _ hm
          generalize shiftP cons[i] (n - 1 - i) 0 = SH at *
          obtain ⟨S1, S2⟩ := SH
          dsimp only at *
          by_cases h2 : S2 = 0
          · subst h2
            rw [if_neg (by simp), Bool.and_eq_true, decide_eq_true_eq] at hok
            rw [if_neg (by simp)] at hQ
            obtain ⟨g1, g2, _⟩ := hfn rfl
            have c4 := uC s 0 S1 hss (by omega) hok.1
            have hok2 := hok.2
            have hsz := fun h => nX (t := s) (by_ := S1) (i := 0) h
            clear hok hfn
            generalize ssubstP s 0 S1 = W at *
            obtain ⟨W1, W2⟩ := W
            dsimp only at *
            by_cases h3 : W2 = 0
            · subst h3
              rw [if_neg (by simp)] at hok2 hQ
              have hz := hsz rfl
              repeat' (first | refine bG ?_ | (refine bJ ?_; first | refine aR tabOk rfl rfl rfl (nb rfl) rfl ?_ | refine aZ rfl rfl (nb rfl) ?_ | (refine bI rfl rfl rfl (nb rfl) rfl rfl rfl (fun hq => ?_) (fun hq => ?_) <;> (first | (simp only [sD, sE, sB, sC, sN, sM, sT, sF] at hq; try (exfalso; omega)) | skip))| refine aB tabOk rfl rfl rfl (nb rfl) rfl rfl rfl hget ?_ | refine bD (z := n - 1) rfl rfl rfl (nb rfl) rfl rfl (by omega) (by omega) (by omega) ?_ | refine bD (z := n - 1 - i) rfl rfl rfl (nb rfl) rfl rfl rfl (by omega) (by omega) ?_ | refine bS rfl rfl (nb rfl) rfl rfl rfl rfl (c3) ?_ | refine bS rfl rfl (nb rfl) rfl rfl rfl rfl (c4) ?_ | refine aD rfl rfl rfl (nb rfl) rfl rfl (by omega) ?_ | refine bC rfl rfl rfl (nb rfl) rfl rfl rfl (by omega) (by omega) ?_ | refine bD rfl rfl rfl (nb rfl) rfl rfl rfl (by omega) (by omega) ?_ | refine bB tabOk rfl rfl rfl (nb rfl) rfl rfl rfl rfl rfl rfl rfl rfl rfl ?_ | refine aT tabOk rfl rfl (nb rfl) rfl ?_ | refine aN tabOk rfl rfl rfl (nb rfl) rfl rfl rfl rfl rfl rfl ?_ | refine aO tabOk rfl rfl rfl (nb rfl) rfl rfl rfl rfl ?_ | refine aK tabOk rfl rfl rfl rfl rfl rfl rfl rfl rfl rfl rfl ?_ | refine aP tabOk rfl rfl rfl (nb rfl) rfl rfl rfl rfl (by first | assumption | omega) ?_ | refine aH tabOk rfl rfl rfl (nb rfl) rfl rfl rfl rfl (by first | rfl | omega) (by first | omega | simp) ?_ | refine aB tabOk rfl rfl rfl (nb rfl) rfl rfl rfl (by assumption) ?_ | refine aB tabOk rfl rfl rfl (nb rfl) rfl rfl rfl (bM _ _ (by first | assumption | omega)) ?_ | refine aD rfl rfl rfl (nb rfl) rfl rfl (by omega) ?_ | ((fail_if_success (refine aE (b := true) rfl rfl rfl ?_)); (fail_if_success (refine aE (b := false) rfl rfl rfl ?_)); refine aQ rfl rfl rfl (fun hq => ?_) (fun hq => ?_) <;> first | subst hq | (first | (simp only [sD, sE, sB, sC, sN, sM, sT, sF] at hq; try (exfalso; omega)) | skip)) | fail) | (refine bQ ?_; first | refine bH ?_ | refine bN ?_ | refine aL ?_ | refine aX ?_ | refine bO ?_ | refine bF ?_ | refine bE ?_ | refine aA (b := true) rfl (fun _ => ?_) nTf | refine aA (b := false) rfl nFt (fun _ => ?_) | refine aY ?_ | refine aW ?_ | refine aU mixed (by kernel_rfl) ?_ | refine aC mixed (by kernel_rfl) ?_ | (refine aA rfl (fun hq => ?_) (fun hq => ?_) <;> first | subst hq | (first | (simp only [sD, sE, sB, sC, sN, sM, sT, sF] at hq; try (exfalso; omega)) | skip)) | fail) | (refine bK ?_; first | refine bT ?_ | refine aI ?_ | refine aM ?_ | fail) | (refine bA ?_; first | refine bP ?_ | refine aF ?_ | refine aG (by decide) ?_ | refine aJ ?_ | fail) | refine bL (aV (by kernel_rfl)) ?_ | fail)
              all_goals first
                | exact absurd rfl (by assumption)
                | (exfalso; omega)
                | exact ⟨⟨(i + 1, W1), hlt, by show W1.size ≤ 1000000; omega, hok2, hQ⟩, (by show cons.length - (i + 1) < cons.length - i; omega), (cB (by repeat' first | exact trivial | refine ⟨rfl, ?_⟩) (by repeat' first | exact trivial | refine ⟨rfl, ?_⟩))⟩
            · rw [if_pos h3] at hQ
              unfold finP at hQ
              rw [if_pos h3] at hQ
              subst hQ
              repeat' (first | refine bG ?_ | (refine bJ ?_; first | refine aR tabOk rfl rfl rfl (nb rfl) rfl ?_ | refine aZ rfl rfl (nb rfl) ?_ | (refine bI rfl rfl rfl (nb rfl) rfl rfl rfl (fun hq => ?_) (fun hq => ?_) <;> (first | (simp only [sD, sE, sB, sC, sN, sM, sT, sF] at hq; try (exfalso; omega)) | skip))| refine aB tabOk rfl rfl rfl (nb rfl) rfl rfl rfl hget ?_ | refine bD (z := n - 1) rfl rfl rfl (nb rfl) rfl rfl (by omega) (by omega) (by omega) ?_ | refine bD (z := n - 1 - i) rfl rfl rfl (nb rfl) rfl rfl rfl (by omega) (by omega) ?_ | refine bS rfl rfl (nb rfl) rfl rfl rfl rfl (c3) ?_ | refine bS rfl rfl (nb rfl) rfl rfl rfl rfl (c4) ?_ | refine aD rfl rfl rfl (nb rfl) rfl rfl (by omega) ?_ | refine bC rfl rfl rfl (nb rfl) rfl rfl rfl (by omega) (by omega) ?_ | refine bD rfl rfl rfl (nb rfl) rfl rfl rfl (by omega) (by omega) ?_ | refine bB tabOk rfl rfl rfl (nb rfl) rfl rfl rfl rfl rfl rfl rfl rfl rfl ?_ | refine aT tabOk rfl rfl (nb rfl) rfl ?_ | refine aN tabOk rfl rfl rfl (nb rfl) rfl rfl rfl rfl rfl rfl ?_ | refine aO tabOk rfl rfl rfl (nb rfl) rfl rfl rfl rfl ?_ | refine aK tabOk rfl rfl rfl rfl rfl rfl rfl rfl rfl rfl rfl ?_ | refine aP tabOk rfl rfl rfl (nb rfl) rfl rfl rfl rfl (by first | assumption | omega) ?_ | refine aH tabOk rfl rfl rfl (nb rfl) rfl rfl rfl rfl (by first | rfl | omega) (by first | omega | simp) ?_ | refine aB tabOk rfl rfl rfl (nb rfl) rfl rfl rfl (by assumption) ?_ | refine aB tabOk rfl rfl rfl (nb rfl) rfl rfl rfl (bM _ _ (by first | assumption | omega)) ?_ | refine aD rfl rfl rfl (nb rfl) rfl rfl (by omega) ?_ | ((fail_if_success (refine aE (b := true) rfl rfl rfl ?_)); (fail_if_success (refine aE (b := false) rfl rfl rfl ?_)); refine aQ rfl rfl rfl (fun hq => ?_) (fun hq => ?_) <;> first | subst hq | (first | (simp only [sD, sE, sB, sC, sN, sM, sT, sF] at hq; try (exfalso; omega)) | skip)) | fail) | (refine bQ ?_; first | refine bH ?_ | refine bN ?_ | refine aL ?_ | refine aX ?_ | refine bO ?_ | refine bF ?_ | refine bE ?_ | refine aA (b := true) rfl (fun _ => ?_) nTf | refine aA (b := false) rfl nFt (fun _ => ?_) | refine aY ?_ | refine aW ?_ | refine aU mixed (by kernel_rfl) ?_ | refine aC mixed (by kernel_rfl) ?_ | (refine aA rfl (fun hq => ?_) (fun hq => ?_) <;> first | subst hq | (first | (simp only [sD, sE, sB, sC, sN, sM, sT, sF] at hq; try (exfalso; omega)) | skip)) | fail) | (refine bK ?_; first | refine bT ?_ | refine aI ?_ | refine aM ?_ | fail) | (refine bA ?_; first | refine bP ?_ | refine aF ?_ | refine aG (by decide) ?_ | refine aJ ?_ | fail) | refine bL (aV (by kernel_rfl)) ?_ | fail)
              all_goals first
                | exact absurd (by assumption) h3
                | exact absurd rfl (by assumption)
                | (exfalso; omega)
                | (refine bV (by first | exact .inl rfl | exact .inr rfl) (bX rfl (aS rfl) (aS rfl)) rfl ?_; rfl)
          · rw [if_pos h2] at hQ
            have hQ : (Tree.nil, (3 : Int)) = Q := hQ
            subst hQ
            repeat' (first | refine bG ?_ | (refine bJ ?_; first | refine aR tabOk rfl rfl rfl (nb rfl) rfl ?_ | refine aZ rfl rfl (nb rfl) ?_ | (refine bI rfl rfl rfl (nb rfl) rfl rfl rfl (fun hq => ?_) (fun hq => ?_) <;> (first | (simp only [sD, sE, sB, sC, sN, sM, sT, sF] at hq; try (exfalso; omega)) | skip))| refine aB tabOk rfl rfl rfl (nb rfl) rfl rfl rfl hget ?_ | refine bD (z := n - 1) rfl rfl rfl (nb rfl) rfl rfl (by omega) (by omega) (by omega) ?_ | refine bD (z := n - 1 - i) rfl rfl rfl (nb rfl) rfl rfl rfl (by omega) (by omega) ?_ | refine bS rfl rfl (nb rfl) rfl rfl rfl rfl (c3) ?_ | refine aD rfl rfl rfl (nb rfl) rfl rfl (by omega) ?_ | refine bC rfl rfl rfl (nb rfl) rfl rfl rfl (by omega) (by omega) ?_ | refine bD rfl rfl rfl (nb rfl) rfl rfl rfl (by omega) (by omega) ?_ | refine bB tabOk rfl rfl rfl (nb rfl) rfl rfl rfl rfl rfl rfl rfl rfl rfl ?_ | refine aT tabOk rfl rfl (nb rfl) rfl ?_ | refine aN tabOk rfl rfl rfl (nb rfl) rfl rfl rfl rfl rfl rfl ?_ | refine aO tabOk rfl rfl rfl (nb rfl) rfl rfl rfl rfl ?_ | refine aK tabOk rfl rfl rfl rfl rfl rfl rfl rfl rfl rfl rfl ?_ | refine aP tabOk rfl rfl rfl (nb rfl) rfl rfl rfl rfl (by first | assumption | omega) ?_ | refine aH tabOk rfl rfl rfl (nb rfl) rfl rfl rfl rfl (by first | rfl | omega) (by first | omega | simp) ?_ | refine aB tabOk rfl rfl rfl (nb rfl) rfl rfl rfl (by assumption) ?_ | refine aB tabOk rfl rfl rfl (nb rfl) rfl rfl rfl (bM _ _ (by first | assumption | omega)) ?_ | refine aD rfl rfl rfl (nb rfl) rfl rfl (by omega) ?_ | ((fail_if_success (refine aE (b := true) rfl rfl rfl ?_)); (fail_if_success (refine aE (b := false) rfl rfl rfl ?_)); refine aQ rfl rfl rfl (fun hq => ?_) (fun hq => ?_) <;> first | subst hq | (first | (simp only [sD, sE, sB, sC, sN, sM, sT, sF] at hq; try (exfalso; omega)) | skip)) | fail) | (refine bQ ?_; first | refine bH ?_ | refine bN ?_ | refine aL ?_ | refine aX ?_ | refine bO ?_ | refine bF ?_ | refine bE ?_ | refine aA (b := true) rfl (fun _ => ?_) nTf | refine aA (b := false) rfl nFt (fun _ => ?_) | refine aY ?_ | refine aW ?_ | refine aU mixed (by kernel_rfl) ?_ | refine aC mixed (by kernel_rfl) ?_ | (refine aA rfl (fun hq => ?_) (fun hq => ?_) <;> first | subst hq | (first | (simp only [sD, sE, sB, sC, sN, sM, sT, sF] at hq; try (exfalso; omega)) | skip)) | fail) | (refine bK ?_; first | refine bT ?_ | refine aI ?_ | refine aM ?_ | fail) | (refine bA ?_; first | refine bP ?_ | refine aF ?_ | refine aG (by decide) ?_ | refine aJ ?_ | fail) | refine bL (aV (by kernel_rfl)) ?_ | fail)
            all_goals first
              | exact absurd (by assumption) h2
              | exact absurd rfl (by assumption)
              | (exfalso; omega)
              | (refine bV (by first | exact .inl rfl | exact .inr rfl) (bX rfl (aS rfl) (aS rfl)) rfl ?_; rfl)
        · have e0 : cons.drop i = [] := List.drop_eq_nil_of_le (by omega)
          rw [e0, fillL] at hQ
          unfold finP at hQ
          dsimp only at hQ
          rw [if_neg (by simp)] at hQ
          have c5 := vN s hss
          generalize ssmallP s = SM at *
          by_cases h4 : SM = 0
          · subst h4
            rw [if_neg (by simp)] at hQ
            subst hQ
            repeat' (first | refine bG ?_ | (refine bJ ?_; first | refine aR tabOk rfl rfl rfl (nb rfl) rfl ?_ | refine aZ rfl rfl (nb rfl) ?_ | (refine bI rfl rfl rfl (nb rfl) rfl rfl rfl (fun hq => ?_) (fun hq => ?_) <;> (first | (simp only [sD, sE, sB, sC, sN, sM, sT, sF] at hq; try (exfalso; omega)) | skip))| refine bS rfl rfl (nb rfl) rfl rfl rfl rfl (c5) ?_ | refine aD rfl rfl rfl (nb rfl) rfl rfl (by omega) ?_ | refine bC rfl rfl rfl (nb rfl) rfl rfl rfl (by omega) (by omega) ?_ | refine bD rfl rfl rfl (nb rfl) rfl rfl rfl (by omega) (by omega) ?_ | refine bB tabOk rfl rfl rfl (nb rfl) rfl rfl rfl rfl rfl rfl rfl rfl rfl ?_ | refine aT tabOk rfl rfl (nb rfl) rfl ?_ | refine aN tabOk rfl rfl rfl (nb rfl) rfl rfl rfl rfl rfl rfl ?_ | refine aO tabOk rfl rfl rfl (nb rfl) rfl rfl rfl rfl ?_ | refine aK tabOk rfl rfl rfl rfl rfl rfl rfl rfl rfl rfl rfl ?_ | refine aP tabOk rfl rfl rfl (nb rfl) rfl rfl rfl rfl (by first | assumption | omega) ?_ | refine aH tabOk rfl rfl rfl (nb rfl) rfl rfl rfl rfl (by first | rfl | omega) (by first | omega | simp) ?_ | refine aB tabOk rfl rfl rfl (nb rfl) rfl rfl rfl (by assumption) ?_ | refine aB tabOk rfl rfl rfl (nb rfl) rfl rfl rfl (bM _ _ (by first | assumption | omega)) ?_ | refine aD rfl rfl rfl (nb rfl) rfl rfl (by omega) ?_ | ((fail_if_success (refine aE (b := true) rfl rfl rfl ?_)); (fail_if_success (refine aE (b := false) rfl rfl rfl ?_)); refine aQ rfl rfl rfl (fun hq => ?_) (fun hq => ?_) <;> first | subst hq | (first | (simp only [sD, sE, sB, sC, sN, sM, sT, sF] at hq; try (exfalso; omega)) | skip)) | fail) | (refine bQ ?_; first | refine bH ?_ | refine bN ?_ | refine aL ?_ | refine aX ?_ | refine bO ?_ | refine bF ?_ | refine bE ?_ | refine aA (b := true) rfl (fun _ => ?_) nTf | refine aA (b := false) rfl nFt (fun _ => ?_) | refine aY ?_ | refine aW ?_ | refine aU mixed (by kernel_rfl) ?_ | refine aC mixed (by kernel_rfl) ?_ | (refine aA rfl (fun hq => ?_) (fun hq => ?_) <;> first | subst hq | (first | (simp only [sD, sE, sB, sC, sN, sM, sT, sF] at hq; try (exfalso; omega)) | skip)) | fail) | (refine bK ?_; first | refine bT ?_ | refine aI ?_ | refine aM ?_ | fail) | (refine bA ?_; first | refine bP ?_ | refine aF ?_ | refine aG (by decide) ?_ | refine aJ ?_ | fail) | refine bL (aV (by kernel_rfl)) ?_ | fail)
            all_goals first
              | exact absurd rfl (by assumption)
              | (exfalso; omega)
              | (refine bV (by first | exact .inl rfl | exact .inr rfl) (bX rfl (aS rfl) (aS rfl)) rfl ?_; rfl)
          · rw [if_pos h4] at hQ
            subst hQ
            repeat' (first | refine bG ?_ | (refine bJ ?_; first | refine aR tabOk rfl rfl rfl (nb rfl) rfl ?_ | refine aZ rfl rfl (nb rfl) ?_ | (refine bI rfl rfl rfl (nb rfl) rfl rfl rfl (fun hq => ?_) (fun hq => ?_) <;> (first | (simp only [sD, sE, sB, sC, sN, sM, sT, sF] at hq; try (exfalso; omega)) | skip))| refine bS rfl rfl (nb rfl) rfl rfl rfl rfl (c5) ?_ | refine aD rfl rfl rfl (nb rfl) rfl rfl (by omega) ?_ | refine bC rfl rfl rfl (nb rfl) rfl rfl rfl (by omega) (by omega) ?_ | refine bD rfl rfl rfl (nb rfl) rfl rfl rfl (by omega) (by omega) ?_ | refine bB tabOk rfl rfl rfl (nb rfl) rfl rfl rfl rfl rfl rfl rfl rfl rfl ?_ | refine aT tabOk rfl rfl (nb rfl) rfl ?_ | refine aN tabOk rfl rfl rfl (nb rfl) rfl rfl rfl rfl rfl rfl ?_ | refine aO tabOk rfl rfl rfl (nb rfl) rfl rfl rfl rfl ?_ | refine aK tabOk rfl rfl rfl rfl rfl rfl rfl rfl rfl rfl rfl ?_ | refine aP tabOk rfl rfl rfl (nb rfl) rfl rfl rfl rfl (by first | assumption | omega) ?_ | refine aH tabOk rfl rfl rfl (nb rfl) rfl rfl rfl rfl (by first | rfl | omega) (by first | omega | simp) ?_ | refine aB tabOk rfl rfl rfl (nb rfl) rfl rfl rfl (by assumption) ?_ | refine aB tabOk rfl rfl rfl (nb rfl) rfl rfl rfl (bM _ _ (by first | assumption | omega)) ?_ | refine aD rfl rfl rfl (nb rfl) rfl rfl (by omega) ?_ | ((fail_if_success (refine aE (b := true) rfl rfl rfl ?_)); (fail_if_success (refine aE (b := false) rfl rfl rfl ?_)); refine aQ rfl rfl rfl (fun hq => ?_) (fun hq => ?_) <;> first | subst hq | (first | (simp only [sD, sE, sB, sC, sN, sM, sT, sF] at hq; try (exfalso; omega)) | skip)) | fail) | (refine bQ ?_; first | refine bH ?_ | refine bN ?_ | refine aL ?_ | refine aX ?_ | refine bO ?_ | refine bF ?_ | refine bE ?_ | refine aA (b := true) rfl (fun _ => ?_) nTf | refine aA (b := false) rfl nFt (fun _ => ?_) | refine aY ?_ | refine aW ?_ | refine aU mixed (by kernel_rfl) ?_ | refine aC mixed (by kernel_rfl) ?_ | (refine aA rfl (fun hq => ?_) (fun hq => ?_) <;> first | subst hq | (first | (simp only [sD, sE, sB, sC, sN, sM, sT, sF] at hq; try (exfalso; omega)) | skip)) | fail) | (refine bK ?_; first | refine bT ?_ | refine aI ?_ | refine aM ?_ | fail) | (refine bA ?_; first | refine bP ?_ | refine aF ?_ | refine aG (by decide) ?_ | refine aJ ?_ | fail) | refine bL (aV (by kernel_rfl)) ?_ | fail)
            all_goals first
              | exact absurd (by assumption) h4
              | exact absurd rfl (by assumption)
              | (exfalso; omega)
              | (refine bV (by first | exact .inl rfl | exact .inr rfl) (bX rfl (aS rfl) (aS rfl)) rfl ?_; rfl)
    · rw [if_pos hk] at hQ
      subst hQ
      obtain ⟨k', n', a', b', ks', rfl⟩ := cL hwe
      have hk : k' ≠ 164 := hk
      clear c2 hgood
      refine bR Try.func70 rfl rfl (nb rfl) rfl ?_
      repeat' (first | refine bG ?_ | (refine bJ ?_; first | refine aR tabOk rfl rfl rfl (nb rfl) rfl ?_ | refine aZ rfl rfl (nb rfl) ?_ | (refine bI rfl rfl rfl (nb rfl) rfl rfl rfl (fun hq => ?_) (fun hq => ?_) <;> (first | (simp only [sD, sE, sB, sC, sN, sM, sT, sF] at hq; try (exfalso; omega)) | skip))| refine bS rfl rfl (nb rfl) rfl rfl rfl rfl (c1) ?_ | refine aD rfl rfl rfl (nb rfl) rfl rfl (by omega) ?_ | refine bC rfl rfl rfl (nb rfl) rfl rfl rfl (by omega) (by omega) ?_ | refine bD rfl rfl rfl (nb rfl) rfl rfl rfl (by omega) (by omega) ?_ | refine bB tabOk rfl rfl rfl (nb rfl) rfl rfl rfl rfl rfl rfl rfl rfl rfl ?_ | refine aT tabOk rfl rfl (nb rfl) rfl ?_ | refine aN tabOk rfl rfl rfl (nb rfl) rfl rfl rfl rfl rfl rfl ?_ | refine aO tabOk rfl rfl rfl (nb rfl) rfl rfl rfl rfl ?_ | refine aK tabOk rfl rfl rfl rfl rfl rfl rfl rfl rfl rfl rfl ?_ | refine aP tabOk rfl rfl rfl (nb rfl) rfl rfl rfl rfl (by first | assumption | omega) ?_ | refine aH tabOk rfl rfl rfl (nb rfl) rfl rfl rfl rfl (by first | rfl | omega) (by first | omega | simp) ?_ | refine aB tabOk rfl rfl rfl (nb rfl) rfl rfl rfl (by assumption) ?_ | refine aB tabOk rfl rfl rfl (nb rfl) rfl rfl rfl (bM _ _ (by first | assumption | omega)) ?_ | refine aD rfl rfl rfl (nb rfl) rfl rfl (by omega) ?_ | ((fail_if_success (refine aE (b := true) rfl rfl rfl ?_)); (fail_if_success (refine aE (b := false) rfl rfl rfl ?_)); refine aQ rfl rfl rfl (fun hq => ?_) (fun hq => ?_) <;> first | subst hq | (first | (simp only [sD, sE, sB, sC, sN, sM, sT, sF] at hq; try (exfalso; omega)) | skip)) | fail) | (refine bQ ?_; first | refine bH ?_ | refine bN ?_ | refine aL ?_ | refine aX ?_ | refine bO ?_ | refine bF ?_ | refine bE ?_ | refine aA (b := true) rfl (fun _ => ?_) nTf | refine aA (b := false) rfl nFt (fun _ => ?_) | refine aY ?_ | refine aW ?_ | refine aU mixed (by kernel_rfl) ?_ | refine aC mixed (by kernel_rfl) ?_ | (refine aA rfl (fun hq => ?_) (fun hq => ?_) <;> first | subst hq | (first | (simp only [sD, sE, sB, sC, sN, sM, sT, sF] at hq; try (exfalso; omega)) | skip)) | fail) | (refine bK ?_; first | refine bT ?_ | refine aI ?_ | refine aM ?_ | fail) | (refine bA ?_; first | refine bP ?_ | refine aF ?_ | refine aG (by decide) ?_ | refine aJ ?_ | fail) | refine bL (aV (by kernel_rfl)) ?_ | fail)
      all_goals first
        | exact absurd rfl (by assumption)
        | exact absurd (by assumption) hk
        | (refine bV (by first | exact .inl rfl | exact .inr rfl) (bX rfl (aS rfl) (aS rfl)) rfl ?_; rfl)
  · rw [if_pos hca] at hQ
    subst hQ
    clear c2 hgood
    generalize checkP sformP ex = C at *
    refine bR Try.func70 rfl rfl (nb rfl) rfl ?_
    repeat' (first | refine bG ?_ | (refine bJ ?_; first | refine aR tabOk rfl rfl rfl (nb rfl) rfl ?_ | refine aZ rfl rfl (nb rfl) ?_ | (refine bI rfl rfl rfl (nb rfl) rfl rfl rfl (fun hq => ?_) (fun hq => ?_) <;> (first | (simp only [sD, sE, sB, sC, sN, sM, sT, sF] at hq; try (exfalso; omega)) | skip))| refine bS rfl rfl (nb rfl) rfl rfl rfl rfl (c1) ?_ | refine aD rfl rfl rfl (nb rfl) rfl rfl (by omega) ?_ | refine bC rfl rfl rfl (nb rfl) rfl rfl rfl (by omega) (by omega) ?_ | refine bD rfl rfl rfl (nb rfl) rfl rfl rfl (by omega) (by omega) ?_ | refine bB tabOk rfl rfl rfl (nb rfl) rfl rfl rfl rfl rfl rfl rfl rfl rfl ?_ | refine aT tabOk rfl rfl (nb rfl) rfl ?_ | refine aN tabOk rfl rfl rfl (nb rfl) rfl rfl rfl rfl rfl rfl ?_ | refine aO tabOk rfl rfl rfl (nb rfl) rfl rfl rfl rfl ?_ | refine aK tabOk rfl rfl rfl rfl rfl rfl rfl rfl rfl rfl rfl ?_ | refine aP tabOk rfl rfl rfl (nb rfl) rfl rfl rfl rfl (by first | assumption | omega) ?_ | refine aH tabOk rfl rfl rfl (nb rfl) rfl rfl rfl rfl (by first | rfl | omega) (by first | omega | simp) ?_ | refine aB tabOk rfl rfl rfl (nb rfl) rfl rfl rfl (by assumption) ?_ | refine aB tabOk rfl rfl rfl (nb rfl) rfl rfl rfl (bM _ _ (by first | assumption | omega)) ?_ | refine aD rfl rfl rfl (nb rfl) rfl rfl (by omega) ?_ | ((fail_if_success (refine aE (b := true) rfl rfl rfl ?_)); (fail_if_success (refine aE (b := false) rfl rfl rfl ?_)); refine aQ rfl rfl rfl (fun hq => ?_) (fun hq => ?_) <;> first | subst hq | (first | (simp only [sD, sE, sB, sC, sN, sM, sT, sF] at hq; try (exfalso; omega)) | skip)) | fail) | (refine bQ ?_; first | refine bH ?_ | refine bN ?_ | refine aL ?_ | refine aX ?_ | refine bO ?_ | refine bF ?_ | refine bE ?_ | refine aA (b := true) rfl (fun _ => ?_) nTf | refine aA (b := false) rfl nFt (fun _ => ?_) | refine aY ?_ | refine aW ?_ | refine aU mixed (by kernel_rfl) ?_ | refine aC mixed (by kernel_rfl) ?_ | (refine aA rfl (fun hq => ?_) (fun hq => ?_) <;> first | subst hq | (first | (simp only [sD, sE, sB, sC, sN, sM, sT, sF] at hq; try (exfalso; omega)) | skip)) | fail) | (refine bK ?_; first | refine bT ?_ | refine aI ?_ | refine aM ?_ | fail) | (refine bA ?_; first | refine bP ?_ | refine aF ?_ | refine aG (by decide) ?_ | refine aJ ?_ | fail) | refine bL (aV (by kernel_rfl)) ?_ | fail)
    all_goals first
      | exact absurd (by assumption) hca
      | (refine bV (by first | exact .inl rfl | exact .inr rfl) (bX rfl (aS rfl) (aS rfl)) rfl ?_; rfl)
end Go.Proofs.Ytlbemgokilhdnaa.Ab
namespace Go.Proofs.Ytlbemgokilhdnaa.Ab
set_option linter.unusedVariables false
set_option linter.unusedSimpArgs false
open Go.RowKit
attribute [local irreducible] AWP AOps AExit AThen ABlock ANoGoto FeetOk
structure CellD where
  f : Bool
  k : Int
  n : Int
  a : ByteArray
  b : ByteArray
  kids : List Int
def intIVs (l : List Int) : List IV := l.map fun x => .lit (.int .i64 x)
def cellIV (c : CellD) : List IV := [.lit (.int .i64 c.k), .lit (.int .i64 c.n), .lit (.string c.a), .lit (.string c.b), .sl c.f c.kids.length (intIVs c.kids)]
def cellIVs : List CellD → List IV
  | [] => []
  | c :: l => cellIV c ++ cellIVs l
theorem lW (l : List Int) (j : Nat) (h : j < l.length) : (intIVs l)[j * 1]? = some (.lit (.int .i64 l[j])) := by unfold intIVs; simp [h]
theorem lX (l : List Int) : (intIVs l).length = l.length := by unfold intIVs; simp
theorem kF : ∀ l m : List CellD, cellIVs (l ++ m) = cellIVs l ++ cellIVs m
  | [], m => rfl
  | c :: l, m => by rw [List.cons_append, cellIVs, cellIVs, kF l m, List.append_assoc]
theorem eJ : ∀ (l : List CellD) (j : Nat) (h : j < l.length), ((cellIVs l).drop (j * 5)).take 5 = cellIV l[j]
  | c :: l, 0, h => by rw [Nat.zero_mul, List.drop_zero, cellIVs, List.take_append_of_le_length (by simp [cellIV])]; rfl
  | c :: l, j + 1, h => by
    have e : (j + 1) * 5 = 5 + j * 5 := by omega
    have e5 : (cellIV c).length = 5 := rfl
    rw [e, ← List.drop_drop, cellIVs]
    conv => lhs; rw [← e5, List.drop_left]
    rw [e5, eJ l j (by simpa using h)]
    rfl
theorem qM (l : List CellD) (j i : Nat) (h : j < l.length) (hi : i < 5) : (cellIVs l)[j * 5 + i]? = (cellIV l[j])[i]? := by
  rw [← eJ l j h, List.getElem?_take, if_pos hi, List.getElem?_drop]
/-- The tree at a cell. -/
def growT (l : List CellD) : Nat → Nat → Tree
  | 0, _ => .nil
  | f + 1, i => match l[i]? with
    | none => .nil
    | some c => .node c.k c.n c.a c.b (c.kids.map fun x => growT l f x.toNat)
def below (l : List CellD) : Prop := ∀ i (h : i < l.length), ∀ x ∈ l[i].kids, 0 ≤ x ∧ x < (i : Int)
theorem sV (l : List CellD) (f i : Nat) (h : i < f) (hi : i < l.length) : ∃ cs, (growT l f i).iv = .ptr cs 0 := by
  cases f with
  | zero => omega
  | succ f => rw [growT, List.getElem?_eq_getElem hi]; exact ⟨_, rfl⟩
theorem uH (l : List Tree) (t : Tree) : Tree.ivs (l ++ [t]) = Tree.ivs l ++ [t.iv] := by rw [cT, cT, List.map_append]; rfl
set_option maxHeartbeats 16000000 in
set_option maxRecDepth 10000 in
theorem wD (l : List CellD) (hb : below l) (hlen : l.length ≤ 8192) (hk : ∀ c ∈ l, c.kids.length ≤ 8192) : ∀ (f i : Nat), i < f → i < l.length →
    ACalls Try.prog 55 [.imm (.agg [.sl false l.length (cellIVs l)]), .imm (.lit (.int .i64 (i : Int)))] [] (.imm (growT l f i).iv) [] := by
  intro f
  induction f with
  | zero => intro i h; omega
  | succ f ih =>
    intro i hif hil
    have hT : growT l (f + 1) i = .node l[i].k l[i].n l[i].a l[i].b (l[i].kids.map fun x => growT l f x.toNat) := by
      rw [growT, List.getElem?_eq_getElem hil]
    rw [hT]
    have hrow := eJ l i hil
    have hbi := hb i hil
    have hki := hk l[i] (List.getElem_mem hil)
    generalize hc : l[i] = c at *
    change _ = [IV.lit (.int .i64 c.k), .lit (.int .i64 c.n), .lit (.string c.a), .lit (.string c.b), .sl c.f c.kids.length (intIVs c.kids)] at hrow
    refine dD Try.func55 rfl rfl (nb rfl) rfl ?_
    repeat' (first | refine bG ?_ | (refine bJ ?_; first | refine aR tabOk rfl rfl rfl (nb rfl) rfl ?_ | refine aZ rfl rfl (nb rfl) ?_ | (refine bI rfl rfl rfl (nb rfl) rfl rfl rfl (fun hq => ?_) (fun hq => ?_) <;> (first | (simp only [sD, sE, sB, sC, sN, sM, sT, sF] at hq; try (exfalso; omega)) | skip))| refine dZ tabOk rfl rfl rfl (nb rfl) rfl rfl rfl hrow rfl ?_ | refine eZ tabOk rfl rfl rfl (nb rfl) rfl rfl rfl rfl rfl ?_ | refine gZ (t := 38) rfl rfl rfl (nb rfl) rfl rfl rfl rfl rfl rfl rfl ?_ | refine aD rfl rfl rfl (nb rfl) rfl rfl (by omega) ?_ | refine bC rfl rfl rfl (nb rfl) rfl rfl rfl (by omega) (by omega) ?_ | refine bD rfl rfl rfl (nb rfl) rfl rfl rfl (by omega) (by omega) ?_ | refine bB tabOk rfl rfl rfl (nb rfl) rfl rfl rfl rfl rfl rfl rfl rfl rfl ?_ | refine aT tabOk rfl rfl (nb rfl) rfl ?_ | refine aN tabOk rfl rfl rfl (nb rfl) rfl rfl rfl rfl rfl rfl ?_ | refine aO tabOk rfl rfl rfl (nb rfl) rfl rfl rfl rfl ?_ | refine aK tabOk rfl rfl rfl rfl rfl rfl rfl rfl rfl rfl rfl ?_ | refine aP tabOk rfl rfl rfl (nb rfl) rfl rfl rfl rfl (by first | assumption | omega) ?_ | refine aH tabOk rfl rfl rfl (nb rfl) rfl rfl rfl rfl (by first | rfl | omega) (by first | omega | simp) ?_ | refine aB tabOk rfl rfl rfl (nb rfl) rfl rfl rfl (by assumption) ?_ | refine aB tabOk rfl rfl rfl (nb rfl) rfl rfl rfl (bM _ _ (by first | assumption | omega)) ?_ | refine aD rfl rfl rfl (nb rfl) rfl rfl (by omega) ?_ | ((fail_if_success (refine aE (b := true) rfl rfl rfl ?_)); (fail_if_success (refine aE (b := false) rfl rfl rfl ?_)); refine aQ rfl rfl rfl (fun hq => ?_) (fun hq => ?_) <;> first | subst hq | (first | (simp only [sD, sE, sB, sC, sN, sM, sT, sF] at hq; try (exfalso; omega)) | skip)) | fail) | (refine bQ ?_; first | refine bH ?_ | refine bN ?_ | refine aL ?_ | refine aX ?_ | refine bO ?_ | refine bF ?_ | refine bE ?_ | refine aA (b := true) rfl (fun _ => ?_) nTf | refine aA (b := false) rfl nFt (fun _ => ?_) | refine aY ?_ | refine aW ?_ | refine aU mixed (by kernel_rfl) ?_ | refine aC mixed (by kernel_rfl) ?_ | (refine aA rfl (fun hq => ?_) (fun hq => ?_) <;> first | subst hq | (first | (simp only [sD, sE, sB, sC, sN, sM, sT, sF] at hq; try (exfalso; omega)) | skip)) | fail) | (refine bK ?_; first | refine bT ?_ | refine aI ?_ | refine aM ?_ | fail) | (refine bA ?_; first | refine bP ?_ | refine aF ?_ | refine aG (by decide) ?_ | refine aJ ?_ | fail) | refine bL (aV (by kernel_rfl)) ?_ | fail)
    have hTs : ∀ j (hj : j < c.kids.length), Tree.ivs ((c.kids.take (j + 1)).map fun x => growT l f x.toNat) = Tree.ivs ((c.kids.take j).map fun x => growT l f x.toNat) ++ [(growT l f (c.kids[j]).toNat).iv] := fun j hj => by
      rw [List.take_succ_eq_append_getElem hj, List.map_append, List.map_singleton, uH]
    refine dQ (dW (h0 := 22) (k0 := 4) 500 25 1 rfl rfl (by simp) rfl rfl) ?_
    refine cJ (ι := {j : Nat // j ≤ c.kids.length}) (fun j => S.f ⟨[(7, .imm (.lit (.int .i64 (j.1 : Int)))), (6, .obj 22 0), (5, .obj 5 0), (2, .imm (.ptr [.sl false l.length (cellIVs l)] 0))], [(500, .arr 25 1 j.1 (Tree.ivs ((c.kids.take j.1).map fun x => growT l f x.toNat))), (22, .cells [.imm (.lit (.int .i64 c.k)), .imm (.lit (.int .i64 c.n)), .imm (.lit (.string c.a)), .imm (.lit (.string c.b)), .ref 500 j.1]), (5, .cells [.imm (.lit (.int .i64 c.k)), .imm (.lit (.int .i64 c.n)), .imm (.lit (.string c.a)), .imm (.lit (.string c.b)), .imm (.sl c.f c.kids.length (intIVs c.kids))])]⟩) (fun j => c.kids.length - j.1) ⟨0, Nat.zero_le _⟩ (cB (by repeat' first | exact trivial | refine ⟨rfl, ?_⟩) (by repeat' first | exact trivial | refine ⟨rfl, ?_⟩)) ?_
    rintro ⟨j, hj⟩
    dsimp only
    by_cases hlt : j < c.kids.length
    · have hx := hbi c.kids[j] (List.getElem_mem hlt)
      have hcall := ih (c.kids[j]).toNat (by omega) (by omega)
      have hxe : ((c.kids[j]).toNat : Int) = c.kids[j] := Int.toNat_of_nonneg hx.1
      rw [hxe] at hcall
      obtain ⟨pc, hpc⟩ := sV l f (c.kids[j]).toNat (by omega) (by omega)
      have hTj := hTs j hlt
      rw [hpc] at hcall hTj
      repeat' (first | refine bG ?_ | (refine bJ ?_; first | refine aR tabOk rfl rfl rfl (nb rfl) rfl ?_ | refine aZ rfl rfl (nb rfl) ?_ | (refine bI rfl rfl rfl (nb rfl) rfl rfl rfl (fun hq => ?_) (fun hq => ?_) <;> (first | (simp only [sD, sE, sB, sC, sN, sM, sT, sF] at hq; try (exfalso; omega)) | skip))| refine bS rfl rfl (nb rfl) rfl rfl rfl rfl (hcall) ?_ | refine aB tabOk rfl rfl rfl (nb rfl) rfl rfl rfl (lW _ _ hlt) ?_ | refine aU mixed (by kernel_rfl) ?_ | refine aC mixed (by kernel_rfl) ?_ | refine ⟨aV (by kernel_rfl), ?_⟩ | refine cR tabOk rfl rfl rfl (nb rfl) rfl rfl rfl rfl rfl rfl rfl (by first | omega | decide) rfl (by first | omega | (dsimp only; omega)) (by first | omega | (dsimp only; omega)) ?_ | refine aD rfl rfl rfl (nb rfl) rfl rfl (by omega) ?_ | refine bC rfl rfl rfl (nb rfl) rfl rfl rfl (by omega) (by omega) ?_ | refine bD rfl rfl rfl (nb rfl) rfl rfl rfl (by omega) (by omega) ?_ | refine bB tabOk rfl rfl rfl (nb rfl) rfl rfl rfl rfl rfl rfl rfl rfl rfl ?_ | refine aT tabOk rfl rfl (nb rfl) rfl ?_ | refine aN tabOk rfl rfl rfl (nb rfl) rfl rfl rfl rfl rfl rfl ?_ | refine aO tabOk rfl rfl rfl (nb rfl) rfl rfl rfl rfl ?_ | refine aK tabOk rfl rfl rfl rfl rfl rfl rfl rfl rfl rfl rfl ?_ | refine aP tabOk rfl rfl rfl (nb rfl) rfl rfl rfl rfl (by first | assumption | omega) ?_ | refine aH tabOk rfl rfl rfl (nb rfl) rfl rfl rfl rfl (by first | rfl | omega) (by first | omega | simp) ?_ | refine aB tabOk rfl rfl rfl (nb rfl) rfl rfl rfl (by assumption) ?_ | refine aB tabOk rfl rfl rfl (nb rfl) rfl rfl rfl (bM _ _ (by first | assumption | omega)) ?_ | refine aD rfl rfl rfl (nb rfl) rfl rfl (by omega) ?_ | ((fail_if_success (refine aE (b := true) rfl rfl rfl ?_)); (fail_if_success (refine aE (b := false) rfl rfl rfl ?_)); refine aQ rfl rfl rfl (fun hq => ?_) (fun hq => ?_) <;> first | subst hq | (first | (simp only [sD, sE, sB, sC, sN, sM, sT, sF] at hq; try (exfalso; omega)) | skip)) | fail) | (refine bQ ?_; first | refine bH ?_ | refine bN ?_ | refine aL ?_ | refine aX ?_ | refine bO ?_ | refine bF ?_ | refine bE ?_ | refine aA (b := true) rfl (fun _ => ?_) nTf | refine aA (b := false) rfl nFt (fun _ => ?_) | refine aY ?_ | refine aW ?_ | refine aU mixed (by kernel_rfl) ?_ | refine aC mixed (by kernel_rfl) ?_ | (refine aA rfl (fun hq => ?_) (fun hq => ?_) <;> first | subst hq | (first | (simp only [sD, sE, sB, sC, sN, sM, sT, sF] at hq; try (exfalso; omega)) | skip)) | fail) | (refine bK ?_; first | refine bT ?_ | refine aI ?_ | refine aM ?_ | fail) | (refine bA ?_; first | refine bP ?_ | refine aF ?_ | refine aG (by decide) ?_ | refine aJ ?_ | fail) | refine bL (aV (by kernel_rfl)) ?_ | fail)
      refine ⟨⟨j + 1, hlt⟩, (by show c.kids.length - (j + 1) < c.kids.length - j; omega), ?_⟩
      dsimp only
      rw [hTj]
      exact (cB (by repeat' first | exact trivial | refine ⟨rfl, ?_⟩) (by repeat' first | exact trivial | refine ⟨rfl, ?_⟩))
    · have ej : j = c.kids.length := by omega
      subst ej
      repeat' (first | refine bG ?_ | (refine bJ ?_; first | refine aR tabOk rfl rfl rfl (nb rfl) rfl ?_ | refine aZ rfl rfl (nb rfl) ?_ | (refine bI rfl rfl rfl (nb rfl) rfl rfl rfl (fun hq => ?_) (fun hq => ?_) <;> (first | (simp only [sD, sE, sB, sC, sN, sM, sT, sF] at hq; try (exfalso; omega)) | skip)) | refine aD rfl rfl rfl (nb rfl) rfl rfl (by omega) ?_ | refine bC rfl rfl rfl (nb rfl) rfl rfl rfl (by omega) (by omega) ?_ | refine bD rfl rfl rfl (nb rfl) rfl rfl rfl (by omega) (by omega) ?_ | refine bB tabOk rfl rfl rfl (nb rfl) rfl rfl rfl rfl rfl rfl rfl rfl rfl ?_ | refine aT tabOk rfl rfl (nb rfl) rfl ?_ | refine aN tabOk rfl rfl rfl (nb rfl) rfl rfl rfl rfl rfl rfl ?_ | refine aO tabOk rfl rfl rfl (nb rfl) rfl rfl rfl rfl ?_ | refine aK tabOk rfl rfl rfl rfl rfl rfl rfl rfl rfl rfl rfl ?_ | refine aP tabOk rfl rfl rfl (nb rfl) rfl rfl rfl rfl (by first | assumption | omega) ?_ | refine aH tabOk rfl rfl rfl (nb rfl) rfl rfl rfl rfl (by first | rfl | omega) (by first | omega | simp) ?_ | refine aB tabOk rfl rfl rfl (nb rfl) rfl rfl rfl (by assumption) ?_ | refine aB tabOk rfl rfl rfl (nb rfl) rfl rfl rfl (bM _ _ (by first | assumption | omega)) ?_ | refine aD rfl rfl rfl (nb rfl) rfl rfl (by omega) ?_ | ((fail_if_success (refine aE (b := true) rfl rfl rfl ?_)); (fail_if_success (refine aE (b := false) rfl rfl rfl ?_)); refine aQ rfl rfl rfl (fun hq => ?_) (fun hq => ?_) <;> first | subst hq | (first | (simp only [sD, sE, sB, sC, sN, sM, sT, sF] at hq; try (exfalso; omega)) | skip)) | fail) | (refine bQ ?_; first | refine bH ?_ | refine bN ?_ | refine aL ?_ | refine aX ?_ | refine bO ?_ | refine bF ?_ | refine bE ?_ | refine aA (b := true) rfl (fun _ => ?_) nTf | refine aA (b := false) rfl nFt (fun _ => ?_) | refine aY ?_ | refine aW ?_ | refine aU mixed (by kernel_rfl) ?_ | refine aC mixed (by kernel_rfl) ?_ | (refine aA rfl (fun hq => ?_) (fun hq => ?_) <;> first | subst hq | (first | (simp only [sD, sE, sB, sC, sN, sM, sT, sF] at hq; try (exfalso; omega)) | skip)) | fail) | (refine bK ?_; first | refine bT ?_ | refine aI ?_ | refine aM ?_ | fail) | (refine bA ?_; first | refine bP ?_ | refine aF ?_ | refine aG (by decide) ?_ | refine aJ ?_ | fail) | refine bL (aV (by kernel_rfl)) ?_ | fail)
      have hlen : (c.kids.map fun x => growT l f x.toNat).length = c.kids.length := by simp
      rw [List.take_length]
      refine jH ((Imp.of_le (σ' := S.f ⟨[(4, .obj 22 0)], [(500, .arr 25 1 c.kids.length (Tree.ivs (c.kids.map fun x => growT l f x.toNat))), (22, .cells [.imm (.lit (.int .i64 c.k)), .imm (.lit (.int .i64 c.n)), .imm (.lit (.string c.a)), .imm (.lit (.string c.b)), .ref 500 c.kids.length])]⟩) (cB (by repeat' first | exact trivial | refine ⟨rfl, ?_⟩) (by repeat' first | exact trivial | refine ⟨rfl, ?_⟩))).trans ((cZ (g := 500) rfl (by repeat' first | exact trivial | exact fun _ => rfl | refine ⟨?_, ?_⟩) (by repeat' first | exact trivial | exact fun _ => rfl | refine ⟨?_, ?_⟩)).trans (dJ (g := 22) rfl rfl))) ?_
      refine bV (by first | exact .inl rfl | exact .inr rfl) (bU rfl (aS rfl)) rfl ?_
      show AV.imm _ = AV.imm _
      rw [Tree.iv, hlen]
      rfl
end Go.Proofs.Ytlbemgokilhdnaa.Ab
namespace Go.Proofs.Ytlbemgokilhdnaa.Ab
set_option linter.unusedVariables false
set_option linter.unusedSimpArgs false
open Go.RowKit
attribute [local irreducible] AWP AOps AExit AThen ABlock ANoGoto FeetOk
def allK : List CellD → List Int
  | [] => []
  | c :: l => c.kids ++ allK l
theorem pB : ∀ l m : List CellD, allK (l ++ m) = allK l ++ allK m
  | [], m => rfl
  | c :: l, m => by rw [List.cons_append, allK, allK, pB l m, List.append_assoc]
theorem mZ (l : List CellD) (i : Nat) (h : i < l.length) : allK (l.take (i + 1)) = allK (l.take i) ++ l[i].kids := by
  rw [List.take_succ_eq_append_getElem h, pB]
  simp [allK]
theorem pC (K : Nat) : ∀ l : List CellD, (∀ c ∈ l, c.kids.length ≤ K) → (allK l).length ≤ l.length * K
  | [], _ => by simp [allK]
  | c :: l, h => by
    have h1 := h c List.mem_cons_self
    have h2 := pC K l (fun d hd => h d (List.mem_cons_of_mem _ hd))
    rw [allK, List.length_append, List.length_cons, Nat.add_mul]
    omega
def cntIVs (n : Nat) (l : List Int) : List IV := (List.range n).map fun (j : Nat) => .lit (.int .i64 ((l.count (j : Int) : Nat) : Int))
theorem uI (n : Nat) : List.replicate n (IV.lit (.int .i64 0)) = cntIVs n [] := by
  apply List.ext_getElem
  · simp [cntIVs]
  · intro i h1 h2
    simp [cntIVs]
theorem rH (n : Nat) (l : List Int) (x : Int) (h0 : 0 ≤ x) (h : x < (n : Int)) : (cntIVs n l)[x.toNat * 1]? = some (.lit (.int .i64 ((l.count x : Nat) : Int))) := by
  unfold cntIVs
  rw [Nat.mul_one, List.getElem?_map, List.getElem?_range (by omega)]
  rw [Option.map_some, Int.toNat_of_nonneg h0]
theorem vR (n : Nat) (l : List Int) (x : Int) (h0 : 0 ≤ x) (h : x < (n : Int)) : (cntIVs n l).set (x.toNat * 1) (.lit (.int .i64 ((l.count x + 1 : Nat) : Int))) = cntIVs n (l ++ [x]) := by
  rw [Nat.mul_one]
  apply List.ext_getElem
  · simp [cntIVs]
  · intro i h1 h2
    rw [List.getElem_set]
    by_cases e : x.toNat = i
    · rw [if_pos e]
      have ex : x = (i : Int) := by omega
      subst ex
      simp [cntIVs, List.count_append]
    · rw [if_neg e]
      have ne : ¬ x = (i : Int) := by omega
      simp [cntIVs, List.count_append, List.count_singleton, ne]
def once (l : List CellD) : Prop := ∀ j : Nat, j < l.length - 1 → (allK l).count (j : Int) = 1
open Classical in
/-- What is made of a row of cells; what is told of it. -/
noncomputable def openR (l : List CellD) : Tree × Int :=
  if l.length = 0 then (.nil, 1) else if 8192 < l.length then (.nil, 3) else if below l ∧ once l then (growT l l.length (l.length - 1), 0) else (.nil, 16)
theorem vS {l : List CellD} {i k : Nat} (hi : i < l.length) (hk : k < l[i].kids.length) (h : l[i].kids[k] < 0 ∨ (i : Int) ≤ l[i].kids[k]) : ¬ below l := fun hb => by
  have := hb i hi _ (List.getElem_mem hk)
  omega
theorem sW {l : List CellD} {i : Nat} (hi : i < l.length) : (cellIVs l)[i * 5 + 4]? = some (.sl l[i].f l[i].kids.length (intIVs l[i].kids)) := by
  rw [qM l i 4 hi (by omega)]; rfl
set_option maxHeartbeats 16000000 in
set_option maxRecDepth 10000 in
theorem uJ (l : List CellD) (hk : ∀ c ∈ l, c.kids.length ≤ 8192) :
    ACalls Try.prog 26 [.imm (.agg [.sl false l.length (cellIVs l)])] [] (.imm (.tup [(openR l).1.iv, .lit (.int .i64 (openR l).2)])) [] := by
  have hR : openR l = openR l := rfl
  conv at hR => rhs; unfold openR
  generalize openR l = R at *
  by_cases h0 : l.length = 0
  · rw [if_pos h0] at hR
    subst hR
    refine bR Try.func26 rfl rfl (nb rfl) rfl ?_
    repeat' (first | refine bG ?_ | (refine bJ ?_; first | refine aR tabOk rfl rfl rfl (nb rfl) rfl ?_ | refine aZ rfl rfl (nb rfl) ?_ | (refine bI rfl rfl rfl (nb rfl) rfl rfl rfl (fun hq => ?_) (fun hq => ?_) <;> (first | (simp only [sD, sE, sB, sC, sN, sM, sT, sF] at hq; try (exfalso; omega)) | skip)) | refine aD rfl rfl rfl (nb rfl) rfl rfl (by omega) ?_ | refine bC rfl rfl rfl (nb rfl) rfl rfl rfl (by omega) (by omega) ?_ | refine bD rfl rfl rfl (nb rfl) rfl rfl rfl (by omega) (by omega) ?_ | refine bB tabOk rfl rfl rfl (nb rfl) rfl rfl rfl rfl rfl rfl rfl rfl rfl ?_ | refine aT tabOk rfl rfl (nb rfl) rfl ?_ | refine aN tabOk rfl rfl rfl (nb rfl) rfl rfl rfl rfl rfl rfl ?_ | refine aO tabOk rfl rfl rfl (nb rfl) rfl rfl rfl rfl ?_ | refine aK tabOk rfl rfl rfl rfl rfl rfl rfl rfl rfl rfl rfl ?_ | refine aP tabOk rfl rfl rfl (nb rfl) rfl rfl rfl rfl (by first | assumption | omega) ?_ | refine aH tabOk rfl rfl rfl (nb rfl) rfl rfl rfl rfl (by first | rfl | omega) (by first | omega | simp) ?_ | refine aB tabOk rfl rfl rfl (nb rfl) rfl rfl rfl (by assumption) ?_ | refine aB tabOk rfl rfl rfl (nb rfl) rfl rfl rfl (bM _ _ (by first | assumption | omega)) ?_ | refine aD rfl rfl rfl (nb rfl) rfl rfl (by omega) ?_ | ((fail_if_success (refine aE (b := true) rfl rfl rfl ?_)); (fail_if_success (refine aE (b := false) rfl rfl rfl ?_)); refine aQ rfl rfl rfl (fun hq => ?_) (fun hq => ?_) <;> first | subst hq | (first | (simp only [sD, sE, sB, sC, sN, sM, sT, sF] at hq; try (exfalso; omega)) | skip)) | fail) | (refine bQ ?_; first | refine bH ?_ | refine bN ?_ | refine aL ?_ | refine aX ?_ | refine bO ?_ | refine bF ?_ | refine bE ?_ | refine aA (b := true) rfl (fun _ => ?_) nTf | refine aA (b := false) rfl nFt (fun _ => ?_) | refine aY ?_ | refine aW ?_ | refine aU mixed (by kernel_rfl) ?_ | refine aC mixed (by kernel_rfl) ?_ | (refine aA rfl (fun hq => ?_) (fun hq => ?_) <;> first | subst hq | (first | (simp only [sD, sE, sB, sC, sN, sM, sT, sF] at hq; try (exfalso; omega)) | skip)) | fail) | (refine bK ?_; first | refine bT ?_ | refine aI ?_ | refine aM ?_ | fail) | (refine bA ?_; first | refine bP ?_ | refine aF ?_ | refine aG (by decide) ?_ | refine aJ ?_ | fail) | refine bL (aV (by kernel_rfl)) ?_ | fail)
    all_goals first
      | (exfalso; omega)
      | (refine bV (by first | exact .inl rfl | exact .inr rfl) (bX rfl (aS rfl) (aS rfl)) rfl ?_; rfl)
  · rw [if_neg h0] at hR
    by_cases h1 : 8192 < l.length
    · rw [if_pos h1] at hR
      subst hR
      refine bR Try.func26 rfl rfl (nb rfl) rfl ?_
      repeat' (first | refine bG ?_ | (refine bJ ?_; first | refine aR tabOk rfl rfl rfl (nb rfl) rfl ?_ | refine aZ rfl rfl (nb rfl) ?_ | (refine bI rfl rfl rfl (nb rfl) rfl rfl rfl (fun hq => ?_) (fun hq => ?_) <;> (first | (simp only [sD, sE, sB, sC, sN, sM, sT, sF] at hq; try (exfalso; omega)) | skip)) | refine aD rfl rfl rfl (nb rfl) rfl rfl (by omega) ?_ | refine bC rfl rfl rfl (nb rfl) rfl rfl rfl (by omega) (by omega) ?_ | refine bD rfl rfl rfl (nb rfl) rfl rfl rfl (by omega) (by omega) ?_ | refine bB tabOk rfl rfl rfl (nb rfl) rfl rfl rfl rfl rfl rfl rfl rfl rfl ?_ | refine aT tabOk rfl rfl (nb rfl) rfl ?_ | refine aN tabOk rfl rfl rfl (nb rfl) rfl rfl rfl rfl rfl rfl ?_ | refine aO tabOk rfl rfl rfl (nb rfl) rfl rfl rfl rfl ?_ | refine aK tabOk rfl rfl rfl rfl rfl rfl rfl rfl rfl rfl rfl ?_ | refine aP tabOk rfl rfl rfl (nb rfl) rfl rfl rfl rfl (by first | assumption | omega) ?_ | refine aH tabOk rfl rfl rfl (nb rfl) rfl rfl rfl rfl (by first | rfl | omega) (by first | omega | simp) ?_ | refine aB tabOk rfl rfl rfl (nb rfl) rfl rfl rfl (by assumption) ?_ | refine aB tabOk rfl rfl rfl (nb rfl) rfl rfl rfl (bM _ _ (by first | assumption | omega)) ?_ | refine aD rfl rfl rfl (nb rfl) rfl rfl (by omega) ?_ | ((fail_if_success (refine aE (b := true) rfl rfl rfl ?_)); (fail_if_success (refine aE (b := false) rfl rfl rfl ?_)); refine aQ rfl rfl rfl (fun hq => ?_) (fun hq => ?_) <;> first | subst hq | (first | (simp only [sD, sE, sB, sC, sN, sM, sT, sF] at hq; try (exfalso; omega)) | skip)) | fail) | (refine bQ ?_; first | refine bH ?_ | refine bN ?_ | refine aL ?_ | refine aX ?_ | refine bO ?_ | refine bF ?_ | refine bE ?_ | refine aA (b := true) rfl (fun _ => ?_) nTf | refine aA (b := false) rfl nFt (fun _ => ?_) | refine aY ?_ | refine aW ?_ | refine aU mixed (by kernel_rfl) ?_ | refine aC mixed (by kernel_rfl) ?_ | (refine aA rfl (fun hq => ?_) (fun hq => ?_) <;> first | subst hq | (first | (simp only [sD, sE, sB, sC, sN, sM, sT, sF] at hq; try (exfalso; omega)) | skip)) | fail) | (refine bK ?_; first | refine bT ?_ | refine aI ?_ | refine aM ?_ | fail) | (refine bA ?_; first | refine bP ?_ | refine aF ?_ | refine aG (by decide) ?_ | refine aJ ?_ | fail) | refine bL (aV (by kernel_rfl)) ?_ | fail)
      all_goals first
        | (exfalso; omega)
        | (refine bV (by first | exact .inl rfl | exact .inr rfl) (bX rfl (aS rfl) (aS rfl)) rfl ?_; rfl)
    · rw [if_neg h1] at hR
      have hbad : ¬ (below l ∧ once l) → R = (.nil, 16) := fun h => by rw [hR, if_neg h]
      have hgood : below l ∧ once l → R = (growT l l.length (l.length - 1), 0) := fun h => by rw [hR, if_pos h]
      clear hR
      have hcz := uI l.length
      have hlimit : ∀ m : List Int, m.length ≤ 67108864 → ∀ x, m.count x < 9223372036854775807 := fun m hm x => by
        have := List.count_le_length (l := m) (a := x)
        omega
      have hpre : ∀ i, (allK (l.take i)).length ≤ l.length * 8192 := fun i => Nat.le_trans (pC 8192 _ (fun c hc => hk c (List.mem_of_mem_take hc))) (Nat.mul_le_mul_right _ (by rw [List.length_take]; omega))
      refine bR Try.func26 rfl rfl (nb rfl) rfl ?_
      repeat' (first | refine bG ?_ | (refine bJ ?_; first | refine aR tabOk rfl rfl rfl (nb rfl) rfl ?_ | refine aZ rfl rfl (nb rfl) ?_ | (refine bI rfl rfl rfl (nb rfl) rfl rfl rfl (fun hq => ?_) (fun hq => ?_) <;> (first | (simp only [sD, sE, sB, sC, sN, sM, sT, sF] at hq; try (exfalso; omega)) | skip))| refine lH 600 tabOk rfl rfl rfl (nb rfl) rfl rfl rfl rfl rfl rfl rfl (by simp only [slMax]; omega) (by dsimp only; omega) (by simp) rfl rfl ?_ | refine aD rfl rfl rfl (nb rfl) rfl rfl (by omega) ?_ | refine bC rfl rfl rfl (nb rfl) rfl rfl rfl (by omega) (by omega) ?_ | refine bD rfl rfl rfl (nb rfl) rfl rfl rfl (by omega) (by omega) ?_ | refine bB tabOk rfl rfl rfl (nb rfl) rfl rfl rfl rfl rfl rfl rfl rfl rfl ?_ | refine aT tabOk rfl rfl (nb rfl) rfl ?_ | refine aN tabOk rfl rfl rfl (nb rfl) rfl rfl rfl rfl rfl rfl ?_ | refine aO tabOk rfl rfl rfl (nb rfl) rfl rfl rfl rfl ?_ | refine aK tabOk rfl rfl rfl rfl rfl rfl rfl rfl rfl rfl rfl ?_ | refine aP tabOk rfl rfl rfl (nb rfl) rfl rfl rfl rfl (by first | assumption | omega) ?_ | refine aH tabOk rfl rfl rfl (nb rfl) rfl rfl rfl rfl (by first | rfl | omega) (by first | omega | simp) ?_ | refine aB tabOk rfl rfl rfl (nb rfl) rfl rfl rfl (by assumption) ?_ | refine aB tabOk rfl rfl rfl (nb rfl) rfl rfl rfl (bM _ _ (by first | assumption | omega)) ?_ | refine aD rfl rfl rfl (nb rfl) rfl rfl (by omega) ?_ | ((fail_if_success (refine aE (b := true) rfl rfl rfl ?_)); (fail_if_success (refine aE (b := false) rfl rfl rfl ?_)); refine aQ rfl rfl rfl (fun hq => ?_) (fun hq => ?_) <;> first | subst hq | (first | (simp only [sD, sE, sB, sC, sN, sM, sT, sF] at hq; try (exfalso; omega)) | skip)) | fail) | (refine bQ ?_; first | refine bH ?_ | refine bN ?_ | refine aL ?_ | refine aX ?_ | refine bO ?_ | refine bF ?_ | refine bE ?_ | refine aA (b := true) rfl (fun _ => ?_) nTf | refine aA (b := false) rfl nFt (fun _ => ?_) | refine aY ?_ | refine aW ?_ | refine aU mixed (by kernel_rfl) ?_ | refine aC mixed (by kernel_rfl) ?_ | (refine aA rfl (fun hq => ?_) (fun hq => ?_) <;> first | subst hq | (first | (simp only [sD, sE, sB, sC, sN, sM, sT, sF] at hq; try (exfalso; omega)) | skip)) | fail) | (refine bK ?_; first | refine bT ?_ | refine aI ?_ | refine aM ?_ | fail) | (refine bA ?_; first | refine bP ?_ | refine aF ?_ | refine aG (by decide) ?_ | refine aJ ?_ | fail) | refine bL (aV (by kernel_rfl)) ?_ | fail)
      all_goals first | (exfalso; omega) | skip
      rw [hcz]
      refine cJ (ι := {i : Nat // i ≤ l.length ∧ ∀ j (h : j < l.length), j < i → ∀ x ∈ l[j].kids, 0 ≤ x ∧ x < (j : Int)}) (fun i => S.f ⟨[(6, .imm (.lit (.int .i64 (i.1 : Int)))), (5, .ref 600 l.length), (4, .imm (.lit (.int .i64 (l.length : Int)))), (1, .imm (.ptr [.sl false l.length (cellIVs l)] 0))], [(600, .arr 3 1 l.length (cntIVs l.length (allK (l.take i.1))))]⟩) (fun i => l.length - i.1) ⟨0, Nat.zero_le _, fun j h h2 => by omega⟩ (cB (by repeat' first | exact trivial | refine ⟨rfl, ?_⟩) (by repeat' first | exact trivial | refine ⟨rfl, ?_⟩)) ?_
      rintro ⟨i, hi, hpr⟩
      dsimp only
      by_cases hil : i < l.length
      · have hck := sW hil
        have hki := hk _ (List.getElem_mem hil)
        have hstep := mZ l i hil
        repeat' (first | refine bG ?_ | (refine bJ ?_; first | refine aR tabOk rfl rfl rfl (nb rfl) rfl ?_ | refine aZ rfl rfl (nb rfl) ?_ | (refine bI rfl rfl rfl (nb rfl) rfl rfl rfl (fun hq => ?_) (fun hq => ?_) <;> (first | (simp only [sD, sE, sB, sC, sN, sM, sT, sF] at hq; try (exfalso; omega)) | skip)) | refine aD rfl rfl rfl (nb rfl) rfl rfl (by omega) ?_ | refine bC rfl rfl rfl (nb rfl) rfl rfl rfl (by omega) (by omega) ?_ | refine bD rfl rfl rfl (nb rfl) rfl rfl rfl (by omega) (by omega) ?_ | refine bB tabOk rfl rfl rfl (nb rfl) rfl rfl rfl rfl rfl rfl rfl rfl rfl ?_ | refine aT tabOk rfl rfl (nb rfl) rfl ?_ | refine aN tabOk rfl rfl rfl (nb rfl) rfl rfl rfl rfl rfl rfl ?_ | refine aO tabOk rfl rfl rfl (nb rfl) rfl rfl rfl rfl ?_ | refine aK tabOk rfl rfl rfl rfl rfl rfl rfl rfl rfl rfl rfl ?_ | refine aP tabOk rfl rfl rfl (nb rfl) rfl rfl rfl rfl (by first | assumption | omega) ?_ | refine aH tabOk rfl rfl rfl (nb rfl) rfl rfl rfl rfl (by first | rfl | omega) (by first | omega | simp) ?_ | refine aB tabOk rfl rfl rfl (nb rfl) rfl rfl rfl (by assumption) ?_ | refine aB tabOk rfl rfl rfl (nb rfl) rfl rfl rfl (bM _ _ (by first | assumption | omega)) ?_ | refine aD rfl rfl rfl (nb rfl) rfl rfl (by omega) ?_ | ((fail_if_success (refine aE (b := true) rfl rfl rfl ?_)); (fail_if_success (refine aE (b := false) rfl rfl rfl ?_)); refine aQ rfl rfl rfl (fun hq => ?_) (fun hq => ?_) <;> first | subst hq | (first | (simp only [sD, sE, sB, sC, sN, sM, sT, sF] at hq; try (exfalso; omega)) | skip)) | fail) | (refine bQ ?_; first | refine bH ?_ | refine bN ?_ | refine aL ?_ | refine aX ?_ | refine bO ?_ | refine bF ?_ | refine bE ?_ | refine aA (b := true) rfl (fun _ => ?_) nTf | refine aA (b := false) rfl nFt (fun _ => ?_) | refine aY ?_ | refine aW ?_ | refine aU mixed (by kernel_rfl) ?_ | refine aC mixed (by kernel_rfl) ?_ | (refine aA rfl (fun hq => ?_) (fun hq => ?_) <;> first | subst hq | (first | (simp only [sD, sE, sB, sC, sN, sM, sT, sF] at hq; try (exfalso; omega)) | skip)) | fail) | (refine bK ?_; first | refine bT ?_ | refine aI ?_ | refine aM ?_ | fail) | (refine bA ?_; first | refine bP ?_ | refine aF ?_ | refine aG (by decide) ?_ | refine aJ ?_ | fail) | refine bL (aV (by kernel_rfl)) ?_ | fail)
        have e0 : cntIVs l.length (allK (l.take i)) = cntIVs l.length (allK (l.take i) ++ l[i].kids.take 0) := by rw [List.take_zero, List.append_nil]
        rw [e0]
        refine cJ (ι := {k : Nat // k ≤ l[i].kids.length ∧ ∀ x ∈ l[i].kids.take k, 0 ≤ x ∧ x < (i : Int)}) (fun k => S.f ⟨[(7, .imm (.lit (.int .i64 (k.1 : Int)))), (6, .imm (.lit (.int .i64 (i : Int)))), (5, .ref 600 l.length), (4, .imm (.lit (.int .i64 (l.length : Int)))), (1, .imm (.ptr [.sl false l.length (cellIVs l)] 0))], [(600, .arr 3 1 l.length (cntIVs l.length (allK (l.take i) ++ l[i].kids.take k.1)))]⟩) (fun k => l[i].kids.length - k.1) ⟨0, Nat.zero_le _, fun x hx => by rw [List.take_zero] at hx; cases hx⟩ (cB (by repeat' first | exact trivial | refine ⟨rfl, ?_⟩) (by repeat' first | exact trivial | refine ⟨rfl, ?_⟩)) ?_
        rintro ⟨k, hkk, hkr⟩
        dsimp only
        by_cases hkl : k < l[i].kids.length
        · have hix := lW l[i].kids k hkl
          have hbk := @vS l i k hil hkl
          have hnx : l[i].kids.take (k + 1) = l[i].kids.take k ++ [l[i].kids[k]] := List.take_succ_eq_append_getElem hkl
          have hpk : (allK (l.take i) ++ l[i].kids.take k).length ≤ 67108864 := by
            have := hpre i
            have h2 : l.length * 8192 ≤ 8192 * 8192 := Nat.mul_le_mul_right _ (by omega)
            have h3 : allK (l.take (i + 1)) = allK (l.take i) ++ l[i].kids := hstep
            have h4 := hpre (i + 1)
            rw [h3, List.length_append] at h4
            rw [List.length_append, List.length_take]
            omega
          have hcl := hlimit _ hpk l[i].kids[k]
          by_cases hx : 0 ≤ l[i].kids[k] ∧ l[i].kids[k] < (i : Int)
          · have hg1 := rH l.length (allK (l.take i) ++ l[i].kids.take k) l[i].kids[k] hx.1 (by omega)
            have hs1 := vR l.length (allK (l.take i) ++ l[i].kids.take k) l[i].kids[k] hx.1 (by omega)
            have hxe : l[i].kids[k] = ((l[i].kids[k]).toNat : Int) := (Int.toNat_of_nonneg hx.1).symm
            have hxl : (l[i].kids[k]).toNat < l.length := by omega
            have hkr2 : ∀ x ∈ l[i].kids.take (k + 1), 0 ≤ x ∧ x < (i : Int) := fun x hm => by
              rw [hnx, List.mem_append] at hm
              rcases hm with hm | hm
              · exact hkr x hm
              · rw [List.mem_singleton.1 hm]; exact hx
            rw [List.append_assoc, ← hnx] at hs1
            generalize (allK (l.take i) ++ l[i].kids.take k).count l[i].kids[k] = cn at *
            repeat' (first | refine bG ?_ | (refine bJ ?_; first | refine aR tabOk rfl rfl rfl (nb rfl) rfl ?_ | refine aZ rfl rfl (nb rfl) ?_ | (refine bI rfl rfl rfl (nb rfl) rfl rfl rfl (fun hq => ?_) (fun hq => ?_) <;> (first | (simp only [sD, sE, sB, sC, sN, sM, sT, sF] at hq; try (exfalso; omega)) | skip))| refine aB tabOk rfl rfl rfl (nb rfl) rfl rfl rfl hck ?_ | refine aB tabOk rfl rfl rfl (nb rfl) rfl rfl rfl hix ?_ | refine fF tabOk rfl rfl rfl (nb rfl) rfl rfl rfl rfl rfl rfl hxe hxl ?_ | refine gI tabOk rfl rfl rfl (nb rfl) rfl rfl rfl rfl (by omega) hg1 ?_ | refine aD rfl rfl rfl (nb rfl) rfl rfl hcl ?_ | refine nP tabOk rfl rfl rfl rfl rfl rfl rfl rfl rfl rfl (by omega) (by show (l[i].kids[k]).toNat * 1 < l.length * 1; omega) ?_ | refine aD rfl rfl rfl (nb rfl) rfl rfl (by omega) ?_ | refine bC rfl rfl rfl (nb rfl) rfl rfl rfl (by omega) (by omega) ?_ | refine bD rfl rfl rfl (nb rfl) rfl rfl rfl (by omega) (by omega) ?_ | refine bB tabOk rfl rfl rfl (nb rfl) rfl rfl rfl rfl rfl rfl rfl rfl rfl ?_ | refine aT tabOk rfl rfl (nb rfl) rfl ?_ | refine aN tabOk rfl rfl rfl (nb rfl) rfl rfl rfl rfl rfl rfl ?_ | refine aO tabOk rfl rfl rfl (nb rfl) rfl rfl rfl rfl ?_ | refine aK tabOk rfl rfl rfl rfl rfl rfl rfl rfl rfl rfl rfl ?_ | refine aP tabOk rfl rfl rfl (nb rfl) rfl rfl rfl rfl (by first | assumption | omega) ?_ | refine aH tabOk rfl rfl rfl (nb rfl) rfl rfl rfl rfl (by first | rfl | omega) (by first | omega | simp) ?_ | refine aB tabOk rfl rfl rfl (nb rfl) rfl rfl rfl (by assumption) ?_ | refine aB tabOk rfl rfl rfl (nb rfl) rfl rfl rfl (bM _ _ (by first | assumption | omega)) ?_ | refine aD rfl rfl rfl (nb rfl) rfl rfl (by omega) ?_ | ((fail_if_success (refine aE (b := true) rfl rfl rfl ?_)); (fail_if_success (refine aE (b := false) rfl rfl rfl ?_)); refine aQ rfl rfl rfl (fun hq => ?_) (fun hq => ?_) <;> first | subst hq | (first | (simp only [sD, sE, sB, sC, sN, sM, sT, sF] at hq; try (exfalso; omega)) | skip)) | fail) | (refine bQ ?_; first | refine bH ?_ | refine bN ?_ | refine aL ?_ | refine aX ?_ | refine bO ?_ | refine bF ?_ | refine bE ?_ | refine aA (b := true) rfl (fun _ => ?_) nTf | refine aA (b := false) rfl nFt (fun _ => ?_) | refine aY ?_ | refine aW ?_ | refine aU mixed (by kernel_rfl) ?_ | refine aC mixed (by kernel_rfl) ?_ | (refine aA rfl (fun hq => ?_) (fun hq => ?_) <;> first | subst hq | (first | (simp only [sD, sE, sB, sC, sN, sM, sT, sF] at hq; try (exfalso; omega)) | skip)) | fail) | (refine bK ?_; first | refine bT ?_ | refine aI ?_ | refine aM ?_ | fail) | (refine bA ?_; first | refine bP ?_ | refine aF ?_ | refine aG (by decide) ?_ | refine aJ ?_ | fail) | refine bL (aV (by kernel_rfl)) ?_ | fail)
            all_goals first | (exfalso; omega) | skip
            refine ⟨⟨k + 1, hkl, hkr2⟩, (by show l[i].kids.length - (k + 1) < l[i].kids.length - k; omega), ?_⟩
            dsimp only
            rw [← hs1]
            exact (cB (by repeat' first | exact trivial | refine ⟨rfl, ?_⟩) (by repeat' first | exact trivial | refine ⟨rfl, ?_⟩))
          · have e := hbad (fun h => hbk (by omega) h.1)
            subst e
            repeat' (first | refine bG ?_ | (refine bJ ?_; first | refine aR tabOk rfl rfl rfl (nb rfl) rfl ?_ | refine aZ rfl rfl (nb rfl) ?_ | (refine bI rfl rfl rfl (nb rfl) rfl rfl rfl (fun hq => ?_) (fun hq => ?_) <;> (first | (simp only [sD, sE, sB, sC, sN, sM, sT, sF] at hq; try (exfalso; omega)) | skip))| refine aB tabOk rfl rfl rfl (nb rfl) rfl rfl rfl hck ?_ | refine aB tabOk rfl rfl rfl (nb rfl) rfl rfl rfl hix ?_ | refine aD rfl rfl rfl (nb rfl) rfl rfl (by omega) ?_ | refine bC rfl rfl rfl (nb rfl) rfl rfl rfl (by omega) (by omega) ?_ | refine bD rfl rfl rfl (nb rfl) rfl rfl rfl (by omega) (by omega) ?_ | refine bB tabOk rfl rfl rfl (nb rfl) rfl rfl rfl rfl rfl rfl rfl rfl rfl ?_ | refine aT tabOk rfl rfl (nb rfl) rfl ?_ | refine aN tabOk rfl rfl rfl (nb rfl) rfl rfl rfl rfl rfl rfl ?_ | refine aO tabOk rfl rfl rfl (nb rfl) rfl rfl rfl rfl ?_ | refine aK tabOk rfl rfl rfl rfl rfl rfl rfl rfl rfl rfl rfl ?_ | refine aP tabOk rfl rfl rfl (nb rfl) rfl rfl rfl rfl (by first | assumption | omega) ?_ | refine aH tabOk rfl rfl rfl (nb rfl) rfl rfl rfl rfl (by first | rfl | omega) (by first | omega | simp) ?_ | refine aB tabOk rfl rfl rfl (nb rfl) rfl rfl rfl (by assumption) ?_ | refine aB tabOk rfl rfl rfl (nb rfl) rfl rfl rfl (bM _ _ (by first | assumption | omega)) ?_ | refine aD rfl rfl rfl (nb rfl) rfl rfl (by omega) ?_ | ((fail_if_success (refine aE (b := true) rfl rfl rfl ?_)); (fail_if_success (refine aE (b := false) rfl rfl rfl ?_)); refine aQ rfl rfl rfl (fun hq => ?_) (fun hq => ?_) <;> first | subst hq | (first | (simp only [sD, sE, sB, sC, sN, sM, sT, sF] at hq; try (exfalso; omega)) | skip)) | fail) | (refine bQ ?_; first | refine bH ?_ | refine bN ?_ | refine aL ?_ | refine aX ?_ | refine bO ?_ | refine bF ?_ | refine bE ?_ | refine aA (b := true) rfl (fun _ => ?_) nTf | refine aA (b := false) rfl nFt (fun _ => ?_) | refine aY ?_ | refine aW ?_ | refine aU mixed (by kernel_rfl) ?_ | refine aC mixed (by kernel_rfl) ?_ | (refine aA rfl (fun hq => ?_) (fun hq => ?_) <;> first | subst hq | (first | (simp only [sD, sE, sB, sC, sN, sM, sT, sF] at hq; try (exfalso; omega)) | skip)) | fail) | (refine bK ?_; first | refine bT ?_ | refine aI ?_ | refine aM ?_ | fail) | (refine bA ?_; first | refine bP ?_ | refine aF ?_ | refine aG (by decide) ?_ | refine aJ ?_ | fail) | refine bL (aV (by kernel_rfl)) ?_ | fail)
            all_goals first
              | (exfalso; omega)
              | (refine bV (by first | exact .inl rfl | exact .inr rfl) (bX rfl (aS rfl) (aS rfl)) rfl ?_; rfl)
        · have ek : k = l[i].kids.length := by omega
          subst ek
          rw [List.take_length] at *
          rw [← hstep]
          have hpr2 : ∀ j (h : j < l.length), j < i + 1 → ∀ x ∈ l[j].kids, 0 ≤ x ∧ x < (j : Int) := fun j h hj x hx => by
            rcases Nat.lt_or_ge j i with h2 | h2
            · exact hpr j h h2 x hx
            · have e : j = i := by omega
              subst e
              exact hkr x hx
          repeat' (first | refine bG ?_ | (refine bJ ?_; first | refine aR tabOk rfl rfl rfl (nb rfl) rfl ?_ | refine aZ rfl rfl (nb rfl) ?_ | (refine bI rfl rfl rfl (nb rfl) rfl rfl rfl (fun hq => ?_) (fun hq => ?_) <;> (first | (simp only [sD, sE, sB, sC, sN, sM, sT, sF] at hq; try (exfalso; omega)) | skip))| refine aB tabOk rfl rfl rfl (nb rfl) rfl rfl rfl hck ?_ | refine aD rfl rfl rfl (nb rfl) rfl rfl (by omega) ?_ | refine bC rfl rfl rfl (nb rfl) rfl rfl rfl (by omega) (by omega) ?_ | refine bD rfl rfl rfl (nb rfl) rfl rfl rfl (by omega) (by omega) ?_ | refine bB tabOk rfl rfl rfl (nb rfl) rfl rfl rfl rfl rfl rfl rfl rfl rfl ?_ | refine aT tabOk rfl rfl (nb rfl) rfl ?_ | refine aN tabOk rfl rfl rfl (nb rfl) rfl rfl rfl rfl rfl rfl ?_ | refine aO tabOk rfl rfl rfl (nb rfl) rfl rfl rfl rfl ?_ | refine aK tabOk rfl rfl rfl rfl rfl rfl rfl rfl rfl rfl rfl ?_ | refine aP tabOk rfl rfl rfl (nb rfl) rfl rfl rfl rfl (by first | assumption | omega) ?_ | refine aH tabOk rfl rfl rfl (nb rfl) rfl rfl rfl rfl (by first | rfl | omega) (by first | omega | simp) ?_ | refine aB tabOk rfl rfl rfl (nb rfl) rfl rfl rfl (by assumption) ?_ | refine aB tabOk rfl rfl rfl (nb rfl) rfl rfl rfl (bM _ _ (by first | assumption | omega)) ?_ | refine aD rfl rfl rfl (nb rfl) rfl rfl (by omega) ?_ | ((fail_if_success (refine aE (b := true) rfl rfl rfl ?_)); (fail_if_success (refine aE (b := false) rfl rfl rfl ?_)); refine aQ rfl rfl rfl (fun hq => ?_) (fun hq => ?_) <;> first | subst hq | (first | (simp only [sD, sE, sB, sC, sN, sM, sT, sF] at hq; try (exfalso; omega)) | skip)) | fail) | (refine bQ ?_; first | refine bH ?_ | refine bN ?_ | refine aL ?_ | refine aX ?_ | refine bO ?_ | refine bF ?_ | refine bE ?_ | refine aA (b := true) rfl (fun _ => ?_) nTf | refine aA (b := false) rfl nFt (fun _ => ?_) | refine aY ?_ | refine aW ?_ | refine aU mixed (by kernel_rfl) ?_ | refine aC mixed (by kernel_rfl) ?_ | (refine aA rfl (fun hq => ?_) (fun hq => ?_) <;> first | subst hq | (first | (simp only [sD, sE, sB, sC, sN, sM, sT, sF] at hq; try (exfalso; omega)) | skip)) | fail) | (refine bK ?_; first | refine bT ?_ | refine aI ?_ | refine aM ?_ | fail) | (refine bA ?_; first | refine bP ?_ | refine aF ?_ | refine aG (by decide) ?_ | refine aJ ?_ | fail) | refine bL (aV (by kernel_rfl)) ?_ | fail)
          all_goals first
            | (exfalso; omega)
            | exact ⟨⟨i + 1, hil, hpr2⟩, (by show l.length - (i + 1) < l.length - i; omega), (cB (by repeat' first | exact trivial | refine ⟨rfl, ?_⟩) (by repeat' first | exact trivial | refine ⟨rfl, ?_⟩))⟩
      · have ei : i = l.length := by omega
        subst ei
        have hbl : below l := fun j h x hx => hpr j h h x hx
        rw [List.take_length]
        repeat' (first | refine bG ?_ | (refine bJ ?_; first | refine aR tabOk rfl rfl rfl (nb rfl) rfl ?_ | refine aZ rfl rfl (nb rfl) ?_ | (refine bI rfl rfl rfl (nb rfl) rfl rfl rfl (fun hq => ?_) (fun hq => ?_) <;> (first | (simp only [sD, sE, sB, sC, sN, sM, sT, sF] at hq; try (exfalso; omega)) | skip)) | refine aD rfl rfl rfl (nb rfl) rfl rfl (by omega) ?_ | refine bC rfl rfl rfl (nb rfl) rfl rfl rfl (by omega) (by omega) ?_ | refine bD rfl rfl rfl (nb rfl) rfl rfl rfl (by omega) (by omega) ?_ | refine bB tabOk rfl rfl rfl (nb rfl) rfl rfl rfl rfl rfl rfl rfl rfl rfl ?_ | refine aT tabOk rfl rfl (nb rfl) rfl ?_ | refine aN tabOk rfl rfl rfl (nb rfl) rfl rfl rfl rfl rfl rfl ?_ | refine aO tabOk rfl rfl rfl (nb rfl) rfl rfl rfl rfl ?_ | refine aK tabOk rfl rfl rfl rfl rfl rfl rfl rfl rfl rfl rfl ?_ | refine aP tabOk rfl rfl rfl (nb rfl) rfl rfl rfl rfl (by first | assumption | omega) ?_ | refine aH tabOk rfl rfl rfl (nb rfl) rfl rfl rfl rfl (by first | rfl | omega) (by first | omega | simp) ?_ | refine aB tabOk rfl rfl rfl (nb rfl) rfl rfl rfl (by assumption) ?_ | refine aB tabOk rfl rfl rfl (nb rfl) rfl rfl rfl (bM _ _ (by first | assumption | omega)) ?_ | refine aD rfl rfl rfl (nb rfl) rfl rfl (by omega) ?_ | ((fail_if_success (refine aE (b := true) rfl rfl rfl ?_)); (fail_if_success (refine aE (b := false) rfl rfl rfl ?_)); refine aQ rfl rfl rfl (fun hq => ?_) (fun hq => ?_) <;> first | subst hq | (first | (simp only [sD, sE, sB, sC, sN, sM, sT, sF] at hq; try (exfalso; omega)) | skip)) | fail) | (refine bQ ?_; first | refine bH ?_ | refine bN ?_ | refine aL ?_ | refine aX ?_ | refine bO ?_ | refine bF ?_ | refine bE ?_ | refine aA (b := true) rfl (fun _ => ?_) nTf | refine aA (b := false) rfl nFt (fun _ => ?_) | refine aY ?_ | refine aW ?_ | refine aU mixed (by kernel_rfl) ?_ | refine aC mixed (by kernel_rfl) ?_ | (refine aA rfl (fun hq => ?_) (fun hq => ?_) <;> first | subst hq | (first | (simp only [sD, sE, sB, sC, sN, sM, sT, sF] at hq; try (exfalso; omega)) | skip)) | fail) | (refine bK ?_; first | refine bT ?_ | refine aI ?_ | refine aM ?_ | fail) | (refine bA ?_; first | refine bP ?_ | refine aF ?_ | refine aG (by decide) ?_ | refine aJ ?_ | fail) | refine bL (aV (by kernel_rfl)) ?_ | fail)
        refine cJ (ι := {j : Nat // j ≤ l.length - 1 ∧ ∀ q : Nat, q < j → (allK l).count (q : Int) = 1}) (fun j => S.f ⟨[(9, .imm (.lit (.int .i64 (j.1 : Int)))), (5, .ref 600 l.length), (4, .imm (.lit (.int .i64 (l.length : Int)))), (1, .imm (.ptr [.sl false l.length (cellIVs l)] 0))], [(600, .arr 3 1 l.length (cntIVs l.length (allK l)))]⟩) (fun j => l.length - j.1) ⟨0, Nat.zero_le _, fun q h => by omega⟩ (cB (by repeat' first | exact trivial | refine ⟨rfl, ?_⟩) (by repeat' first | exact trivial | refine ⟨rfl, ?_⟩)) ?_
        rintro ⟨j, hj, hone⟩
        dsimp only
        by_cases hjl : j < l.length - 1
        · have hg1 : (cntIVs l.length (allK l))[j * 1]? = some (.lit (.int .i64 (((allK l).count (j : Int) : Nat) : Int))) := rH l.length (allK l) (j : Int) (by omega) (by omega)
          by_cases hc1 : (allK l).count (j : Int) = 1
          · rw [hc1] at hg1
            have hone2 : ∀ q : Nat, q < j + 1 → (allK l).count (q : Int) = 1 := fun q hq => by
              rcases Nat.lt_or_ge q j with h2 | h2
              · exact hone q h2
              · have e : q = j := by omega
                subst e
                exact hc1
            repeat' (first | refine bG ?_ | (refine bJ ?_; first | refine aR tabOk rfl rfl rfl (nb rfl) rfl ?_ | refine aZ rfl rfl (nb rfl) ?_ | (refine bI rfl rfl rfl (nb rfl) rfl rfl rfl (fun hq => ?_) (fun hq => ?_) <;> (first | (simp only [sD, sE, sB, sC, sN, sM, sT, sF] at hq; try (exfalso; omega)) | skip))| refine fF tabOk rfl rfl rfl (nb rfl) rfl rfl rfl rfl rfl rfl rfl (by omega) ?_ | refine gI tabOk rfl rfl rfl (nb rfl) rfl rfl rfl rfl (by omega) hg1 ?_ | refine aD rfl rfl rfl (nb rfl) rfl rfl (by omega) ?_ | refine bC rfl rfl rfl (nb rfl) rfl rfl rfl (by omega) (by omega) ?_ | refine bD rfl rfl rfl (nb rfl) rfl rfl rfl (by omega) (by omega) ?_ | refine bB tabOk rfl rfl rfl (nb rfl) rfl rfl rfl rfl rfl rfl rfl rfl rfl ?_ | refine aT tabOk rfl rfl (nb rfl) rfl ?_ | refine aN tabOk rfl rfl rfl (nb rfl) rfl rfl rfl rfl rfl rfl ?_ | refine aO tabOk rfl rfl rfl (nb rfl) rfl rfl rfl rfl ?_ | refine aK tabOk rfl rfl rfl rfl rfl rfl rfl rfl rfl rfl rfl ?_ | refine aP tabOk rfl rfl rfl (nb rfl) rfl rfl rfl rfl (by first | assumption | omega) ?_ | refine aH tabOk rfl rfl rfl (nb rfl) rfl rfl rfl rfl (by first | rfl | omega) (by first | omega | simp) ?_ | refine aB tabOk rfl rfl rfl (nb rfl) rfl rfl rfl (by assumption) ?_ | refine aB tabOk rfl rfl rfl (nb rfl) rfl rfl rfl (bM _ _ (by first | assumption | omega)) ?_ | refine aD rfl rfl rfl (nb rfl) rfl rfl (by omega) ?_ | ((fail_if_success (refine aE (b := true) rfl rfl rfl ?_)); (fail_if_success (refine aE (b := false) rfl rfl rfl ?_)); refine aQ rfl rfl rfl (fun hq => ?_) (fun hq => ?_) <;> first | subst hq | (first | (simp only [sD, sE, sB, sC, sN, sM, sT, sF] at hq; try (exfalso; omega)) | skip)) | fail) | (refine bQ ?_; first | refine bH ?_ | refine bN ?_ | refine aL ?_ | refine aX ?_ | refine bO ?_ | refine bF ?_ | refine bE ?_ | refine aA (b := true) rfl (fun _ => ?_) nTf | refine aA (b := false) rfl nFt (fun _ => ?_) | refine aY ?_ | refine aW ?_ | refine aU mixed (by kernel_rfl) ?_ | refine aC mixed (by kernel_rfl) ?_ | (refine aA rfl (fun hq => ?_) (fun hq => ?_) <;> first | subst hq | (first | (simp only [sD, sE, sB, sC, sN, sM, sT, sF] at hq; try (exfalso; omega)) | skip)) | fail) | (refine bK ?_; first | refine bT ?_ | refine aI ?_ | refine aM ?_ | fail) | (refine bA ?_; first | refine bP ?_ | refine aF ?_ | refine aG (by decide) ?_ | refine aJ ?_ | fail) | refine bL (aV (by kernel_rfl)) ?_ | fail)
            all_goals first
              | (exfalso; omega)
              | exact absurd rfl (by assumption)
              | exact ⟨⟨j + 1, hjl, hone2⟩, (by show l.length - (j + 1) < l.length - j; omega), (cB (by repeat' first | exact trivial | refine ⟨rfl, ?_⟩) (by repeat' first | exact trivial | refine ⟨rfl, ?_⟩))⟩
          · have e := hbad (fun h => hc1 (h.2 j hjl))
            subst e
            repeat' (first | refine bG ?_ | (refine bJ ?_; first | refine aR tabOk rfl rfl rfl (nb rfl) rfl ?_ | refine aZ rfl rfl (nb rfl) ?_ | (refine bI rfl rfl rfl (nb rfl) rfl rfl rfl (fun hq => ?_) (fun hq => ?_) <;> (first | (simp only [sD, sE, sB, sC, sN, sM, sT, sF] at hq; try (exfalso; omega)) | skip))| refine fF tabOk rfl rfl rfl (nb rfl) rfl rfl rfl rfl rfl rfl rfl (by omega) ?_ | refine gI tabOk rfl rfl rfl (nb rfl) rfl rfl rfl rfl (by omega) hg1 ?_ | refine aD rfl rfl rfl (nb rfl) rfl rfl (by omega) ?_ | refine bC rfl rfl rfl (nb rfl) rfl rfl rfl (by omega) (by omega) ?_ | refine bD rfl rfl rfl (nb rfl) rfl rfl rfl (by omega) (by omega) ?_ | refine bB tabOk rfl rfl rfl (nb rfl) rfl rfl rfl rfl rfl rfl rfl rfl rfl ?_ | refine aT tabOk rfl rfl (nb rfl) rfl ?_ | refine aN tabOk rfl rfl rfl (nb rfl) rfl rfl rfl rfl rfl rfl ?_ | refine aO tabOk rfl rfl rfl (nb rfl) rfl rfl rfl rfl ?_ | refine aK tabOk rfl rfl rfl rfl rfl rfl rfl rfl rfl rfl rfl ?_ | refine aP tabOk rfl rfl rfl (nb rfl) rfl rfl rfl rfl (by first | assumption | omega) ?_ | refine aH tabOk rfl rfl rfl (nb rfl) rfl rfl rfl rfl (by first | rfl | omega) (by first | omega | simp) ?_ | refine aB tabOk rfl rfl rfl (nb rfl) rfl rfl rfl (by assumption) ?_ | refine aB tabOk rfl rfl rfl (nb rfl) rfl rfl rfl (bM _ _ (by first | assumption | omega)) ?_ | refine aD rfl rfl rfl (nb rfl) rfl rfl (by omega) ?_ | ((fail_if_success (refine aE (b := true) rfl rfl rfl ?_)); (fail_if_success (refine aE (b := false) rfl rfl rfl ?_)); refine aQ rfl rfl rfl (fun hq => ?_) (fun hq => ?_) <;> first | subst hq | (first | (simp only [sD, sE, sB, sC, sN, sM, sT, sF] at hq; try (exfalso; omega)) | skip)) | fail) | (refine bQ ?_; first | refine bH ?_ | refine bN ?_ | refine aL ?_ | refine aX ?_ | refine bO ?_ | refine bF ?_ | refine bE ?_ | refine aA (b := true) rfl (fun _ => ?_) nTf | refine aA (b := false) rfl nFt (fun _ => ?_) | refine aY ?_ | refine aW ?_ | refine aU mixed (by kernel_rfl) ?_ | refine aC mixed (by kernel_rfl) ?_ | (refine aA rfl (fun hq => ?_) (fun hq => ?_) <;> first | subst hq | (first | (simp only [sD, sE, sB, sC, sN, sM, sT, sF] at hq; try (exfalso; omega)) | skip)) | fail) | (refine bK ?_; first | refine bT ?_ | refine aI ?_ | refine aM ?_ | fail) | (refine bA ?_; first | refine bP ?_ | refine aF ?_ | refine aG (by decide) ?_ | refine aJ ?_ | fail) | refine bL (aV (by kernel_rfl)) ?_ | fail)
            all_goals first
              | (exfalso; omega)
              | (refine bV (by first | exact .inl rfl | exact .inr rfl) (bX rfl (aS rfl) (aS rfl)) rfl ?_; rfl)
        · have ej : j = l.length - 1 := by omega
          subst ej
          have e := hgood ⟨hbl, hone⟩
          subst e
          have hcall := wD l hbl (by omega) hk l.length (l.length - 1) (by omega) (by omega)
          repeat' (first | refine bG ?_ | (refine bJ ?_; first | refine aR tabOk rfl rfl rfl (nb rfl) rfl ?_ | refine aZ rfl rfl (nb rfl) ?_ | (refine bI rfl rfl rfl (nb rfl) rfl rfl rfl (fun hq => ?_) (fun hq => ?_) <;> (first | (simp only [sD, sE, sB, sC, sN, sM, sT, sF] at hq; try (exfalso; omega)) | skip))| refine bD (z := ((l.length - 1 : Nat) : Int)) rfl rfl rfl (nb rfl) rfl rfl (by omega) (by omega) (by omega) ?_ | refine bS rfl rfl (nb rfl) rfl rfl rfl rfl (hcall) ?_ | refine aD rfl rfl rfl (nb rfl) rfl rfl (by omega) ?_ | refine bC rfl rfl rfl (nb rfl) rfl rfl rfl (by omega) (by omega) ?_ | refine bD rfl rfl rfl (nb rfl) rfl rfl rfl (by omega) (by omega) ?_ | refine bB tabOk rfl rfl rfl (nb rfl) rfl rfl rfl rfl rfl rfl rfl rfl rfl ?_ | refine aT tabOk rfl rfl (nb rfl) rfl ?_ | refine aN tabOk rfl rfl rfl (nb rfl) rfl rfl rfl rfl rfl rfl ?_ | refine aO tabOk rfl rfl rfl (nb rfl) rfl rfl rfl rfl ?_ | refine aK tabOk rfl rfl rfl rfl rfl rfl rfl rfl rfl rfl rfl ?_ | refine aP tabOk rfl rfl rfl (nb rfl) rfl rfl rfl rfl (by first | assumption | omega) ?_ | refine aH tabOk rfl rfl rfl (nb rfl) rfl rfl rfl rfl (by first | rfl | omega) (by first | omega | simp) ?_ | refine aB tabOk rfl rfl rfl (nb rfl) rfl rfl rfl (by assumption) ?_ | refine aB tabOk rfl rfl rfl (nb rfl) rfl rfl rfl (bM _ _ (by first | assumption | omega)) ?_ | refine aD rfl rfl rfl (nb rfl) rfl rfl (by omega) ?_ | ((fail_if_success (refine aE (b := true) rfl rfl rfl ?_)); (fail_if_success (refine aE (b := false) rfl rfl rfl ?_)); refine aQ rfl rfl rfl (fun hq => ?_) (fun hq => ?_) <;> first | subst hq | (first | (simp only [sD, sE, sB, sC, sN, sM, sT, sF] at hq; try (exfalso; omega)) | skip)) | fail) | (refine bQ ?_; first | refine bH ?_ | refine bN ?_ | refine aL ?_ | refine aX ?_ | refine bO ?_ | refine bF ?_ | refine bE ?_ | refine aA (b := true) rfl (fun _ => ?_) nTf | refine aA (b := false) rfl nFt (fun _ => ?_) | refine aY ?_ | refine aW ?_ | refine aU mixed (by kernel_rfl) ?_ | refine aC mixed (by kernel_rfl) ?_ | (refine aA rfl (fun hq => ?_) (fun hq => ?_) <;> first | subst hq | (first | (simp only [sD, sE, sB, sC, sN, sM, sT, sF] at hq; try (exfalso; omega)) | skip)) | fail) | (refine bK ?_; first | refine bT ?_ | refine aI ?_ | refine aM ?_ | fail) | (refine bA ?_; first | refine bP ?_ | refine aF ?_ | refine aG (by decide) ?_ | refine aJ ?_ | fail) | refine bL (aV (by kernel_rfl)) ?_ | fail)
          all_goals first
            | (exfalso; omega)
            | (refine bV (by first | exact .inl rfl | exact .inr rfl) (bX rfl (aS rfl) (aS rfl)) rfl ?_; rfl)
end Go.Proofs.Ytlbemgokilhdnaa.Ab
namespace Go.Proofs.Ytlbemgokilhdnaa.Ab
set_option linter.unusedVariables false
set_option linter.unusedSimpArgs false
open Go.RowKit
attribute [local irreducible] AWP AOps AExit AThen ABlock ANoGoto FeetOk
theorem dR (n K : Nat) : (if (K : Int) < (n : Int) then (K : Int) else (n : Int)) = ((min n K : Nat) : Int) := by split <;> omega
def cutB (K : Nat) (s : ByteArray) : ByteArray := s.extract 0 (min s.size K)
theorem nA (K : Nat) (s : ByteArray) : (cutB K s).size ≤ K := by unfold cutB; rw [ByteArray.size_extract]; omega
def fewCell (c : CellD) : CellD := ⟨decide (c.kids.length = 0), c.k, c.n, cutB 165 c.a, cutB 20 c.b, c.kids.take 12⟩
theorem pD (l : List Int) : IV.sl false (min l.length 12 - 0) (((intIVs l).drop (0 * 1)).take ((min l.length 12 - 0) * 1)) = .sl false (l.take 12).length (intIVs (l.take 12)) := by
  unfold intIVs
  rw [Nat.zero_mul, List.drop_zero, Nat.sub_zero, Nat.mul_one, List.length_take, List.map_take, Nat.min_comm]
  congr 1
  conv => rhs; rw [List.take_eq_take_min, List.length_map]
theorem jB (l : List CellD) (c : CellD) : cellIVs (l ++ [c]) = cellIVs l ++ cellIV c := by
  rw [kF]
  show _ ++ (cellIV c ++ []) = _
  rw [List.append_nil]
def fewCells13 (l : List CellD) : List CellD := (l.take 80).map fewCell
set_option maxHeartbeats 16000000 in
set_option maxRecDepth 10000 in
theorem pE (l : List CellD) (hff : ∀ c ∈ l, c.f = false) : ACalls Try.prog 9 [.imm (.agg [.sl false l.length (cellIVs l)])] [] (.imm (openR (fewCells13 l)).1.iv) [] := by
  have hkids : ∀ c ∈ fewCells13 l, c.kids.length ≤ 8192 := fun c hc => by
    unfold fewCells13 at hc
    obtain ⟨d, _, rfl⟩ := List.mem_map.1 hc
    show (d.kids.take 12).length ≤ 8192
    rw [List.length_take]; omega
  have hopen := uJ (fewCells13 l) hkids
  refine bR Try.func9 rfl rfl (nb rfl) rfl ?_
  repeat' (first | refine bG ?_ | (refine bJ ?_; first | refine aR tabOk rfl rfl rfl (nb rfl) rfl ?_ | refine aZ rfl rfl (nb rfl) ?_ | (refine bI rfl rfl rfl (nb rfl) rfl rfl rfl (fun hq => ?_) (fun hq => ?_) <;> (first | (simp only [sD, sE, sB, sC, sN, sM, sT, sF] at hq; try (exfalso; omega)) | skip)) | refine aD rfl rfl rfl (nb rfl) rfl rfl (by omega) ?_ | refine bC rfl rfl rfl (nb rfl) rfl rfl rfl (by omega) (by omega) ?_ | refine bD rfl rfl rfl (nb rfl) rfl rfl rfl (by omega) (by omega) ?_ | refine bB tabOk rfl rfl rfl (nb rfl) rfl rfl rfl rfl rfl rfl rfl rfl rfl ?_ | refine aT tabOk rfl rfl (nb rfl) rfl ?_ | refine aN tabOk rfl rfl rfl (nb rfl) rfl rfl rfl rfl rfl rfl ?_ | refine aO tabOk rfl rfl rfl (nb rfl) rfl rfl rfl rfl ?_ | refine aK tabOk rfl rfl rfl rfl rfl rfl rfl rfl rfl rfl rfl ?_ | refine aP tabOk rfl rfl rfl (nb rfl) rfl rfl rfl rfl (by first | assumption | omega) ?_ | refine aH tabOk rfl rfl rfl (nb rfl) rfl rfl rfl rfl (by first | rfl | omega) (by first | omega | simp) ?_ | refine aB tabOk rfl rfl rfl (nb rfl) rfl rfl rfl (by assumption) ?_ | refine aB tabOk rfl rfl rfl (nb rfl) rfl rfl rfl (bM _ _ (by first | assumption | omega)) ?_ | refine aD rfl rfl rfl (nb rfl) rfl rfl (by omega) ?_ | ((fail_if_success (refine aE (b := true) rfl rfl rfl ?_)); (fail_if_success (refine aE (b := false) rfl rfl rfl ?_)); refine aQ rfl rfl rfl (fun hq => ?_) (fun hq => ?_) <;> first | subst hq | (first | (simp only [sD, sE, sB, sC, sN, sM, sT, sF] at hq; try (exfalso; omega)) | skip)) | fail) | (refine bQ ?_; first | refine bH ?_ | refine bN ?_ | refine aL ?_ | refine aX ?_ | refine bO ?_ | refine bF ?_ | refine bE ?_ | refine aA (b := true) rfl (fun _ => ?_) nTf | refine aA (b := false) rfl nFt (fun _ => ?_) | refine aY ?_ | refine aW ?_ | refine aU mixed (by kernel_rfl) ?_ | refine aC mixed (by kernel_rfl) ?_ | (refine aA rfl (fun hq => ?_) (fun hq => ?_) <;> first | subst hq | (first | (simp only [sD, sE, sB, sC, sN, sM, sT, sF] at hq; try (exfalso; omega)) | skip)) | fail) | (refine bK ?_; first | refine bT ?_ | refine aI ?_ | refine aM ?_ | fail) | (refine bA ?_; first | refine bP ?_ | refine aF ?_ | refine aG (by decide) ?_ | refine aJ ?_ | fail) | refine bL (aV (by kernel_rfl)) ?_ | fail)
  refine dQ (dW (h0 := 3) (k0 := 0) 500 50 5 rfl rfl (by simp) rfl rfl) ?_
  refine cJ (ι := {i : Nat // i ≤ l.length ∧ i ≤ 80}) (fun i => S.f ⟨[(4, .imm (.lit (.int .i64 (i.1 : Int)))), (3, .obj 3 0), (1, .imm (.ptr [.sl false l.length (cellIVs l)] 0))], [(500, .arr 50 5 i.1 (cellIVs ((l.take i.1).map fewCell))), (3, .cells [.ref 500 i.1])]⟩) (fun i => l.length - i.1) ⟨0, Nat.zero_le _, Nat.zero_le _⟩ (cB (by repeat' first | exact trivial | refine ⟨rfl, ?_⟩) (by repeat' first | exact trivial | refine ⟨rfl, ?_⟩)) ?_
  rintro ⟨i, hi, hiK⟩
  dsimp only
  by_cases hgo : i < l.length ∧ i < 80
  · obtain ⟨hil, hik⟩ := hgo
    have hrow := eJ l i hil
    have hcf := hff l[i] (List.getElem_mem hil)
    have hnx : cellIVs ((l.take (i + 1)).map fewCell) = cellIVs ((l.take i).map fewCell) ++ cellIV (fewCell l[i]) := by
      rw [List.take_succ_eq_append_getElem hil, List.map_append, List.map_singleton, jB]
    generalize l[i] = c at *
    change _ = [IV.lit (.int .i64 c.k), .lit (.int .i64 c.n), .lit (.string c.a), .lit (.string c.b), .sl c.f c.kids.length (intIVs c.kids)] at hrow
    rw [hcf] at hrow
    have hkc := pD c.kids
    by_cases hz : c.kids.length = 0
    · have hk0 : c.kids = [] := List.eq_nil_of_length_eq_zero hz
      have hfc : cellIV (fewCell c) = [IV.lit (.int .i64 c.k), .lit (.int .i64 c.n), .lit (.string (cutB 165 c.a)), .lit (.string (cutB 20 c.b)), .sl true 0 []] := by
        unfold fewCell cellIV
        rw [hk0]
        rfl
      rw [hk0] at hrow hkc
      rw [hfc] at hnx
      repeat' (first | refine bG ?_ | (refine bJ ?_; first | refine aR tabOk rfl rfl rfl (nb rfl) rfl ?_ | refine aZ rfl rfl (nb rfl) ?_ | (refine bI rfl rfl rfl (nb rfl) rfl rfl rfl (fun hq => ?_) (fun hq => ?_) <;> (first | (simp only [sD, sE, sB, sC, sN, sM, sT, sF] at hq; try (exfalso; omega)) | skip))| refine dZ tabOk rfl rfl rfl (nb rfl) rfl rfl rfl hrow rfl ?_ | refine dG rfl rfl rfl (nb rfl) rfl rfl (dR c.a.size 165) ?_ | refine dG rfl rfl rfl (nb rfl) rfl rfl (dR c.b.size 20) ?_ | refine dG (r := 0) rfl rfl rfl (nb rfl) rfl rfl rfl ?_ | refine dL (l := 0) (h := min c.a.size 165) (r := cutB 165 c.a) tabOk rfl rfl rfl (nb rfl) rfl rfl rfl rfl (by omega) (by omega) rfl ?_ | refine dL (l := 0) (h := min c.b.size 20) (r := cutB 20 c.b) tabOk rfl rfl rfl (nb rfl) rfl rfl rfl rfl (by omega) (by omega) rfl ?_ | refine dK (l := 0) (h := 0) tabOk rfl rfl rfl (nb rfl) rfl rfl rfl rfl rfl (Nat.le_refl _) (Nat.zero_le _) rfl ?_ | refine iT tabOk rfl rfl rfl (nb rfl) rfl rfl rfl rfl ?_ | refine cR tabOk rfl rfl rfl (nb rfl) rfl rfl rfl rfl rfl rfl rfl (by first | omega | decide) rfl (by first | omega | (dsimp only; omega)) (by first | omega | (dsimp only; omega)) ?_ | refine aD rfl rfl rfl (nb rfl) rfl rfl (by omega) ?_ | refine bC rfl rfl rfl (nb rfl) rfl rfl rfl (by omega) (by omega) ?_ | refine bD rfl rfl rfl (nb rfl) rfl rfl rfl (by omega) (by omega) ?_ | refine bB tabOk rfl rfl rfl (nb rfl) rfl rfl rfl rfl rfl rfl rfl rfl rfl ?_ | refine aT tabOk rfl rfl (nb rfl) rfl ?_ | refine aN tabOk rfl rfl rfl (nb rfl) rfl rfl rfl rfl rfl rfl ?_ | refine aO tabOk rfl rfl rfl (nb rfl) rfl rfl rfl rfl ?_ | refine aK tabOk rfl rfl rfl rfl rfl rfl rfl rfl rfl rfl rfl ?_ | refine aP tabOk rfl rfl rfl (nb rfl) rfl rfl rfl rfl (by first | assumption | omega) ?_ | refine aH tabOk rfl rfl rfl (nb rfl) rfl rfl rfl rfl (by first | rfl | omega) (by first | omega | simp) ?_ | refine aB tabOk rfl rfl rfl (nb rfl) rfl rfl rfl (by assumption) ?_ | refine aB tabOk rfl rfl rfl (nb rfl) rfl rfl rfl (bM _ _ (by first | assumption | omega)) ?_ | refine aD rfl rfl rfl (nb rfl) rfl rfl (by omega) ?_ | ((fail_if_success (refine aE (b := true) rfl rfl rfl ?_)); (fail_if_success (refine aE (b := false) rfl rfl rfl ?_)); refine aQ rfl rfl rfl (fun hq => ?_) (fun hq => ?_) <;> first | subst hq | (first | (simp only [sD, sE, sB, sC, sN, sM, sT, sF] at hq; try (exfalso; omega)) | skip)) | fail) | (refine bQ ?_; first | refine bH ?_ | refine bN ?_ | refine aL ?_ | refine aX ?_ | refine bO ?_ | refine bF ?_ | refine bE ?_ | refine aA (b := true) rfl (fun _ => ?_) nTf | refine aA (b := false) rfl nFt (fun _ => ?_) | refine aY ?_ | refine aW ?_ | refine aU mixed (by kernel_rfl) ?_ | refine aC mixed (by kernel_rfl) ?_ | (refine aA rfl (fun hq => ?_) (fun hq => ?_) <;> first | subst hq | (first | (simp only [sD, sE, sB, sC, sN, sM, sT, sF] at hq; try (exfalso; omega)) | skip)) | fail) | (refine bK ?_; first | refine bT ?_ | refine aI ?_ | refine aM ?_ | fail) | (refine bA ?_; first | refine bP ?_ | refine aF ?_ | refine aG (by decide) ?_ | refine aJ ?_ | fail) | refine bL (aV (by kernel_rfl)) ?_ | fail)
      refine ⟨⟨i + 1, hil, hik⟩, (by show l.length - (i + 1) < l.length - i; omega), ?_⟩
      dsimp only
      rw [hnx]
      exact (cB (by repeat' first | exact trivial | refine ⟨rfl, ?_⟩) (by repeat' first | exact trivial | refine ⟨rfl, ?_⟩))
    · have hfc : cellIV (fewCell c) = [IV.lit (.int .i64 c.k), .lit (.int .i64 c.n), .lit (.string (cutB 165 c.a)), .lit (.string (cutB 20 c.b)), .sl false (0 + (c.kids.take 12).length) (intIVs (c.kids.take 12))] := by
        unfold fewCell cellIV
        dsimp only
        rw [decide_eq_false hz, Nat.zero_add]
      have hkl : 0 < (c.kids.take 12).length := by rw [List.length_take]; omega
      have hkl2 : (c.kids.take 12).length ≤ 12 := by rw [List.length_take]; omega
      have hil2 := lX (c.kids.take 12)
      rw [hfc] at hnx
      repeat' (first | refine bG ?_ | (refine bJ ?_; first | refine aR tabOk rfl rfl rfl (nb rfl) rfl ?_ | refine aZ rfl rfl (nb rfl) ?_ | (refine bI rfl rfl rfl (nb rfl) rfl rfl rfl (fun hq => ?_) (fun hq => ?_) <;> (first | (simp only [sD, sE, sB, sC, sN, sM, sT, sF] at hq; try (exfalso; omega)) | skip))| refine dZ tabOk rfl rfl rfl (nb rfl) rfl rfl rfl hrow rfl ?_ | refine dG rfl rfl rfl (nb rfl) rfl rfl (dR c.a.size 165) ?_ | refine dG rfl rfl rfl (nb rfl) rfl rfl (dR c.b.size 20) ?_ | refine dL (l := 0) (h := min c.a.size 165) (r := cutB 165 c.a) tabOk rfl rfl rfl (nb rfl) rfl rfl rfl rfl (by omega) (by omega) rfl ?_ | refine dL (l := 0) (h := min c.b.size 20) (r := cutB 20 c.b) tabOk rfl rfl rfl (nb rfl) rfl rfl rfl rfl (by omega) (by omega) rfl ?_ | refine dG rfl rfl rfl (nb rfl) rfl rfl (dR c.kids.length 12) ?_ | refine dK (l := 0) (h := min c.kids.length 12) tabOk rfl rfl rfl (nb rfl) rfl rfl rfl rfl rfl (Nat.zero_le _) (by omega) hkc ?_ | refine dS (zs := intIVs (c.kids.take 12)) tabOk rfl rfl rfl (nb rfl) rfl rfl rfl rfl (.inl rfl) rfl rfl hkl (by rw [hil2]; exact (Nat.mul_one _).symm) (by omega) (by dsimp only; omega) rfl ?_ | refine cR tabOk rfl rfl rfl (nb rfl) rfl rfl rfl rfl rfl rfl rfl (by first | omega | decide) rfl (by first | omega | (dsimp only; omega)) (by first | omega | (dsimp only; omega)) ?_ | refine aD rfl rfl rfl (nb rfl) rfl rfl (by omega) ?_ | refine bC rfl rfl rfl (nb rfl) rfl rfl rfl (by omega) (by omega) ?_ | refine bD rfl rfl rfl (nb rfl) rfl rfl rfl (by omega) (by omega) ?_ | refine bB tabOk rfl rfl rfl (nb rfl) rfl rfl rfl rfl rfl rfl rfl rfl rfl ?_ | refine aT tabOk rfl rfl (nb rfl) rfl ?_ | refine aN tabOk rfl rfl rfl (nb rfl) rfl rfl rfl rfl rfl rfl ?_ | refine aO tabOk rfl rfl rfl (nb rfl) rfl rfl rfl rfl ?_ | refine aK tabOk rfl rfl rfl rfl rfl rfl rfl rfl rfl rfl rfl ?_ | refine aP tabOk rfl rfl rfl (nb rfl) rfl rfl rfl rfl (by first | assumption | omega) ?_ | refine aH tabOk rfl rfl rfl (nb rfl) rfl rfl rfl rfl (by first | rfl | omega) (by first | omega | simp) ?_ | refine aB tabOk rfl rfl rfl (nb rfl) rfl rfl rfl (by assumption) ?_ | refine aB tabOk rfl rfl rfl (nb rfl) rfl rfl rfl (bM _ _ (by first | assumption | omega)) ?_ | refine aD rfl rfl rfl (nb rfl) rfl rfl (by omega) ?_ | ((fail_if_success (refine aE (b := true) rfl rfl rfl ?_)); (fail_if_success (refine aE (b := false) rfl rfl rfl ?_)); refine aQ rfl rfl rfl (fun hq => ?_) (fun hq => ?_) <;> first | subst hq | (first | (simp only [sD, sE, sB, sC, sN, sM, sT, sF] at hq; try (exfalso; omega)) | skip)) | fail) | (refine bQ ?_; first | refine bH ?_ | refine bN ?_ | refine aL ?_ | refine aX ?_ | refine bO ?_ | refine bF ?_ | refine bE ?_ | refine aA (b := true) rfl (fun _ => ?_) nTf | refine aA (b := false) rfl nFt (fun _ => ?_) | refine aY ?_ | refine aW ?_ | refine aU mixed (by kernel_rfl) ?_ | refine aC mixed (by kernel_rfl) ?_ | (refine aA rfl (fun hq => ?_) (fun hq => ?_) <;> first | subst hq | (first | (simp only [sD, sE, sB, sC, sN, sM, sT, sF] at hq; try (exfalso; omega)) | skip)) | fail) | (refine bK ?_; first | refine bT ?_ | refine aI ?_ | refine aM ?_ | fail) | (refine bA ?_; first | refine bP ?_ | refine aF ?_ | refine aG (by decide) ?_ | refine aJ ?_ | fail) | refine bL (aV (by kernel_rfl)) ?_ | fail)
      refine ⟨⟨i + 1, hil, hik⟩, (by show l.length - (i + 1) < l.length - i; omega), ?_⟩
      dsimp only
      rw [hnx]
      exact (cB (by repeat' first | exact trivial | refine ⟨rfl, ?_⟩) (by repeat' first | exact trivial | refine ⟨rfl, ?_⟩))
  · have htk : (l.take i).map fewCell = fewCells13 l := by
      unfold fewCells13
      congr 1
      by_cases hK : i = 80
      · rw [hK]
      · rw [List.take_of_length_le (by omega), List.take_of_length_le (by omega)]
    have hfl : i = (fewCells13 l).length := by rw [← htk, List.length_map, List.length_take]; omega
    rw [htk]
    refine dQ ((Imp.of_le (σ' := S.f ⟨[(4, .imm (.lit (.int .i64 (i : Int)))), (3, .obj 3 0), (1, .imm (.ptr [.sl false l.length (cellIVs l)] 0))], [(500, .arr 50 5 (fewCells13 l).length (cellIVs (fewCells13 l))), (3, .cells [.ref 500 (fewCells13 l).length])]⟩) (by rw [← hfl]; exact (cB (by repeat' first | exact trivial | refine ⟨rfl, ?_⟩) (by repeat' first | exact trivial | refine ⟨rfl, ?_⟩)))).trans (cZ (g := 500) rfl (by repeat' first | exact trivial | exact fun _ => rfl | refine ⟨?_, ?_⟩) (by repeat' first | exact trivial | exact fun _ => rfl | refine ⟨?_, ?_⟩))) ?_
    generalize fewCells13 l = L at *
    generalize openR L = R at *
    obtain ⟨R1, R2⟩ := R
    dsimp only at *
    repeat' (first | refine bG ?_ | (refine bJ ?_; first | refine aR tabOk rfl rfl rfl (nb rfl) rfl ?_ | refine aZ rfl rfl (nb rfl) ?_ | (refine bI rfl rfl rfl (nb rfl) rfl rfl rfl (fun hq => ?_) (fun hq => ?_) <;> (first | (simp only [sD, sE, sB, sC, sN, sM, sT, sF] at hq; try (exfalso; omega)) | skip))| refine bS rfl rfl (nb rfl) rfl rfl rfl rfl (hopen) ?_ | refine aD rfl rfl rfl (nb rfl) rfl rfl (by omega) ?_ | refine bC rfl rfl rfl (nb rfl) rfl rfl rfl (by omega) (by omega) ?_ | refine bD rfl rfl rfl (nb rfl) rfl rfl rfl (by omega) (by omega) ?_ | refine bB tabOk rfl rfl rfl (nb rfl) rfl rfl rfl rfl rfl rfl rfl rfl rfl ?_ | refine aT tabOk rfl rfl (nb rfl) rfl ?_ | refine aN tabOk rfl rfl rfl (nb rfl) rfl rfl rfl rfl rfl rfl ?_ | refine aO tabOk rfl rfl rfl (nb rfl) rfl rfl rfl rfl ?_ | refine aK tabOk rfl rfl rfl rfl rfl rfl rfl rfl rfl rfl rfl ?_ | refine aP tabOk rfl rfl rfl (nb rfl) rfl rfl rfl rfl (by first | assumption | omega) ?_ | refine aH tabOk rfl rfl rfl (nb rfl) rfl rfl rfl rfl (by first | rfl | omega) (by first | omega | simp) ?_ | refine aB tabOk rfl rfl rfl (nb rfl) rfl rfl rfl (by assumption) ?_ | refine aB tabOk rfl rfl rfl (nb rfl) rfl rfl rfl (bM _ _ (by first | assumption | omega)) ?_ | refine aD rfl rfl rfl (nb rfl) rfl rfl (by omega) ?_ | ((fail_if_success (refine aE (b := true) rfl rfl rfl ?_)); (fail_if_success (refine aE (b := false) rfl rfl rfl ?_)); refine aQ rfl rfl rfl (fun hq => ?_) (fun hq => ?_) <;> first | subst hq | (first | (simp only [sD, sE, sB, sC, sN, sM, sT, sF] at hq; try (exfalso; omega)) | skip)) | fail) | (refine bQ ?_; first | refine bH ?_ | refine bN ?_ | refine aL ?_ | refine aX ?_ | refine bO ?_ | refine bF ?_ | refine bE ?_ | refine aA (b := true) rfl (fun _ => ?_) nTf | refine aA (b := false) rfl nFt (fun _ => ?_) | refine aY ?_ | refine aW ?_ | refine aU mixed (by kernel_rfl) ?_ | refine aC mixed (by kernel_rfl) ?_ | (refine aA rfl (fun hq => ?_) (fun hq => ?_) <;> first | subst hq | (first | (simp only [sD, sE, sB, sC, sN, sM, sT, sF] at hq; try (exfalso; omega)) | skip)) | fail) | (refine bK ?_; first | refine bT ?_ | refine aI ?_ | refine aM ?_ | fail) | (refine bA ?_; first | refine bP ?_ | refine aF ?_ | refine aG (by decide) ?_ | refine aJ ?_ | fail) | refine bL (aV (by kernel_rfl)) ?_ | fail)
    all_goals first
      | exact bZ (by first | exact .inl rfl | exact .inr rfl) (bU rfl (aS rfl)) rfl
      | (exfalso; omega)
def fewCells10 (l : List CellD) : List CellD := (l.take 60).map fewCell
set_option maxHeartbeats 16000000 in
set_option maxRecDepth 10000 in
theorem pF (l : List CellD) (hff : ∀ c ∈ l, c.f = false) : ACalls Try.prog 15 [.imm (.agg [.sl false l.length (cellIVs l)])] [] (.imm (openR (fewCells10 l)).1.iv) [] := by
  have hkids : ∀ c ∈ fewCells10 l, c.kids.length ≤ 8192 := fun c hc => by
    unfold fewCells10 at hc
    obtain ⟨d, _, rfl⟩ := List.mem_map.1 hc
    show (d.kids.take 12).length ≤ 8192
    rw [List.length_take]; omega
  have hopen := uJ (fewCells10 l) hkids
  refine bR Try.func15 rfl rfl (nb rfl) rfl ?_
  repeat' (first | refine bG ?_ | (refine bJ ?_; first | refine aR tabOk rfl rfl rfl (nb rfl) rfl ?_ | refine aZ rfl rfl (nb rfl) ?_ | (refine bI rfl rfl rfl (nb rfl) rfl rfl rfl (fun hq => ?_) (fun hq => ?_) <;> (first | (simp only [sD, sE, sB, sC, sN, sM, sT, sF] at hq; try (exfalso; omega)) | skip)) | refine aD rfl rfl rfl (nb rfl) rfl rfl (by omega) ?_ | refine bC rfl rfl rfl (nb rfl) rfl rfl rfl (by omega) (by omega) ?_ | refine bD rfl rfl rfl (nb rfl) rfl rfl rfl (by omega) (by omega) ?_ | refine bB tabOk rfl rfl rfl (nb rfl) rfl rfl rfl rfl rfl rfl rfl rfl rfl ?_ | refine aT tabOk rfl rfl (nb rfl) rfl ?_ | refine aN tabOk rfl rfl rfl (nb rfl) rfl rfl rfl rfl rfl rfl ?_ | refine aO tabOk rfl rfl rfl (nb rfl) rfl rfl rfl rfl ?_ | refine aK tabOk rfl rfl rfl rfl rfl rfl rfl rfl rfl rfl rfl ?_ | refine aP tabOk rfl rfl rfl (nb rfl) rfl rfl rfl rfl (by first | assumption | omega) ?_ | refine aH tabOk rfl rfl rfl (nb rfl) rfl rfl rfl rfl (by first | rfl | omega) (by first | omega | simp) ?_ | refine aB tabOk rfl rfl rfl (nb rfl) rfl rfl rfl (by assumption) ?_ | refine aB tabOk rfl rfl rfl (nb rfl) rfl rfl rfl (bM _ _ (by first | assumption | omega)) ?_ | refine aD rfl rfl rfl (nb rfl) rfl rfl (by omega) ?_ | ((fail_if_success (refine aE (b := true) rfl rfl rfl ?_)); (fail_if_success (refine aE (b := false) rfl rfl rfl ?_)); refine aQ rfl rfl rfl (fun hq => ?_) (fun hq => ?_) <;> first | subst hq | (first | (simp only [sD, sE, sB, sC, sN, sM, sT, sF] at hq; try (exfalso; omega)) | skip)) | fail) | (refine bQ ?_; first | refine bH ?_ | refine bN ?_ | refine aL ?_ | refine aX ?_ | refine bO ?_ | refine bF ?_ | refine bE ?_ | refine aA (b := true) rfl (fun _ => ?_) nTf | refine aA (b := false) rfl nFt (fun _ => ?_) | refine aY ?_ | refine aW ?_ | refine aU mixed (by kernel_rfl) ?_ | refine aC mixed (by kernel_rfl) ?_ | (refine aA rfl (fun hq => ?_) (fun hq => ?_) <;> first | subst hq | (first | (simp only [sD, sE, sB, sC, sN, sM, sT, sF] at hq; try (exfalso; omega)) | skip)) | fail) | (refine bK ?_; first | refine bT ?_ | refine aI ?_ | refine aM ?_ | fail) | (refine bA ?_; first | refine bP ?_ | refine aF ?_ | refine aG (by decide) ?_ | refine aJ ?_ | fail) | refine bL (aV (by kernel_rfl)) ?_ | fail)
  refine dQ (dW (h0 := 3) (k0 := 0) 500 50 5 rfl rfl (by simp) rfl rfl) ?_
  refine cJ (ι := {i : Nat // i ≤ l.length ∧ i ≤ 60}) (fun i => S.f ⟨[(4, .imm (.lit (.int .i64 (i.1 : Int)))), (3, .obj 3 0), (1, .imm (.ptr [.sl false l.length (cellIVs l)] 0))], [(500, .arr 50 5 i.1 (cellIVs ((l.take i.1).map fewCell))), (3, .cells [.ref 500 i.1])]⟩) (fun i => l.length - i.1) ⟨0, Nat.zero_le _, Nat.zero_le _⟩ (cB (by repeat' first | exact trivial | refine ⟨rfl, ?_⟩) (by repeat' first | exact trivial | refine ⟨rfl, ?_⟩)) ?_
  rintro ⟨i, hi, hiK⟩
  dsimp only
  by_cases hgo : i < l.length ∧ i < 60
  · obtain ⟨hil, hik⟩ := hgo
    have hrow := eJ l i hil
    have hcf := hff l[i] (List.getElem_mem hil)
    have hnx : cellIVs ((l.take (i + 1)).map fewCell) = cellIVs ((l.take i).map fewCell) ++ cellIV (fewCell l[i]) := by
      rw [List.take_succ_eq_append_getElem hil, List.map_append, List.map_singleton, jB]
    generalize l[i] = c at *
    change _ = [IV.lit (.int .i64 c.k), .lit (.int .i64 c.n), .lit (.string c.a), .lit (.string c.b), .sl c.f c.kids.length (intIVs c.kids)] at hrow
    rw [hcf] at hrow
    have hkc := pD c.kids
    by_cases hz : c.kids.length = 0
    · have hk0 : c.kids = [] := List.eq_nil_of_length_eq_zero hz
      have hfc : cellIV (fewCell c) = [IV.lit (.int .i64 c.k), .lit (.int .i64 c.n), .lit (.string (cutB 165 c.a)), .lit (.string (cutB 20 c.b)), .sl true 0 []] := by
        unfold fewCell cellIV
        rw [hk0]
        rfl
      rw [hk0] at hrow hkc
      rw [hfc] at hnx
      repeat' (first | refine bG ?_ | (refine bJ ?_; first | refine aR tabOk rfl rfl rfl (nb rfl) rfl ?_ | refine aZ rfl rfl (nb rfl) ?_ | (refine bI rfl rfl rfl (nb rfl) rfl rfl rfl (fun hq => ?_) (fun hq => ?_) <;> (first | (simp only [sD, sE, sB, sC, sN, sM, sT, sF] at hq; try (exfalso; omega)) | skip))| refine dZ tabOk rfl rfl rfl (nb rfl) rfl rfl rfl hrow rfl ?_ | refine dG rfl rfl rfl (nb rfl) rfl rfl (dR c.a.size 165) ?_ | refine dG rfl rfl rfl (nb rfl) rfl rfl (dR c.b.size 20) ?_ | refine dG (r := 0) rfl rfl rfl (nb rfl) rfl rfl rfl ?_ | refine dL (l := 0) (h := min c.a.size 165) (r := cutB 165 c.a) tabOk rfl rfl rfl (nb rfl) rfl rfl rfl rfl (by omega) (by omega) rfl ?_ | refine dL (l := 0) (h := min c.b.size 20) (r := cutB 20 c.b) tabOk rfl rfl rfl (nb rfl) rfl rfl rfl rfl (by omega) (by omega) rfl ?_ | refine dK (l := 0) (h := 0) tabOk rfl rfl rfl (nb rfl) rfl rfl rfl rfl rfl (Nat.le_refl _) (Nat.zero_le _) rfl ?_ | refine iT tabOk rfl rfl rfl (nb rfl) rfl rfl rfl rfl ?_ | refine cR tabOk rfl rfl rfl (nb rfl) rfl rfl rfl rfl rfl rfl rfl (by first | omega | decide) rfl (by first | omega | (dsimp only; omega)) (by first | omega | (dsimp only; omega)) ?_ | refine aD rfl rfl rfl (nb rfl) rfl rfl (by omega) ?_ | refine bC rfl rfl rfl (nb rfl) rfl rfl rfl (by omega) (by omega) ?_ | refine bD rfl rfl rfl (nb rfl) rfl rfl rfl (by omega) (by omega) ?_ | refine bB tabOk rfl rfl rfl (nb rfl) rfl rfl rfl rfl rfl rfl rfl rfl rfl ?_ | refine aT tabOk rfl rfl (nb rfl) rfl ?_ | refine aN tabOk rfl rfl rfl (nb rfl) rfl rfl rfl rfl rfl rfl ?_ | refine aO tabOk rfl rfl rfl (nb rfl) rfl rfl rfl rfl ?_ | refine aK tabOk rfl rfl rfl rfl rfl rfl rfl rfl rfl rfl rfl ?_ | refine aP tabOk rfl rfl rfl (nb rfl) rfl rfl rfl rfl (by first | assumption | omega) ?_ | refine aH tabOk rfl rfl rfl (nb rfl) rfl rfl rfl rfl (by first | rfl | omega) (by first | omega | simp) ?_ | refine aB tabOk rfl rfl rfl (nb rfl) rfl rfl rfl (by assumption) ?_ | refine aB tabOk rfl rfl rfl (nb rfl) rfl rfl rfl (bM _ _ (by first | assumption | omega)) ?_ | refine aD rfl rfl rfl (nb rfl) rfl rfl (by omega) ?_ | ((fail_if_success (refine aE (b := true) rfl rfl rfl ?_)); (fail_if_success (refine aE (b := false) rfl rfl rfl ?_)); refine aQ rfl rfl rfl (fun hq => ?_) (fun hq => ?_) <;> first | subst hq | (first | (simp only [sD, sE, sB, sC, sN, sM, sT, sF] at hq; try (exfalso; omega)) | skip)) | fail) | (refine bQ ?_; first | refine bH ?_ | refine bN ?_ | refine aL ?_ | refine aX ?_ | refine bO ?_ | refine bF ?_ | refine bE ?_ | refine aA (b := true) rfl (fun _ => ?_) nTf | refine aA (b := false) rfl nFt (fun _ => ?_) | refine aY ?_ | refine aW ?_ | refine aU mixed (by kernel_rfl) ?_ | refine aC mixed (by kernel_rfl) ?_ | (refine aA rfl (fun hq => ?_) (fun hq => ?_) <;> first | subst hq | (first | (simp only [sD, sE, sB, sC, sN, sM, sT, sF] at hq; try (exfalso; omega)) | skip)) | fail) | (refine bK ?_; first | refine bT ?_ | refine aI ?_ | refine aM ?_ | fail) | (refine bA ?_; first | refine bP ?_ | refine aF ?_ | refine aG (by decide) ?_ | refine aJ ?_ | fail) | refine bL (aV (by kernel_rfl)) ?_ | fail)
      refine ⟨⟨i + 1, hil, hik⟩, (by show l.length - (i + 1) < l.length - i; omega), ?_⟩
      dsimp only
      rw [hnx]
      exact (cB (by repeat' first | exact trivial | refine ⟨rfl, ?_⟩) (by repeat' first | exact trivial | refine ⟨rfl, ?_⟩))
    · have hfc : cellIV (fewCell c) = [IV.lit (.int .i64 c.k), .lit (.int .i64 c.n), .lit (.string (cutB 165 c.a)), .lit (.string (cutB 20 c.b)), .sl false (0 + (c.kids.take 12).length) (intIVs (c.kids.take 12))] := by
        unfold fewCell cellIV
        dsimp only
        rw [decide_eq_false hz, Nat.zero_add]
      have hkl : 0 < (c.kids.take 12).length := by rw [List.length_take]; omega
      have hkl2 : (c.kids.take 12).length ≤ 12 := by rw [List.length_take]; omega
      have hil2 := lX (c.kids.take 12)
      rw [hfc] at hnx
      repeat' (first | refine bG ?_ | (refine bJ ?_; first | refine aR tabOk rfl rfl rfl (nb rfl) rfl ?_ | refine aZ rfl rfl (nb rfl) ?_ | (refine bI rfl rfl rfl (nb rfl) rfl rfl rfl (fun hq => ?_) (fun hq => ?_) <;> (first | (simp only [sD, sE, sB, sC, sN, sM, sT, sF] at hq; try (exfalso; omega)) | skip))| refine dZ tabOk rfl rfl rfl (nb rfl) rfl rfl rfl hrow rfl ?_ | refine dG rfl rfl rfl (nb rfl) rfl rfl (dR c.a.size 165) ?_ | refine dG rfl rfl rfl (nb rfl) rfl rfl (dR c.b.size 20) ?_ | refine dL (l := 0) (h := min c.a.size 165) (r := cutB 165 c.a) tabOk rfl rfl rfl (nb rfl) rfl rfl rfl rfl (by omega) (by omega) rfl ?_ | refine dL (l := 0) (h := min c.b.size 20) (r := cutB 20 c.b) tabOk rfl rfl rfl (nb rfl) rfl rfl rfl rfl (by omega) (by omega) rfl ?_ | refine dG rfl rfl rfl (nb rfl) rfl rfl (dR c.kids.length 12) ?_ | refine dK (l := 0) (h := min c.kids.length 12) tabOk rfl rfl rfl (nb rfl) rfl rfl rfl rfl rfl (Nat.zero_le _) (by omega) hkc ?_ | refine dS (zs := intIVs (c.kids.take 12)) tabOk rfl rfl rfl (nb rfl) rfl rfl rfl rfl (.inl rfl) rfl rfl hkl (by rw [hil2]; exact (Nat.mul_one _).symm) (by omega) (by dsimp only; omega) rfl ?_ | refine cR tabOk rfl rfl rfl (nb rfl) rfl rfl rfl rfl rfl rfl rfl (by first | omega | decide) rfl (by first | omega | (dsimp only; omega)) (by first | omega | (dsimp only; omega)) ?_ | refine aD rfl rfl rfl (nb rfl) rfl rfl (by omega) ?_ | refine bC rfl rfl rfl (nb rfl) rfl rfl rfl (by omega) (by omega) ?_ | refine bD rfl rfl rfl (nb rfl) rfl rfl rfl (by omega) (by omega) ?_ | refine bB tabOk rfl rfl rfl (nb rfl) rfl rfl rfl rfl rfl rfl rfl rfl rfl ?_ | refine aT tabOk rfl rfl (nb rfl) rfl ?_ | refine aN tabOk rfl rfl rfl (nb rfl) rfl rfl rfl rfl rfl rfl ?_ | refine aO tabOk rfl rfl rfl (nb rfl) rfl rfl rfl rfl ?_ | refine aK tabOk rfl rfl rfl rfl rfl rfl rfl rfl rfl rfl rfl ?_ | refine aP tabOk rfl rfl rfl (nb rfl) rfl rfl rfl rfl (by first | assumption | omega) ?_ | refine aH tabOk rfl rfl rfl (nb rfl) rfl rfl rfl rfl (by first | rfl | omega) (by first | omega | simp) ?_ | refine aB tabOk rfl rfl rfl (nb rfl) rfl rfl rfl (by assumption) ?_ | refine aB tabOk rfl rfl rfl (nb rfl) rfl rfl rfl (bM _ _ (by first | assumption | omega)) ?_ | refine aD rfl rfl rfl (nb rfl) rfl rfl (by omega) ?_ | ((fail_if_success (refine aE (b := true) rfl rfl rfl ?_)); (fail_if_success (refine aE (b := false) rfl rfl rfl ?_)); refine aQ rfl rfl rfl (fun hq => ?_) (fun hq => ?_) <;> first | subst hq | (first | (simp only [sD, sE, sB, sC, sN, sM, sT, sF] at hq; try (exfalso; omega)) | skip)) | fail) | (refine bQ ?_; first | refine bH ?_ | refine bN ?_ | refine aL ?_ | refine aX ?_ | refine bO ?_ | refine bF ?_ | refine bE ?_ | refine aA (b := true) rfl (fun _ => ?_) nTf | refine aA (b := false) rfl nFt (fun _ => ?_) | refine aY ?_ | refine aW ?_ | refine aU mixed (by kernel_rfl) ?_ | refine aC mixed (by kernel_rfl) ?_ | (refine aA rfl (fun hq => ?_) (fun hq => ?_) <;> first | subst hq | (first | (simp only [sD, sE, sB, sC, sN, sM, sT, sF] at hq; try (exfalso; omega)) | skip)) | fail) | (refine bK ?_; first | refine bT ?_ | refine aI ?_ | refine aM ?_ | fail) | (refine bA ?_; first | refine bP ?_ | refine aF ?_ | refine aG (by decide) ?_ | refine aJ ?_ | fail) | refine bL (aV (by kernel_rfl)) ?_ | fail)
      refine ⟨⟨i + 1, hil, hik⟩, (by show l.length - (i + 1) < l.length - i; omega), ?_⟩
      dsimp only
      rw [hnx]
      exact (cB (by repeat' first | exact trivial | refine ⟨rfl, ?_⟩) (by repeat' first | exact trivial | refine ⟨rfl, ?_⟩))
  · have htk : (l.take i).map fewCell = fewCells10 l := by
      unfold fewCells10
      congr 1
      by_cases hK : i = 60
      · rw [hK]
      · rw [List.take_of_length_le (by omega), List.take_of_length_le (by omega)]
    have hfl : i = (fewCells10 l).length := by rw [← htk, List.length_map, List.length_take]; omega
    rw [htk]
    refine dQ ((Imp.of_le (σ' := S.f ⟨[(4, .imm (.lit (.int .i64 (i : Int)))), (3, .obj 3 0), (1, .imm (.ptr [.sl false l.length (cellIVs l)] 0))], [(500, .arr 50 5 (fewCells10 l).length (cellIVs (fewCells10 l))), (3, .cells [.ref 500 (fewCells10 l).length])]⟩) (by rw [← hfl]; exact (cB (by repeat' first | exact trivial | refine ⟨rfl, ?_⟩) (by repeat' first | exact trivial | refine ⟨rfl, ?_⟩)))).trans (cZ (g := 500) rfl (by repeat' first | exact trivial | exact fun _ => rfl | refine ⟨?_, ?_⟩) (by repeat' first | exact trivial | exact fun _ => rfl | refine ⟨?_, ?_⟩))) ?_
    generalize fewCells10 l = L at *
    generalize openR L = R at *
    obtain ⟨R1, R2⟩ := R
    dsimp only at *
    repeat' (first | refine bG ?_ | (refine bJ ?_; first | refine aR tabOk rfl rfl rfl (nb rfl) rfl ?_ | refine aZ rfl rfl (nb rfl) ?_ | (refine bI rfl rfl rfl (nb rfl) rfl rfl rfl (fun hq => ?_) (fun hq => ?_) <;> (first | (simp only [sD, sE, sB, sC, sN, sM, sT, sF] at hq; try (exfalso; omega)) | skip))| refine bS rfl rfl (nb rfl) rfl rfl rfl rfl (hopen) ?_ | refine aD rfl rfl rfl (nb rfl) rfl rfl (by omega) ?_ | refine bC rfl rfl rfl (nb rfl) rfl rfl rfl (by omega) (by omega) ?_ | refine bD rfl rfl rfl (nb rfl) rfl rfl rfl (by omega) (by omega) ?_ | refine bB tabOk rfl rfl rfl (nb rfl) rfl rfl rfl rfl rfl rfl rfl rfl rfl ?_ | refine aT tabOk rfl rfl (nb rfl) rfl ?_ | refine aN tabOk rfl rfl rfl (nb rfl) rfl rfl rfl rfl rfl rfl ?_ | refine aO tabOk rfl rfl rfl (nb rfl) rfl rfl rfl rfl ?_ | refine aK tabOk rfl rfl rfl rfl rfl rfl rfl rfl rfl rfl rfl ?_ | refine aP tabOk rfl rfl rfl (nb rfl) rfl rfl rfl rfl (by first | assumption | omega) ?_ | refine aH tabOk rfl rfl rfl (nb rfl) rfl rfl rfl rfl (by first | rfl | omega) (by first | omega | simp) ?_ | refine aB tabOk rfl rfl rfl (nb rfl) rfl rfl rfl (by assumption) ?_ | refine aB tabOk rfl rfl rfl (nb rfl) rfl rfl rfl (bM _ _ (by first | assumption | omega)) ?_ | refine aD rfl rfl rfl (nb rfl) rfl rfl (by omega) ?_ | ((fail_if_success (refine aE (b := true) rfl rfl rfl ?_)); (fail_if_success (refine aE (b := false) rfl rfl rfl ?_)); refine aQ rfl rfl rfl (fun hq => ?_) (fun hq => ?_) <;> first | subst hq | (first | (simp only [sD, sE, sB, sC, sN, sM, sT, sF] at hq; try (exfalso; omega)) | skip)) | fail) | (refine bQ ?_; first | refine bH ?_ | refine bN ?_ | refine aL ?_ | refine aX ?_ | refine bO ?_ | refine bF ?_ | refine bE ?_ | refine aA (b := true) rfl (fun _ => ?_) nTf | refine aA (b := false) rfl nFt (fun _ => ?_) | refine aY ?_ | refine aW ?_ | refine aU mixed (by kernel_rfl) ?_ | refine aC mixed (by kernel_rfl) ?_ | (refine aA rfl (fun hq => ?_) (fun hq => ?_) <;> first | subst hq | (first | (simp only [sD, sE, sB, sC, sN, sM, sT, sF] at hq; try (exfalso; omega)) | skip)) | fail) | (refine bK ?_; first | refine bT ?_ | refine aI ?_ | refine aM ?_ | fail) | (refine bA ?_; first | refine bP ?_ | refine aF ?_ | refine aG (by decide) ?_ | refine aJ ?_ | fail) | refine bL (aV (by kernel_rfl)) ?_ | fail)
    all_goals first
      | exact bZ (by first | exact .inl rfl | exact .inr rfl) (bU rfl (aS rfl)) rfl
      | (exfalso; omega)
end Go.Proofs.Ytlbemgokilhdnaa.Ab
namespace Go.Proofs.Ytlbemgokilhdnaa.Ab
set_option linter.unusedVariables false
set_option linter.unusedSimpArgs false
open Go.RowKit
theorem lY (l : List CellD) (hb : below l) : ∀ (f f' i : Nat), i < f → i < f' → i < l.length → growT l f i = growT l f' i
  | 0, _, _, h, _, _ => by omega
  | f + 1, 0, _, _, h, _ => by omega
  | f + 1, f' + 1, i, h, h', hi => by
    rw [growT, growT, List.getElem?_eq_getElem hi]
    dsimp only
    congr 1
    refine List.map_congr_left fun x hx => ?_
    have := hb i hi x hx
    exact lY l hb f f' x.toNat (by omega) (by omega) (by omega)
theorem kG (l : List CellD) (hb : below l) : ∀ (f i : Nat), i < f → i < l.length → (growT l f i).whole = true
  | 0, _, h, _ => by omega
  | f + 1, i, h, hi => by
    rw [growT, List.getElem?_eq_getElem hi]
    show Tree.wholes (List.map _ _) = true
    have key : ∀ ks : List Int, (∀ x ∈ ks, 0 ≤ x ∧ x < (i : Int)) → Tree.wholes (ks.map fun x => growT l f x.toNat) = true := by
      intro ks
      induction ks with
      | nil => intro _; rfl
      | cons x ks ih =>
        intro hk
        have hx := hk x List.mem_cons_self
        rw [List.map_cons, Tree.wholes, kG l hb f x.toNat (by omega) (by omega), ih (fun y hy => hk y (List.mem_cons_of_mem _ hy))]
        rfl
    exact key _ (hb i hi)
theorem nB : ∀ ts : List Tree, Tree.sizes ts = (ts.map Tree.size).sum
  | [] => rfl
  | t :: ts => by rw [Tree.sizes, nB ts]; simp
theorem qN (l : List CellD) (hb : below l) (i : Nat) (hi : i < l.length) : (growT l l.length i).size = 1 + (l[i].kids.map fun x => (growT l l.length x.toNat).size).sum := by
  obtain ⟨f, hf⟩ : ∃ f, l.length = f + 1 := ⟨l.length - 1, by omega⟩
  conv => lhs; rw [hf]
  rw [growT, List.getElem?_eq_getElem hi]
  show 1 + Tree.sizes (List.map _ _) = _
  rw [nB, List.map_map]
  congr 2
  refine List.map_congr_left fun x hx => ?_
  have := hb i hi x hx
  show (growT l f x.toNat).size = _
  rw [lY l hb f l.length x.toNat (by omega) (by omega) (by omega)]
theorem rI (l : List CellD) (hb : below l) : ∀ n, n ≤ l.length → ((List.range n).map fun i => (growT l l.length i).size).sum = n + ((allK (l.take n)).map fun x => (growT l l.length x.toNat).size).sum
  | 0, _ => by simp [allK]
  | n + 1, h => by
    rw [List.range_succ, List.map_append, List.sum_append, rI l hb n (by omega), mZ l n (by omega), List.map_append, List.sum_append, List.map_singleton, List.sum_singleton, qN l hb n (by omega)]
    omega
theorem uK (l : List CellD) (x : Int) (h : x ∈ allK l) : ∃ i, ∃ hi : i < l.length, x ∈ l[i].kids := by
  induction l with
  | nil => cases h
  | cons c l ih =>
    rw [allK, List.mem_append] at h
    rcases h with h | h
    · exact ⟨0, by simp, h⟩
    · obtain ⟨i, hi, hx⟩ := ih h
      exact ⟨i + 1, by simpa using hi, by simpa using hx⟩
theorem sX (l : List CellD) (hb : below l) (ho : once l) : List.Perm (allK l) ((List.range (l.length - 1)).map fun (j : Nat) => (j : Int)) := by
  rw [List.perm_iff_count]
  intro a
  by_cases h : 0 ≤ a ∧ a < ((l.length - 1 : Nat) : Int)
  · obtain ⟨j, rfl⟩ : ∃ j : Nat, a = (j : Int) := ⟨a.toNat, by omega⟩
    rw [ho j (by omega)]
    have hn : ((List.range (l.length - 1)).map fun (j : Nat) => (j : Int)).Nodup := by
      rw [List.nodup_iff_pairwise_ne, List.pairwise_map]
      exact List.nodup_range.imp (fun h1 h2 => h1 (by omega))
    rw [hn.count, if_pos]
    exact List.mem_map.2 ⟨j, List.mem_range.2 (by omega), rfl⟩
  · rw [List.count_eq_zero.2, List.count_eq_zero.2]
    · intro hm
      obtain ⟨j, hj, rfl⟩ := List.mem_map.1 hm
      rw [List.mem_range] at hj
      exact h ⟨by omega, by omega⟩
    · intro hm
      obtain ⟨i, hi, hx⟩ := uK l a hm
      have := hb i hi a hx
      exact h ⟨this.1, by omega⟩
theorem sY (l : List CellD) (hb : below l) (ho : once l) (h0 : 0 < l.length) : (growT l l.length (l.length - 1)).size = l.length := by
  have h1 := rI l hb l.length (Nat.le_refl _)
  rw [List.take_length] at h1
  have h2 := ((sX l hb ho).map (fun x => (growT l l.length x.toNat).size)).sum_nat
  rw [h2, List.map_map] at h1
  obtain ⟨n, hn⟩ : ∃ n, l.length = n + 1 := ⟨l.length - 1, by omega⟩
  have e : l.length - 1 = n := by omega
  rw [e] at h1 ⊢
  have h3 : (List.range l.length) = List.range n ++ [n] := by rw [hn, List.range_succ]
  rw [h3, List.map_append, List.sum_append, List.map_singleton, List.sum_singleton] at h1
  have h4 : ((fun x : Int => (growT l l.length x.toNat).size) ∘ fun (j : Nat) => (j : Int)) = fun i => (growT l l.length i).size := rfl
  rw [h4] at h1
  omega
theorem pG (l : List CellD) (A B : Nat) (hb : below l) (hc : ∀ c ∈ l, c.a.size ≤ A ∧ c.b.size ≤ B) : ∀ (f i : Nat), i < f → i < l.length → (growT l f i).wt ≤ (1 + A + B) * (growT l f i).size
  | 0, _, h, _ => by omega
  | f + 1, i, h, hi => by
    rw [growT, List.getElem?_eq_getElem hi]
    dsimp only
    have h1 := hc l[i] (List.getElem_mem hi)
    have key : ∀ ks : List Int, (∀ x ∈ ks, 0 ≤ x ∧ x < (i : Int)) → Tree.wts (ks.map fun x => growT l f x.toNat) ≤ (1 + A + B) * Tree.sizes (ks.map fun x => growT l f x.toNat) := by
      intro ks
      induction ks with
      | nil => intro _; exact Nat.zero_le _
      | cons x ks ih =>
        intro hk
        have hx := hk x List.mem_cons_self
        have h2 := pG l A B hb hc f x.toNat (by omega) (by omega)
        have h3 := ih (fun y hy => hk y (List.mem_cons_of_mem _ hy))
        rw [List.map_cons, Tree.wts, Tree.sizes, Nat.mul_add]
        omega
    have h4 := key _ (hb i hi)
    rw [Tree.wt, Tree.size, Nat.mul_add]
    omega
theorem lZ (L : List CellD) (A B : Nat) (hc : ∀ c ∈ L, c.a.size ≤ A ∧ c.b.size ≤ B) : (openR L).1 = .nil ∨ ((openR L).1.whole = true ∧ (openR L).1.size ≤ L.length ∧ (openR L).1.wt ≤ (1 + A + B) * L.length) := by
  unfold openR
  split
  · exact .inl rfl
  · split
    · exact .inl rfl
    · split
      · rename_i h0 h1 h
        obtain ⟨hb, ho⟩ := h
        have hs := sY L hb ho (by omega)
        have hw := pG L A B hb hc L.length (L.length - 1) (by omega) (by omega)
        rw [hs] at hw
        exact .inr ⟨kG L hb _ _ (by omega) (by omega), by rw [hs]; exact Nat.le_refl _, hw⟩
      · exact .inl rfl
theorem pH (K : Nat) (l : List CellD) : ∀ c ∈ (l.take K).map fewCell, c.a.size ≤ 165 ∧ c.b.size ≤ 20 := fun c hc => by
  obtain ⟨d, _, rfl⟩ := List.mem_map.1 hc
  exact ⟨nA _ _, nA _ _⟩
theorem qO (l : List CellD) (hff : ∀ c ∈ l, c.f = false) : ∃ t : Tree, (t = .nil ∨ (t.whole = true ∧ t.size ≤ 80 ∧ t.wt ≤ 14880)) ∧ ACalls Try.prog 9 [.imm (.agg [.sl false l.length (cellIVs l)])] [] (.imm t.iv) [] := by
  refine ⟨_, ?_, pE l hff⟩
  rcases lZ (fewCells13 l) 165 20 (pH 80 l) with h | ⟨h1, h2, h3⟩
  · exact .inl h
  · have hl : (fewCells13 l).length ≤ 80 := by unfold fewCells13; rw [List.length_map, List.length_take]; omega
    exact .inr ⟨h1, by omega, by omega⟩
theorem qP (l : List CellD) (hff : ∀ c ∈ l, c.f = false) : ∃ t : Tree, (t = .nil ∨ (t.whole = true ∧ t.size ≤ 60 ∧ t.wt ≤ 11160)) ∧ ACalls Try.prog 15 [.imm (.agg [.sl false l.length (cellIVs l)])] [] (.imm t.iv) [] := by
  refine ⟨_, ?_, pF l hff⟩
  rcases lZ (fewCells10 l) 165 20 (pH 60 l) with h | ⟨h1, h2, h3⟩
  · exact .inl h
  · have hl : (fewCells10 l).length ≤ 60 := by unfold fewCells10; rw [List.length_map, List.length_take]; omega
    exact .inr ⟨h1, by omega, by omega⟩
abbrev tyCell : Ty := .struct [.int .i64, .int .i64, .string, .string, .slice (.int .i64)]
abbrev tyTree : Ty := .struct [.slice tyCell]
theorem nC : ∀ (xs : List (List IV)), (∀ x ∈ xs, Fits (.int .i64) x) → ∃ l : List Int, l.length = xs.length ∧ xs.flatten = intIVs l
  | [], h => ⟨[], rfl, rfl⟩
  | x :: xs, h => by
    obtain ⟨l, h1, h2⟩ := nC xs (fun y hy => h y (List.mem_cons_of_mem _ hy))
    cases h x List.mem_cons_self with
    | int k n hn => exact ⟨n :: l, by simp [h1], by rw [List.flatten_cons, h2]; rfl⟩
theorem sZ {x : List IV} (h : Fits tyCell x) : ∃ c : CellD, c.f = false ∧ x = cellIV c := by
  cases h with
  | struct fs xs h =>
    cases h with
    | cons t ts x xs h1 h =>
      cases h1 with
      | int k n hn =>
        cases h with
        | cons t ts x xs h2 h =>
          cases h2 with
          | int k n2 hn2 =>
            cases h with
            | cons t ts x xs h3 h =>
              cases h3 with
              | string a ha =>
                cases h with
                | cons t ts x xs h4 h =>
                  cases h4 with
                  | string b hb =>
                    cases h with
                    | cons t ts x xs h5 h =>
                      cases h
                      cases h5 with
                      | slice e ys hy hys =>
                        obtain ⟨l, hl1, hl2⟩ := nC ys hys
                        refine ⟨⟨false, n, n2, a, b, l⟩, rfl, ?_⟩
                        rw [hl2, ← hl1]
                        rfl
theorem mA : ∀ (xs : List (List IV)), (∀ x ∈ xs, Fits tyCell x) → ∃ l : List CellD, l.length = xs.length ∧ xs.flatten = cellIVs l ∧ ∀ c ∈ l, c.f = false
  | [], h => ⟨[], rfl, rfl, fun c hc => by cases hc⟩
  | x :: xs, h => by
    obtain ⟨l, h1, h2, h3⟩ := mA xs (fun y hy => h y (List.mem_cons_of_mem _ hy))
    obtain ⟨c, hc, rfl⟩ := sZ (h x List.mem_cons_self)
    refine ⟨c :: l, by simp [h1], by rw [List.flatten_cons, h2]; rfl, fun d hd => ?_⟩
    rcases List.mem_cons.1 hd with rfl | hd
    · exact hc
    · exact h3 d hd
theorem nD {x : IV} (h : FitsV tyTree x) : ∃ l : List CellD, x = .agg [.sl false l.length (cellIVs l)] ∧ ∀ c ∈ l, c.f = false := by
  obtain ⟨xs, rfl, h⟩ := h
  cases h with
  | struct fs xs h =>
    cases h with
    | cons t ts x xs h1 h =>
      cases h
      cases h1 with
      | slice e ys hy hys =>
        obtain ⟨l, h1, h2, h3⟩ := mA ys hys
        exact ⟨l, by rw [h2, ← h1]; rfl, h3⟩
end Go.Proofs.Ytlbemgokilhdnaa.Ab
namespace Go.Proofs.Ytlbemgokilhdnaa.Ab
set_option linter.unusedVariables false
set_option linter.unusedSimpArgs false
theorem vT (l : List CellD) (hff : ∀ c ∈ l, c.f = false) : ∃ t : Tree, t.size ≤ 60 ∧ t.wt ≤ 11160 ∧ (t = .nil ∨ t.whole = true) ∧ ACalls Try.prog 15 [.imm (.agg [.sl false l.length (cellIVs l)])] [] (.imm t.iv) [] := by
  obtain ⟨t, h, c⟩ := qP l hff
  rcases h with rfl | ⟨h1, h2, h3⟩
  · exact ⟨_, by simp [Tree.size], by simp [Tree.wt], .inl rfl, c⟩
  · exact ⟨t, h2, h3, .inr h1, c⟩
theorem vU (l : List CellD) (hff : ∀ c ∈ l, c.f = false) : ∃ t : Tree, t.size ≤ 80 ∧ t.wt ≤ 14880 ∧ (t = .nil ∨ t.whole = true) ∧ ACalls Try.prog 9 [.imm (.agg [.sl false l.length (cellIVs l)])] [] (.imm t.iv) [] := by
  obtain ⟨t, h, c⟩ := qO l hff
  rcases h with rfl | ⟨h1, h2, h3⟩
  · exact ⟨_, by simp [Tree.size], by simp [Tree.wt], .inl rfl, c⟩
  · exact ⟨t, h2, h3, .inr h1, c⟩
end Go.Proofs.Ytlbemgokilhdnaa.Ab
namespace Go.Proofs.Ytlbemgokilhdnaa.Ab
set_option linter.unusedVariables false
set_option linter.unusedSimpArgs false
open Go.RowKit
attribute [local irreducible] AWP AOps AExit AThen ABlock ANoGoto FeetOk
set_option maxHeartbeats 8000000 in
set_option maxRecDepth 10000 in
/-- Match, of what has a witness that can be filled in. -/
theorem qQ (sig ex : Tree) (hss : sig.size ≤ 400000) (hse : ex.size ≤ 400000) (h1 : (witnessP sig ex).2 = 0) (hl : (witnessP sig ex).1.length ≤ 100000) (hcs : ∀ c ∈ (witnessP sig ex).1, c.size ≤ 1000000)
    (hok : fillOk (witnessP sig ex).1.length (witnessP sig ex).1 0 (kid0 ex) = true) (h2 : (fillP ex (witnessP sig ex).1).2 = 0) (hz : (fillP ex (witnessP sig ex).1).1.size ≤ 1000000) (h3 : mSubP sig (fillP ex (witnessP sig ex).1).1 = 0) :
    ACalls Try.prog 42 [.imm sig.iv, .imm ex.iv] [] (.imm (.tup [.sl false (witnessP sig ex).1.length (Tree.ivs (witnessP sig ex).1), (fillP ex (witnessP sig ex).1).1.iv, .lit (.int .i64 0)])) [] := by
  have c1 := sS sig ex hss hse
  have c2 := wC ex (witnessP sig ex).1 (by omega) hl hcs hok
  have c3 := uE sig (fillP ex (witnessP sig ex).1).1 (by omega) hz
  rw [h1] at c1
  rw [h2] at c2
  rw [h3] at c3
  generalize fillP ex (witnessP sig ex).1 = FF at *
  generalize witnessP sig ex = W at *
  obtain ⟨W1, W2⟩ := W
  obtain ⟨F1, F2⟩ := FF
  dsimp only at *
  refine bR Try.func42 rfl rfl (nb rfl) rfl ?_
  repeat' (first | refine bG ?_ | (refine bJ ?_; first | refine aR tabOk rfl rfl rfl (nb rfl) rfl ?_ | refine aZ rfl rfl (nb rfl) ?_ | (refine bI rfl rfl rfl (nb rfl) rfl rfl rfl (fun hq => ?_) (fun hq => ?_) <;> (first | (simp only [sD, sE, sB, sC, sN, sM, sT, sF] at hq; try (exfalso; omega)) | skip))| refine bS rfl rfl (nb rfl) rfl rfl rfl rfl (c1) ?_ | refine bS rfl rfl (nb rfl) rfl rfl rfl rfl (c2) ?_ | refine bS rfl rfl (nb rfl) rfl rfl rfl rfl (c3) ?_ | refine aD rfl rfl rfl (nb rfl) rfl rfl (by omega) ?_ | refine bC rfl rfl rfl (nb rfl) rfl rfl rfl (by omega) (by omega) ?_ | refine bD rfl rfl rfl (nb rfl) rfl rfl rfl (by omega) (by omega) ?_ | refine bB tabOk rfl rfl rfl (nb rfl) rfl rfl rfl rfl rfl rfl rfl rfl rfl ?_ | refine aT tabOk rfl rfl (nb rfl) rfl ?_ | refine aN tabOk rfl rfl rfl (nb rfl) rfl rfl rfl rfl rfl rfl ?_ | refine aO tabOk rfl rfl rfl (nb rfl) rfl rfl rfl rfl ?_ | refine aK tabOk rfl rfl rfl rfl rfl rfl rfl rfl rfl rfl rfl ?_ | refine aP tabOk rfl rfl rfl (nb rfl) rfl rfl rfl rfl (by first | assumption | omega) ?_ | refine aH tabOk rfl rfl rfl (nb rfl) rfl rfl rfl rfl (by first | rfl | omega) (by first | omega | simp) ?_ | refine aB tabOk rfl rfl rfl (nb rfl) rfl rfl rfl (by assumption) ?_ | refine aB tabOk rfl rfl rfl (nb rfl) rfl rfl rfl (bM _ _ (by first | assumption | omega)) ?_ | refine aD rfl rfl rfl (nb rfl) rfl rfl (by omega) ?_ | ((fail_if_success (refine aE (b := true) rfl rfl rfl ?_)); (fail_if_success (refine aE (b := false) rfl rfl rfl ?_)); refine aQ rfl rfl rfl (fun hq => ?_) (fun hq => ?_) <;> first | subst hq | (first | (simp only [sD, sE, sB, sC, sN, sM, sT, sF] at hq; try (exfalso; omega)) | skip)) | fail) | (refine bQ ?_; first | refine bH ?_ | refine bN ?_ | refine aL ?_ | refine aX ?_ | refine bO ?_ | refine bF ?_ | refine bE ?_ | refine aA (b := true) rfl (fun _ => ?_) nTf | refine aA (b := false) rfl nFt (fun _ => ?_) | refine aY ?_ | refine aW ?_ | refine aU mixed (by kernel_rfl) ?_ | refine aC mixed (by kernel_rfl) ?_ | (refine aA rfl (fun hq => ?_) (fun hq => ?_) <;> first | subst hq | (first | (simp only [sD, sE, sB, sC, sN, sM, sT, sF] at hq; try (exfalso; omega)) | skip)) | fail) | (refine bK ?_; first | refine bT ?_ | refine aI ?_ | refine aM ?_ | fail) | (refine bA ?_; first | refine bP ?_ | refine aF ?_ | refine aG (by decide) ?_ | refine aJ ?_ | fail) | refine bL (aV (by kernel_rfl)) ?_ | fail)
  all_goals first
    | exact absurd rfl (by assumption)
    | (refine bV (by first | exact .inl rfl | exact .inr rfl) (rN rfl (aS rfl) (aS rfl) (aS rfl)) rfl ?_; rfl)
theorem qR : ∀ (l l' : List Tree), l.length ≠ l'.length → samePs l l' = false := fun l l' h => by rw [gA]; exact lP _ _ _ h
set_option maxHeartbeats 8000000 in
set_option maxRecDepth 10000 in
theorem rJ (t : Tree) : ∀ u : Tree, (t = .nil ∨ t.whole = true) → (u = .nil ∨ u.whole = true) → t.size ≤ 1000000 → u.size ≤ 1000000 → ACalls Try.prog 25 [.imm t.iv, .imm u.iv] [] (.imm (.lit (.bool (sameP t u)))) [] := by
  induction t using Tree.ind with
  | h1 =>
    intro u _ _ _ _
    cases u with
    | nil =>
      rw [show sameP .nil .nil = true by simp [sameP]]
      refine bR Try.func25 rfl rfl (nb rfl) rfl ?_
      repeat' (first | refine bG ?_ | (refine bJ ?_; first | refine aR tabOk rfl rfl rfl (nb rfl) rfl ?_ | refine aZ rfl rfl (nb rfl) ?_ | (refine bI rfl rfl rfl (nb rfl) rfl rfl rfl (fun hq => ?_) (fun hq => ?_) <;> (first | (simp only [sD, sE, sB, sC, sN, sM, sT, sF] at hq; try (exfalso; omega)) | skip)) | refine aD rfl rfl rfl (nb rfl) rfl rfl (by omega) ?_ | refine bC rfl rfl rfl (nb rfl) rfl rfl rfl (by omega) (by omega) ?_ | refine bD rfl rfl rfl (nb rfl) rfl rfl rfl (by omega) (by omega) ?_ | refine bB tabOk rfl rfl rfl (nb rfl) rfl rfl rfl rfl rfl rfl rfl rfl rfl ?_ | refine aT tabOk rfl rfl (nb rfl) rfl ?_ | refine aN tabOk rfl rfl rfl (nb rfl) rfl rfl rfl rfl rfl rfl ?_ | refine aO tabOk rfl rfl rfl (nb rfl) rfl rfl rfl rfl ?_ | refine aK tabOk rfl rfl rfl rfl rfl rfl rfl rfl rfl rfl rfl ?_ | refine aP tabOk rfl rfl rfl (nb rfl) rfl rfl rfl rfl (by first | assumption | omega) ?_ | refine aH tabOk rfl rfl rfl (nb rfl) rfl rfl rfl rfl (by first | rfl | omega) (by first | omega | simp) ?_ | refine aB tabOk rfl rfl rfl (nb rfl) rfl rfl rfl (by assumption) ?_ | refine aB tabOk rfl rfl rfl (nb rfl) rfl rfl rfl (bM _ _ (by first | assumption | omega)) ?_ | refine aD rfl rfl rfl (nb rfl) rfl rfl (by omega) ?_ | ((fail_if_success (refine aE (b := true) rfl rfl rfl ?_)); (fail_if_success (refine aE (b := false) rfl rfl rfl ?_)); refine aQ rfl rfl rfl (fun hq => ?_) (fun hq => ?_) <;> first | subst hq | (first | (simp only [sD, sE, sB, sC, sN, sM, sT, sF] at hq; try (exfalso; omega)) | skip)) | fail) | (refine bQ ?_; first | refine bH ?_ | refine bN ?_ | refine aL ?_ | refine aX ?_ | refine bO ?_ | refine bF ?_ | refine bE ?_ | refine aA (b := true) rfl (fun _ => ?_) nTf | refine aA (b := false) rfl nFt (fun _ => ?_) | refine aY ?_ | refine aW ?_ | refine aU mixed (by kernel_rfl) ?_ | refine aC mixed (by kernel_rfl) ?_ | (refine aA rfl (fun hq => ?_) (fun hq => ?_) <;> first | subst hq | (first | (simp only [sD, sE, sB, sC, sN, sM, sT, sF] at hq; try (exfalso; omega)) | skip)) | fail) | (refine bK ?_; first | refine bT ?_ | refine aI ?_ | refine aM ?_ | fail) | (refine bA ?_; first | refine bP ?_ | refine aF ?_ | refine aG (by decide) ?_ | refine aJ ?_ | fail) | refine bL (aV (by kernel_rfl)) ?_ | fail)
      all_goals first
        | exact absurd rfl (by assumption)
        | exact bZ (by first | exact .inl rfl | exact .inr rfl) (bU rfl (aS rfl)) rfl
    | node k n a b ks =>
      rw [show sameP .nil (.node k n a b ks) = false by simp [sameP]]
      refine bR Try.func25 rfl rfl (nb rfl) rfl ?_
      repeat' (first | refine bG ?_ | (refine bJ ?_; first | refine aR tabOk rfl rfl rfl (nb rfl) rfl ?_ | refine aZ rfl rfl (nb rfl) ?_ | (refine bI rfl rfl rfl (nb rfl) rfl rfl rfl (fun hq => ?_) (fun hq => ?_) <;> (first | (simp only [sD, sE, sB, sC, sN, sM, sT, sF] at hq; try (exfalso; omega)) | skip)) | refine aD rfl rfl rfl (nb rfl) rfl rfl (by omega) ?_ | refine bC rfl rfl rfl (nb rfl) rfl rfl rfl (by omega) (by omega) ?_ | refine bD rfl rfl rfl (nb rfl) rfl rfl rfl (by omega) (by omega) ?_ | refine bB tabOk rfl rfl rfl (nb rfl) rfl rfl rfl rfl rfl rfl rfl rfl rfl ?_ | refine aT tabOk rfl rfl (nb rfl) rfl ?_ | refine aN tabOk rfl rfl rfl (nb rfl) rfl rfl rfl rfl rfl rfl ?_ | refine aO tabOk rfl rfl rfl (nb rfl) rfl rfl rfl rfl ?_ | refine aK tabOk rfl rfl rfl rfl rfl rfl rfl rfl rfl rfl rfl ?_ | refine aP tabOk rfl rfl rfl (nb rfl) rfl rfl rfl rfl (by first | assumption | omega) ?_ | refine aH tabOk rfl rfl rfl (nb rfl) rfl rfl rfl rfl (by first | rfl | omega) (by first | omega | simp) ?_ | refine aB tabOk rfl rfl rfl (nb rfl) rfl rfl rfl (by assumption) ?_ | refine aB tabOk rfl rfl rfl (nb rfl) rfl rfl rfl (bM _ _ (by first | assumption | omega)) ?_ | refine aD rfl rfl rfl (nb rfl) rfl rfl (by omega) ?_ | ((fail_if_success (refine aE (b := true) rfl rfl rfl ?_)); (fail_if_success (refine aE (b := false) rfl rfl rfl ?_)); refine aQ rfl rfl rfl (fun hq => ?_) (fun hq => ?_) <;> first | subst hq | (first | (simp only [sD, sE, sB, sC, sN, sM, sT, sF] at hq; try (exfalso; omega)) | skip)) | fail) | (refine bQ ?_; first | refine bH ?_ | refine bN ?_ | refine aL ?_ | refine aX ?_ | refine bO ?_ | refine bF ?_ | refine bE ?_ | refine aA (b := true) rfl (fun _ => ?_) nTf | refine aA (b := false) rfl nFt (fun _ => ?_) | refine aY ?_ | refine aW ?_ | refine aU mixed (by kernel_rfl) ?_ | refine aC mixed (by kernel_rfl) ?_ | (refine aA rfl (fun hq => ?_) (fun hq => ?_) <;> first | subst hq | (first | (simp only [sD, sE, sB, sC, sN, sM, sT, sF] at hq; try (exfalso; omega)) | skip)) | fail) | (refine bK ?_; first | refine bT ?_ | refine aI ?_ | refine aM ?_ | fail) | (refine bA ?_; first | refine bP ?_ | refine aF ?_ | refine aG (by decide) ?_ | refine aJ ?_ | fail) | refine bL (aV (by kernel_rfl)) ?_ | fail)
      all_goals first
        | exact absurd rfl (by assumption)
        | exact bZ (by first | exact .inl rfl | exact .inr rfl) (bU rfl (aS rfl)) rfl
  | h2 k n a b ks ih =>
    intro u hw hw2 hs hs2
    cases u with
    | nil =>
      rw [show sameP (.node k n a b ks) .nil = false by simp [sameP]]
      refine bR Try.func25 rfl rfl (nb rfl) rfl ?_
      repeat' (first | refine bG ?_ | (refine bJ ?_; first | refine aR tabOk rfl rfl rfl (nb rfl) rfl ?_ | refine aZ rfl rfl (nb rfl) ?_ | (refine bI rfl rfl rfl (nb rfl) rfl rfl rfl (fun hq => ?_) (fun hq => ?_) <;> (first | (simp only [sD, sE, sB, sC, sN, sM, sT, sF] at hq; try (exfalso; omega)) | skip)) | refine aD rfl rfl rfl (nb rfl) rfl rfl (by omega) ?_ | refine bC rfl rfl rfl (nb rfl) rfl rfl rfl (by omega) (by omega) ?_ | refine bD rfl rfl rfl (nb rfl) rfl rfl rfl (by omega) (by omega) ?_ | refine bB tabOk rfl rfl rfl (nb rfl) rfl rfl rfl rfl rfl rfl rfl rfl rfl ?_ | refine aT tabOk rfl rfl (nb rfl) rfl ?_ | refine aN tabOk rfl rfl rfl (nb rfl) rfl rfl rfl rfl rfl rfl ?_ | refine aO tabOk rfl rfl rfl (nb rfl) rfl rfl rfl rfl ?_ | refine aK tabOk rfl rfl rfl rfl rfl rfl rfl rfl rfl rfl rfl ?_ | refine aP tabOk rfl rfl rfl (nb rfl) rfl rfl rfl rfl (by first | assumption | omega) ?_ | refine aH tabOk rfl rfl rfl (nb rfl) rfl rfl rfl rfl (by first | rfl | omega) (by first | omega | simp) ?_ | refine aB tabOk rfl rfl rfl (nb rfl) rfl rfl rfl (by assumption) ?_ | refine aB tabOk rfl rfl rfl (nb rfl) rfl rfl rfl (bM _ _ (by first | assumption | omega)) ?_ | refine aD rfl rfl rfl (nb rfl) rfl rfl (by omega) ?_ | ((fail_if_success (refine aE (b := true) rfl rfl rfl ?_)); (fail_if_success (refine aE (b := false) rfl rfl rfl ?_)); refine aQ rfl rfl rfl (fun hq => ?_) (fun hq => ?_) <;> first | subst hq | (first | (simp only [sD, sE, sB, sC, sN, sM, sT, sF] at hq; try (exfalso; omega)) | skip)) | fail) | (refine bQ ?_; first | refine bH ?_ | refine bN ?_ | refine aL ?_ | refine aX ?_ | refine bO ?_ | refine bF ?_ | refine bE ?_ | refine aA (b := true) rfl (fun _ => ?_) nTf | refine aA (b := false) rfl nFt (fun _ => ?_) | refine aY ?_ | refine aW ?_ | refine aU mixed (by kernel_rfl) ?_ | refine aC mixed (by kernel_rfl) ?_ | (refine aA rfl (fun hq => ?_) (fun hq => ?_) <;> first | subst hq | (first | (simp only [sD, sE, sB, sC, sN, sM, sT, sF] at hq; try (exfalso; omega)) | skip)) | fail) | (refine bK ?_; first | refine bT ?_ | refine aI ?_ | refine aM ?_ | fail) | (refine bA ?_; first | refine bP ?_ | refine aF ?_ | refine aG (by decide) ?_ | refine aJ ?_ | fail) | refine bL (aV (by kernel_rfl)) ?_ | fail)
      all_goals first
        | exact absurd rfl (by assumption)
        | exact bZ (by first | exact .inl rfl | exact .inr rfl) (bU rfl (aS rfl)) rfl
    | node k' n' a' b' ks' =>
      have hw : (Tree.node k n a b ks).whole = true := by
        rcases hw with h | h
        · cases h
        · exact h
      have hw2 : (Tree.node k' n' a' b' ks').whole = true := by
        rcases hw2 with h | h
        · cases h
        · exact h
      have hl := cA ks hw
      have hl2 := cA ks' hw2
      simp only [Tree.size] at hs hs2
      have hf : ∀ i (hi : i < ks.length) (hk : i < ks'.length), ACalls Try.prog 25 [.imm ks[i].iv, .imm ks'[i].iv] [] (.imm (.lit (.bool (sameP ks[i] ks'[i])))) [] := fun i hi hk => by
        have h1 := List.getElem_mem hi
        have h2 := List.getElem_mem hk
        have h3 := cP h1
        have h4 := cP h2
        exact ih _ h1 _ (.inr (bY hw h1)) (.inr (bY hw2 h2)) (by omega) (by omega)
      clear ih
      obtain ⟨q, hQ0⟩ : ∃ q, sameP (.node k n a b ks) (.node k' n' a' b' ks') = q := ⟨_, rfl⟩
      rw [hQ0]
      rw [sameP] at hQ0
      have hlen := qR ks ks'
      by_cases hd : (k = k' ∧ n = n' ∧ a = a' ∧ b = b') ∧ ks.length = ks'.length
      · obtain ⟨⟨rfl, rfl, rfl, rfl⟩, hl3⟩ := hd
        rw [show ((((k == k && n == n) && eqB a a) && eqB b b) && samePs ks ks') = samePs ks ks' by rw [(cU a a).2 rfl, (cU b b).2 rfl]; simp] at hQ0
        have hz := iW sameP ks ks' hl3
        rw [← gA, hQ0] at hz
        refine bR Try.func25 rfl rfl (nb rfl) rfl ?_
        repeat' (first | refine bG ?_ | (refine bJ ?_; first | refine aR tabOk rfl rfl rfl (nb rfl) rfl ?_ | refine aZ rfl rfl (nb rfl) ?_ | (refine bI rfl rfl rfl (nb rfl) rfl rfl rfl (fun hq => ?_) (fun hq => ?_) <;> (first | (simp only [sD, sE, sB, sC, sN, sM, sT, sF] at hq; try (exfalso; omega)) | skip)) | refine aD rfl rfl rfl (nb rfl) rfl rfl (by omega) ?_ | refine bC rfl rfl rfl (nb rfl) rfl rfl rfl (by omega) (by omega) ?_ | refine bD rfl rfl rfl (nb rfl) rfl rfl rfl (by omega) (by omega) ?_ | refine bB tabOk rfl rfl rfl (nb rfl) rfl rfl rfl rfl rfl rfl rfl rfl rfl ?_ | refine aT tabOk rfl rfl (nb rfl) rfl ?_ | refine aN tabOk rfl rfl rfl (nb rfl) rfl rfl rfl rfl rfl rfl ?_ | refine aO tabOk rfl rfl rfl (nb rfl) rfl rfl rfl rfl ?_ | refine aK tabOk rfl rfl rfl rfl rfl rfl rfl rfl rfl rfl rfl ?_ | refine aP tabOk rfl rfl rfl (nb rfl) rfl rfl rfl rfl (by first | assumption | omega) ?_ | refine aH tabOk rfl rfl rfl (nb rfl) rfl rfl rfl rfl (by first | rfl | omega) (by first | omega | simp) ?_ | refine aB tabOk rfl rfl rfl (nb rfl) rfl rfl rfl (by assumption) ?_ | refine aB tabOk rfl rfl rfl (nb rfl) rfl rfl rfl (bM _ _ (by first | assumption | omega)) ?_ | refine aD rfl rfl rfl (nb rfl) rfl rfl (by omega) ?_ | ((fail_if_success (refine aE (b := true) rfl rfl rfl ?_)); (fail_if_success (refine aE (b := false) rfl rfl rfl ?_)); refine aQ rfl rfl rfl (fun hq => ?_) (fun hq => ?_) <;> first | subst hq | (first | (simp only [sD, sE, sB, sC, sN, sM, sT, sF] at hq; try (exfalso; omega)) | skip)) | fail) | (refine bQ ?_; first | refine bH ?_ | refine bN ?_ | refine aL ?_ | refine aX ?_ | refine bO ?_ | refine bF ?_ | refine bE ?_ | refine aA (b := true) rfl (fun _ => ?_) nTf | refine aA (b := false) rfl nFt (fun _ => ?_) | refine aY ?_ | refine aW ?_ | refine aU mixed (by kernel_rfl) ?_ | refine aC mixed (by kernel_rfl) ?_ | (refine aA rfl (fun hq => ?_) (fun hq => ?_) <;> first | subst hq | (first | (simp only [sD, sE, sB, sC, sN, sM, sT, sF] at hq; try (exfalso; omega)) | skip)) | fail) | (refine bK ?_; first | refine bT ?_ | refine aI ?_ | refine aM ?_ | fail) | (refine bA ?_; first | refine bP ?_ | refine aF ?_ | refine aG (by decide) ?_ | refine aJ ?_ | fail) | refine bL (aV (by kernel_rfl)) ?_ | fail)
        all_goals first
          | exact absurd rfl (by assumption)
          | (exfalso; omega)
          | skip
        refine cJ (ι := {j : Nat // j ≤ ks.length ∧ ∀ i (hi : i < ks.length) (hk : i < ks'.length), i < j → sameP ks[i] ks'[i] = true}) (fun j => S.f ⟨[(5, .imm (.lit (.int .i64 (j.1 : Int)))), (0, .imm (Tree.iv (.node k n a b ks))), (1, .imm (Tree.iv (.node k n a b ks')))], []⟩) (fun j => ks.length - j.1) ⟨0, Nat.zero_le _, fun i _ _ hi => absurd hi (Nat.not_lt_zero _)⟩ (cB (by repeat' first | exact trivial | refine ⟨rfl, ?_⟩) (by repeat' first | exact trivial | refine ⟨rfl, ?_⟩)) ?_
        rintro ⟨j, hj, hok⟩
        dsimp only
        by_cases hlt : j < ks.length
        · have hltk : j < ks'.length := by omega
          have hg1 := bM ks j hlt
          have hg2 := bM ks' j hltk
          have hc := hf j hlt hltk
          cases hS : sameP ks[j] ks'[j] with
          | true =>
            rw [hS] at hc
            have hok2 : ∀ i (hi : i < ks.length) (hk : i < ks'.length), i < j + 1 → sameP ks[i] ks'[i] = true := fun i hi hk hij => by
              by_cases e : i = j
              · subst e; exact hS
              · exact hok i hi hk (by omega)
            clear hz hf hlen
            repeat' (first | refine bG ?_ | (refine bJ ?_; first | refine aR tabOk rfl rfl rfl (nb rfl) rfl ?_ | refine aZ rfl rfl (nb rfl) ?_ | (refine bI rfl rfl rfl (nb rfl) rfl rfl rfl (fun hq => ?_) (fun hq => ?_) <;> (first | (simp only [sD, sE, sB, sC, sN, sM, sT, sF] at hq; try (exfalso; omega)) | skip))| refine aB tabOk rfl rfl rfl (nb rfl) rfl rfl rfl hg1 ?_ | refine aB tabOk rfl rfl rfl (nb rfl) rfl rfl rfl hg2 ?_ | refine bS rfl rfl (nb rfl) rfl rfl rfl rfl (hc) ?_ | refine aD rfl rfl rfl (nb rfl) rfl rfl (by omega) ?_ | refine bC rfl rfl rfl (nb rfl) rfl rfl rfl (by omega) (by omega) ?_ | refine bD rfl rfl rfl (nb rfl) rfl rfl rfl (by omega) (by omega) ?_ | refine bB tabOk rfl rfl rfl (nb rfl) rfl rfl rfl rfl rfl rfl rfl rfl rfl ?_ | refine aT tabOk rfl rfl (nb rfl) rfl ?_ | refine aN tabOk rfl rfl rfl (nb rfl) rfl rfl rfl rfl rfl rfl ?_ | refine aO tabOk rfl rfl rfl (nb rfl) rfl rfl rfl rfl ?_ | refine aK tabOk rfl rfl rfl rfl rfl rfl rfl rfl rfl rfl rfl ?_ | refine aP tabOk rfl rfl rfl (nb rfl) rfl rfl rfl rfl (by first | assumption | omega) ?_ | refine aH tabOk rfl rfl rfl (nb rfl) rfl rfl rfl rfl (by first | rfl | omega) (by first | omega | simp) ?_ | refine aB tabOk rfl rfl rfl (nb rfl) rfl rfl rfl (by assumption) ?_ | refine aB tabOk rfl rfl rfl (nb rfl) rfl rfl rfl (bM _ _ (by first | assumption | omega)) ?_ | refine aD rfl rfl rfl (nb rfl) rfl rfl (by omega) ?_ | ((fail_if_success (refine aE (b := true) rfl rfl rfl ?_)); (fail_if_success (refine aE (b := false) rfl rfl rfl ?_)); refine aQ rfl rfl rfl (fun hq => ?_) (fun hq => ?_) <;> first | subst hq | (first | (simp only [sD, sE, sB, sC, sN, sM, sT, sF] at hq; try (exfalso; omega)) | skip)) | fail) | (refine bQ ?_; first | refine bH ?_ | refine bN ?_ | refine aL ?_ | refine aX ?_ | refine bO ?_ | refine bF ?_ | refine bE ?_ | refine aA (b := true) rfl (fun _ => ?_) nTf | refine aA (b := false) rfl nFt (fun _ => ?_) | refine aY ?_ | refine aW ?_ | refine aU mixed (by kernel_rfl) ?_ | refine aC mixed (by kernel_rfl) ?_ | (refine aA rfl (fun hq => ?_) (fun hq => ?_) <;> first | subst hq | (first | (simp only [sD, sE, sB, sC, sN, sM, sT, sF] at hq; try (exfalso; omega)) | skip)) | fail) | (refine bK ?_; first | refine bT ?_ | refine aI ?_ | refine aM ?_ | fail) | (refine bA ?_; first | refine bP ?_ | refine aF ?_ | refine aG (by decide) ?_ | refine aJ ?_ | fail) | refine bL (aV (by kernel_rfl)) ?_ | fail)
            all_goals first
              | exact absurd rfl (by assumption)
              | (exfalso; omega)
              | exact ⟨⟨j + 1, hlt, hok2⟩, (by show ks.length - (j + 1) < ks.length - j; omega), (cB (by repeat' first | exact trivial | refine ⟨rfl, ?_⟩) (by repeat' first | exact trivial | refine ⟨rfl, ?_⟩))⟩
          | false =>
            rw [hS] at hc
            have e1 : q = false := by
              rw [Bool.eq_false_iff]
              intro hc2
              have := hz.1 hc2 j hlt hltk
              rw [hS] at this; cases this
            subst e1
            clear hz hf hlen
            repeat' (first | refine bG ?_ | (refine bJ ?_; first | refine aR tabOk rfl rfl rfl (nb rfl) rfl ?_ | refine aZ rfl rfl (nb rfl) ?_ | (refine bI rfl rfl rfl (nb rfl) rfl rfl rfl (fun hq => ?_) (fun hq => ?_) <;> (first | (simp only [sD, sE, sB, sC, sN, sM, sT, sF] at hq; try (exfalso; omega)) | skip))| refine aB tabOk rfl rfl rfl (nb rfl) rfl rfl rfl hg1 ?_ | refine aB tabOk rfl rfl rfl (nb rfl) rfl rfl rfl hg2 ?_ | refine bS rfl rfl (nb rfl) rfl rfl rfl rfl (hc) ?_ | refine aD rfl rfl rfl (nb rfl) rfl rfl (by omega) ?_ | refine bC rfl rfl rfl (nb rfl) rfl rfl rfl (by omega) (by omega) ?_ | refine bD rfl rfl rfl (nb rfl) rfl rfl rfl (by omega) (by omega) ?_ | refine bB tabOk rfl rfl rfl (nb rfl) rfl rfl rfl rfl rfl rfl rfl rfl rfl ?_ | refine aT tabOk rfl rfl (nb rfl) rfl ?_ | refine aN tabOk rfl rfl rfl (nb rfl) rfl rfl rfl rfl rfl rfl ?_ | refine aO tabOk rfl rfl rfl (nb rfl) rfl rfl rfl rfl ?_ | refine aK tabOk rfl rfl rfl rfl rfl rfl rfl rfl rfl rfl rfl ?_ | refine aP tabOk rfl rfl rfl (nb rfl) rfl rfl rfl rfl (by first | assumption | omega) ?_ | refine aH tabOk rfl rfl rfl (nb rfl) rfl rfl rfl rfl (by first | rfl | omega) (by first | omega | simp) ?_ | refine aB tabOk rfl rfl rfl (nb rfl) rfl rfl rfl (by assumption) ?_ | refine aB tabOk rfl rfl rfl (nb rfl) rfl rfl rfl (bM _ _ (by first | assumption | omega)) ?_ | refine aD rfl rfl rfl (nb rfl) rfl rfl (by omega) ?_ | ((fail_if_success (refine aE (b := true) rfl rfl rfl ?_)); (fail_if_success (refine aE (b := false) rfl rfl rfl ?_)); refine aQ rfl rfl rfl (fun hq => ?_) (fun hq => ?_) <;> first | subst hq | (first | (simp only [sD, sE, sB, sC, sN, sM, sT, sF] at hq; try (exfalso; omega)) | skip)) | fail) | (refine bQ ?_; first | refine bH ?_ | refine bN ?_ | refine aL ?_ | refine aX ?_ | refine bO ?_ | refine bF ?_ | refine bE ?_ | refine aA (b := true) rfl (fun _ => ?_) nTf | refine aA (b := false) rfl nFt (fun _ => ?_) | refine aY ?_ | refine aW ?_ | refine aU mixed (by kernel_rfl) ?_ | refine aC mixed (by kernel_rfl) ?_ | (refine aA rfl (fun hq => ?_) (fun hq => ?_) <;> first | subst hq | (first | (simp only [sD, sE, sB, sC, sN, sM, sT, sF] at hq; try (exfalso; omega)) | skip)) | fail) | (refine bK ?_; first | refine bT ?_ | refine aI ?_ | refine aM ?_ | fail) | (refine bA ?_; first | refine bP ?_ | refine aF ?_ | refine aG (by decide) ?_ | refine aJ ?_ | fail) | refine bL (aV (by kernel_rfl)) ?_ | fail)
            all_goals first
              | exact absurd rfl (by assumption)
              | (exfalso; omega)
              | (refine bV (by first | exact .inl rfl | exact .inr rfl) (bU rfl (aS rfl)) rfl ?_; rfl)
        · have e1 : q = true := hz.2 fun i hi hk => hok i hi hk (by omega)
          subst e1
          clear hz hf hlen
          repeat' (first | refine bG ?_ | (refine bJ ?_; first | refine aR tabOk rfl rfl rfl (nb rfl) rfl ?_ | refine aZ rfl rfl (nb rfl) ?_ | (refine bI rfl rfl rfl (nb rfl) rfl rfl rfl (fun hq => ?_) (fun hq => ?_) <;> (first | (simp only [sD, sE, sB, sC, sN, sM, sT, sF] at hq; try (exfalso; omega)) | skip)) | refine aD rfl rfl rfl (nb rfl) rfl rfl (by omega) ?_ | refine bC rfl rfl rfl (nb rfl) rfl rfl rfl (by omega) (by omega) ?_ | refine bD rfl rfl rfl (nb rfl) rfl rfl rfl (by omega) (by omega) ?_ | refine bB tabOk rfl rfl rfl (nb rfl) rfl rfl rfl rfl rfl rfl rfl rfl rfl ?_ | refine aT tabOk rfl rfl (nb rfl) rfl ?_ | refine aN tabOk rfl rfl rfl (nb rfl) rfl rfl rfl rfl rfl rfl ?_ | refine aO tabOk rfl rfl rfl (nb rfl) rfl rfl rfl rfl ?_ | refine aK tabOk rfl rfl rfl rfl rfl rfl rfl rfl rfl rfl rfl ?_ | refine aP tabOk rfl rfl rfl (nb rfl) rfl rfl rfl rfl (by first | assumption | omega) ?_ | refine aH tabOk rfl rfl rfl (nb rfl) rfl rfl rfl rfl (by first | rfl | omega) (by first | omega | simp) ?_ | refine aB tabOk rfl rfl rfl (nb rfl) rfl rfl rfl (by assumption) ?_ | refine aB tabOk rfl rfl rfl (nb rfl) rfl rfl rfl (bM _ _ (by first | assumption | omega)) ?_ | refine aD rfl rfl rfl (nb rfl) rfl rfl (by omega) ?_ | ((fail_if_success (refine aE (b := true) rfl rfl rfl ?_)); (fail_if_success (refine aE (b := false) rfl rfl rfl ?_)); refine aQ rfl rfl rfl (fun hq => ?_) (fun hq => ?_) <;> first | subst hq | (first | (simp only [sD, sE, sB, sC, sN, sM, sT, sF] at hq; try (exfalso; omega)) | skip)) | fail) | (refine bQ ?_; first | refine bH ?_ | refine bN ?_ | refine aL ?_ | refine aX ?_ | refine bO ?_ | refine bF ?_ | refine bE ?_ | refine aA (b := true) rfl (fun _ => ?_) nTf | refine aA (b := false) rfl nFt (fun _ => ?_) | refine aY ?_ | refine aW ?_ | refine aU mixed (by kernel_rfl) ?_ | refine aC mixed (by kernel_rfl) ?_ | (refine aA rfl (fun hq => ?_) (fun hq => ?_) <;> first | subst hq | (first | (simp only [sD, sE, sB, sC, sN, sM, sT, sF] at hq; try (exfalso; omega)) | skip)) | fail) | (refine bK ?_; first | refine bT ?_ | refine aI ?_ | refine aM ?_ | fail) | (refine bA ?_; first | refine bP ?_ | refine aF ?_ | refine aG (by decide) ?_ | refine aJ ?_ | fail) | refine bL (aV (by kernel_rfl)) ?_ | fail)
          all_goals first
            | (exfalso; omega)
            | (refine bV (by first | exact .inl rfl | exact .inr rfl) (bU rfl (aS rfl)) rfl ?_; rfl)
      · have e1 : q = false := by
          rw [← hQ0]
          by_cases hl3 : ks.length = ks'.length
          · have hd : ¬ (k = k' ∧ n = n' ∧ a = a' ∧ b = b') := fun h => hd ⟨h, hl3⟩
            rw [Bool.eq_false_iff]
            intro h
            simp only [Bool.and_eq_true, beq_iff_eq, cU] at h
            exact hd ⟨h.1.1.1.1, h.1.1.1.2, h.1.1.2, h.1.2⟩
          · rw [hlen hl3, Bool.and_false]
        subst e1
        have hd : k = k' → n = n' → a.toList = a'.toList → b.toList = b'.toList → ks.length = ks'.length → False := fun h1 h2 h3 h4 h5 => hd ⟨⟨h1, h2, (cU a a').1 (by unfold eqB; rw [h3]; simp), (cU b b').1 (by unfold eqB; rw [h4]; simp)⟩, h5⟩
        clear hQ0 hf hlen
        refine bR Try.func25 rfl rfl (nb rfl) rfl ?_
        repeat' (first | refine bG ?_ | (refine bJ ?_; first | refine aR tabOk rfl rfl rfl (nb rfl) rfl ?_ | refine aZ rfl rfl (nb rfl) ?_ | (refine bI rfl rfl rfl (nb rfl) rfl rfl rfl (fun hq => ?_) (fun hq => ?_) <;> (first | (simp only [sD, sE, sB, sC, sN, sM, sT, sF] at hq; try (exfalso; omega)) | skip)) | refine aD rfl rfl rfl (nb rfl) rfl rfl (by omega) ?_ | refine bC rfl rfl rfl (nb rfl) rfl rfl rfl (by omega) (by omega) ?_ | refine bD rfl rfl rfl (nb rfl) rfl rfl rfl (by omega) (by omega) ?_ | refine bB tabOk rfl rfl rfl (nb rfl) rfl rfl rfl rfl rfl rfl rfl rfl rfl ?_ | refine aT tabOk rfl rfl (nb rfl) rfl ?_ | refine aN tabOk rfl rfl rfl (nb rfl) rfl rfl rfl rfl rfl rfl ?_ | refine aO tabOk rfl rfl rfl (nb rfl) rfl rfl rfl rfl ?_ | refine aK tabOk rfl rfl rfl rfl rfl rfl rfl rfl rfl rfl rfl ?_ | refine aP tabOk rfl rfl rfl (nb rfl) rfl rfl rfl rfl (by first | assumption | omega) ?_ | refine aH tabOk rfl rfl rfl (nb rfl) rfl rfl rfl rfl (by first | rfl | omega) (by first | omega | simp) ?_ | refine aB tabOk rfl rfl rfl (nb rfl) rfl rfl rfl (by assumption) ?_ | refine aB tabOk rfl rfl rfl (nb rfl) rfl rfl rfl (bM _ _ (by first | assumption | omega)) ?_ | refine aD rfl rfl rfl (nb rfl) rfl rfl (by omega) ?_ | ((fail_if_success (refine aE (b := true) rfl rfl rfl ?_)); (fail_if_success (refine aE (b := false) rfl rfl rfl ?_)); refine aQ rfl rfl rfl (fun hq => ?_) (fun hq => ?_) <;> first | subst hq | (first | (simp only [sD, sE, sB, sC, sN, sM, sT, sF] at hq; try (exfalso; omega)) | skip)) | fail) | (refine bQ ?_; first | refine bH ?_ | refine bN ?_ | refine aL ?_ | refine aX ?_ | refine bO ?_ | refine bF ?_ | refine bE ?_ | refine aA (b := true) rfl (fun _ => ?_) nTf | refine aA (b := false) rfl nFt (fun _ => ?_) | refine aY ?_ | refine aW ?_ | refine aU mixed (by kernel_rfl) ?_ | refine aC mixed (by kernel_rfl) ?_ | (refine aA rfl (fun hq => ?_) (fun hq => ?_) <;> first | subst hq | (first | (simp only [sD, sE, sB, sC, sN, sM, sT, sF] at hq; try (exfalso; omega)) | skip)) | fail) | (refine bK ?_; first | refine bT ?_ | refine aI ?_ | refine aM ?_ | fail) | (refine bA ?_; first | refine bP ?_ | refine aF ?_ | refine aG (by decide) ?_ | refine aJ ?_ | fail) | refine bL (aV (by kernel_rfl)) ?_ | fail)
        all_goals first
          | exact absurd rfl (by assumption)
          | (exfalso; omega)
          | (exact (hd (by assumption) (by assumption) (by assumption) (by assumption) (by omega)).elim)
          | (refine bV (by first | exact .inl rfl | exact .inr rfl) (bU rfl (aS rfl)) rfl ?_; rfl)
instance : DecidableEq Tree := fun a b => decidable_of_iff (sameP a b = true) (jM a b)
def mNum : Tree := .node 111 0 emptyB emptyB []
def mOf (k : Int) (c : Tree) : Tree := .node k 0 emptyB emptyB [c]
def mField (l : ByteArray) (c : Tree) : Tree := .node 163 0 l emptyB [c]
def mEx (n : Int) (s : Tree) : Tree := .node 164 n emptyB emptyB [s]
abbrev lt : ByteArray := ⟨#[116, 58, 116]⟩
abbrev lx : ByteArray := ⟨#[118, 58, 120]⟩
def mSig : Tree := .node 162 0 emptyB emptyB [mField lt (mOf 161 mNum), mField lx (mOf 160 mNum)]
def mTo : Tree := .node 162 0 emptyB emptyB [mField lt (mOf 161 (.node 110 0 emptyB emptyB []))]
def mOut : Tree := .node 162 0 emptyB emptyB [mField lt (mOf 161 mNum)]
theorem ex_w : witnessP mSig (mEx 1 mTo) = ([mNum], 0) := by decide +kernel
theorem ex_f : fillP (mEx 1 mTo) [mNum] = (mOut, 0) := by decide +kernel
theorem ex_o : fillOk 1 [mNum] 0 mTo = true := by decide +kernel
theorem ex_s : mSubP mSig mOut = 0 := by decide +kernel
end Go.Proofs.Ytlbemgokilhdnaa.Ab
namespace Go.Proofs.Ytlbemgokilhdnaa.Ab
set_option linter.unusedVariables false
set_option linter.unusedSimpArgs false
open Go.RowKit
attribute [local irreducible] AWP AOps AExit AThen ABlock ANoGoto FeetOk
set_option maxHeartbeats 4000000 in
set_option maxRecDepth 10000 in
theorem of_a (k : Int) (pc : List IV) : ACalls Try.prog 41 [.imm (.lit (.int .i64 k)), .imm (.ptr pc 0)] [] (.imm (.ptr [.lit (.int .i64 k), .lit (.int .i64 0), .lit (.string ⟨#[]⟩), .lit (.string ⟨#[]⟩), .sl false 1 [.ptr pc 0]] 0)) [] := by
  refine bR Try.func41 rfl rfl (nb rfl) rfl ?_
  repeat' (first | refine bG ?_ | (refine bJ ?_; first | refine aR tabOk rfl rfl rfl (nb rfl) rfl ?_ | refine aZ rfl rfl (nb rfl) ?_ | (refine bI rfl rfl rfl (nb rfl) rfl rfl rfl (fun hq => ?_) (fun hq => ?_) <;> (first | (simp only [sD, sE, sB, sC, sN, sM, sT, sF] at hq; try (exfalso; omega)) | skip)) | refine aD rfl rfl rfl (nb rfl) rfl rfl (by omega) ?_ | refine bC rfl rfl rfl (nb rfl) rfl rfl rfl (by omega) (by omega) ?_ | refine bD rfl rfl rfl (nb rfl) rfl rfl rfl (by omega) (by omega) ?_ | refine bB tabOk rfl rfl rfl (nb rfl) rfl rfl rfl rfl rfl rfl rfl rfl rfl ?_ | refine aT tabOk rfl rfl (nb rfl) rfl ?_ | refine aN tabOk rfl rfl rfl (nb rfl) rfl rfl rfl rfl rfl rfl ?_ | refine aO tabOk rfl rfl rfl (nb rfl) rfl rfl rfl rfl ?_ | refine aK tabOk rfl rfl rfl rfl rfl rfl rfl rfl rfl rfl rfl ?_ | refine aP tabOk rfl rfl rfl (nb rfl) rfl rfl rfl rfl (by first | assumption | omega) ?_ | refine aH tabOk rfl rfl rfl (nb rfl) rfl rfl rfl rfl (by first | rfl | omega) (by first | omega | simp) ?_ | refine aB tabOk rfl rfl rfl (nb rfl) rfl rfl rfl (by assumption) ?_ | refine aB tabOk rfl rfl rfl (nb rfl) rfl rfl rfl (bM _ _ (by first | assumption | omega)) ?_ | refine aD rfl rfl rfl (nb rfl) rfl rfl (by omega) ?_ | ((fail_if_success (refine aE (b := true) rfl rfl rfl ?_)); (fail_if_success (refine aE (b := false) rfl rfl rfl ?_)); refine aQ rfl rfl rfl (fun hq => ?_) (fun hq => ?_) <;> first | subst hq | (first | (simp only [sD, sE, sB, sC, sN, sM, sT, sF] at hq; try (exfalso; omega)) | skip)) | fail) | (refine bQ ?_; first | refine bH ?_ | refine bN ?_ | refine aL ?_ | refine aX ?_ | refine bO ?_ | refine bF ?_ | refine bE ?_ | refine aA (b := true) rfl (fun _ => ?_) nTf | refine aA (b := false) rfl nFt (fun _ => ?_) | refine aY ?_ | refine aW ?_ | refine aU mixed (by kernel_rfl) ?_ | refine aC mixed (by kernel_rfl) ?_ | (refine aA rfl (fun hq => ?_) (fun hq => ?_) <;> first | subst hq | (first | (simp only [sD, sE, sB, sC, sN, sM, sT, sF] at hq; try (exfalso; omega)) | skip)) | fail) | (refine bK ?_; first | refine bT ?_ | refine aI ?_ | refine aM ?_ | fail) | (refine bA ?_; first | refine bP ?_ | refine aF ?_ | refine aG (by decide) ?_ | refine aJ ?_ | fail) | refine bL (aV (by kernel_rfl)) ?_ | fail)
  all_goals exact bZ (by first | exact .inl rfl | exact .inr rfl) (bU rfl (aS rfl)) rfl
set_option maxHeartbeats 4000000 in
set_option maxRecDepth 10000 in
theorem uL (l : ByteArray) (pc : List IV) : ACalls Try.prog 40 [.imm (.lit (.string l)), .imm (.ptr pc 0)] [] (.imm (.ptr [.lit (.int .i64 163), .lit (.int .i64 0), .lit (.string l), .lit (.string ⟨#[]⟩), .sl false 1 [.ptr pc 0]] 0)) [] := by
  refine bR Try.func40 rfl rfl (nb rfl) rfl ?_
  repeat' (first | refine bG ?_ | (refine bJ ?_; first | refine aR tabOk rfl rfl rfl (nb rfl) rfl ?_ | refine aZ rfl rfl (nb rfl) ?_ | (refine bI rfl rfl rfl (nb rfl) rfl rfl rfl (fun hq => ?_) (fun hq => ?_) <;> (first | (simp only [sD, sE, sB, sC, sN, sM, sT, sF] at hq; try (exfalso; omega)) | skip)) | refine aD rfl rfl rfl (nb rfl) rfl rfl (by omega) ?_ | refine bC rfl rfl rfl (nb rfl) rfl rfl rfl (by omega) (by omega) ?_ | refine bD rfl rfl rfl (nb rfl) rfl rfl rfl (by omega) (by omega) ?_ | refine bB tabOk rfl rfl rfl (nb rfl) rfl rfl rfl rfl rfl rfl rfl rfl rfl ?_ | refine aT tabOk rfl rfl (nb rfl) rfl ?_ | refine aN tabOk rfl rfl rfl (nb rfl) rfl rfl rfl rfl rfl rfl ?_ | refine aO tabOk rfl rfl rfl (nb rfl) rfl rfl rfl rfl ?_ | refine aK tabOk rfl rfl rfl rfl rfl rfl rfl rfl rfl rfl rfl ?_ | refine aP tabOk rfl rfl rfl (nb rfl) rfl rfl rfl rfl (by first | assumption | omega) ?_ | refine aH tabOk rfl rfl rfl (nb rfl) rfl rfl rfl rfl (by first | rfl | omega) (by first | omega | simp) ?_ | refine aB tabOk rfl rfl rfl (nb rfl) rfl rfl rfl (by assumption) ?_ | refine aB tabOk rfl rfl rfl (nb rfl) rfl rfl rfl (bM _ _ (by first | assumption | omega)) ?_ | refine aD rfl rfl rfl (nb rfl) rfl rfl (by omega) ?_ | ((fail_if_success (refine aE (b := true) rfl rfl rfl ?_)); (fail_if_success (refine aE (b := false) rfl rfl rfl ?_)); refine aQ rfl rfl rfl (fun hq => ?_) (fun hq => ?_) <;> first | subst hq | (first | (simp only [sD, sE, sB, sC, sN, sM, sT, sF] at hq; try (exfalso; omega)) | skip)) | fail) | (refine bQ ?_; first | refine bH ?_ | refine bN ?_ | refine aL ?_ | refine aX ?_ | refine bO ?_ | refine bF ?_ | refine bE ?_ | refine aA (b := true) rfl (fun _ => ?_) nTf | refine aA (b := false) rfl nFt (fun _ => ?_) | refine aY ?_ | refine aW ?_ | refine aU mixed (by kernel_rfl) ?_ | refine aC mixed (by kernel_rfl) ?_ | (refine aA rfl (fun hq => ?_) (fun hq => ?_) <;> first | subst hq | (first | (simp only [sD, sE, sB, sC, sN, sM, sT, sF] at hq; try (exfalso; omega)) | skip)) | fail) | (refine bK ?_; first | refine bT ?_ | refine aI ?_ | refine aM ?_ | fail) | (refine bA ?_; first | refine bP ?_ | refine aF ?_ | refine aG (by decide) ?_ | refine aJ ?_ | fail) | refine bL (aV (by kernel_rfl)) ?_ | fail)
  all_goals exact bZ (by first | exact .inl rfl | exact .inr rfl) (bU rfl (aS rfl)) rfl
set_option maxHeartbeats 4000000 in
set_option maxRecDepth 10000 in
theorem wL (n : Int) (pc : List IV) : ACalls Try.prog 43 [.imm (.lit (.int .i64 n)), .imm (.ptr pc 0)] [] (.imm (.ptr [.lit (.int .i64 164), .lit (.int .i64 n), .lit (.string ⟨#[]⟩), .lit (.string ⟨#[]⟩), .sl false 1 [.ptr pc 0]] 0)) [] := by
  refine bR Try.func43 rfl rfl (nb rfl) rfl ?_
  repeat' (first | refine bG ?_ | (refine bJ ?_; first | refine aR tabOk rfl rfl rfl (nb rfl) rfl ?_ | refine aZ rfl rfl (nb rfl) ?_ | (refine bI rfl rfl rfl (nb rfl) rfl rfl rfl (fun hq => ?_) (fun hq => ?_) <;> (first | (simp only [sD, sE, sB, sC, sN, sM, sT, sF] at hq; try (exfalso; omega)) | skip)) | refine aD rfl rfl rfl (nb rfl) rfl rfl (by omega) ?_ | refine bC rfl rfl rfl (nb rfl) rfl rfl rfl (by omega) (by omega) ?_ | refine bD rfl rfl rfl (nb rfl) rfl rfl rfl (by omega) (by omega) ?_ | refine bB tabOk rfl rfl rfl (nb rfl) rfl rfl rfl rfl rfl rfl rfl rfl rfl ?_ | refine aT tabOk rfl rfl (nb rfl) rfl ?_ | refine aN tabOk rfl rfl rfl (nb rfl) rfl rfl rfl rfl rfl rfl ?_ | refine aO tabOk rfl rfl rfl (nb rfl) rfl rfl rfl rfl ?_ | refine aK tabOk rfl rfl rfl rfl rfl rfl rfl rfl rfl rfl rfl ?_ | refine aP tabOk rfl rfl rfl (nb rfl) rfl rfl rfl rfl (by first | assumption | omega) ?_ | refine aH tabOk rfl rfl rfl (nb rfl) rfl rfl rfl rfl (by first | rfl | omega) (by first | omega | simp) ?_ | refine aB tabOk rfl rfl rfl (nb rfl) rfl rfl rfl (by assumption) ?_ | refine aB tabOk rfl rfl rfl (nb rfl) rfl rfl rfl (bM _ _ (by first | assumption | omega)) ?_ | refine aD rfl rfl rfl (nb rfl) rfl rfl (by omega) ?_ | ((fail_if_success (refine aE (b := true) rfl rfl rfl ?_)); (fail_if_success (refine aE (b := false) rfl rfl rfl ?_)); refine aQ rfl rfl rfl (fun hq => ?_) (fun hq => ?_) <;> first | subst hq | (first | (simp only [sD, sE, sB, sC, sN, sM, sT, sF] at hq; try (exfalso; omega)) | skip)) | fail) | (refine bQ ?_; first | refine bH ?_ | refine bN ?_ | refine aL ?_ | refine aX ?_ | refine bO ?_ | refine bF ?_ | refine bE ?_ | refine aA (b := true) rfl (fun _ => ?_) nTf | refine aA (b := false) rfl nFt (fun _ => ?_) | refine aY ?_ | refine aW ?_ | refine aU mixed (by kernel_rfl) ?_ | refine aC mixed (by kernel_rfl) ?_ | (refine aA rfl (fun hq => ?_) (fun hq => ?_) <;> first | subst hq | (first | (simp only [sD, sE, sB, sC, sN, sM, sT, sF] at hq; try (exfalso; omega)) | skip)) | fail) | (refine bK ?_; first | refine bT ?_ | refine aI ?_ | refine aM ?_ | fail) | (refine bA ?_; first | refine bP ?_ | refine aF ?_ | refine aG (by decide) ?_ | refine aJ ?_ | fail) | refine bL (aV (by kernel_rfl)) ?_ | fail)
  all_goals exact bZ (by first | exact .inl rfl | exact .inr rfl) (bU rfl (aS rfl)) rfl
set_option maxHeartbeats 8000000 in
set_option maxRecDepth 10000 in
theorem tA : ACalls Try.prog 18 [] [] (.imm (.lit (.bool true))) [] := by
  have c1 := qQ mSig (mEx 1 mTo) (by decide) (by decide) (by rw [ex_w]) (by rw [ex_w]; decide) (by rw [ex_w]; intro c hc; rw [List.mem_singleton.1 hc]; decide) (by rw [ex_w]; exact ex_o) (by rw [ex_w]; exact congrArg Prod.snd ex_f) (by rw [ex_w, ex_f]; decide) (by rw [ex_w, ex_f]; exact ex_s)
  rw [ex_w] at c1
  dsimp only at c1
  rw [ex_f] at c1
  have c2 := rJ mNum mNum (.inr (by decide)) (.inr (by decide)) (by decide) (by decide)
  rw [(jM mNum mNum).2 rfl] at c2
  have c3 := uE mSig mOut (by decide) (by decide)
  rw [ex_s] at c3
  refine bR Try.func18 rfl rfl (nb rfl) rfl ?_
  repeat' (first | refine bG ?_ | (refine bJ ?_; first | refine aR tabOk rfl rfl rfl (nb rfl) rfl ?_ | refine aZ rfl rfl (nb rfl) ?_ | (refine bI rfl rfl rfl (nb rfl) rfl rfl rfl (fun hq => ?_) (fun hq => ?_) <;> (first | (simp only [sD, sE, sB, sC, sN, sM, sT, sF] at hq; try (exfalso; omega)) | skip))| refine bS rfl rfl (nb rfl) rfl rfl rfl rfl ((of_a _ _)) ?_ | refine bS rfl rfl (nb rfl) rfl rfl rfl rfl ((uL _ _)) ?_ | refine bS rfl rfl (nb rfl) rfl rfl rfl rfl ((wL _ _)) ?_ | refine bS rfl rfl (nb rfl) rfl rfl rfl rfl (c1) ?_ | refine bS rfl rfl (nb rfl) rfl rfl rfl rfl (c2) ?_ | refine bS rfl rfl (nb rfl) rfl rfl rfl rfl (c3) ?_ | refine aD rfl rfl rfl (nb rfl) rfl rfl (by omega) ?_ | refine bC rfl rfl rfl (nb rfl) rfl rfl rfl (by omega) (by omega) ?_ | refine bD rfl rfl rfl (nb rfl) rfl rfl rfl (by omega) (by omega) ?_ | refine bB tabOk rfl rfl rfl (nb rfl) rfl rfl rfl rfl rfl rfl rfl rfl rfl ?_ | refine aT tabOk rfl rfl (nb rfl) rfl ?_ | refine aN tabOk rfl rfl rfl (nb rfl) rfl rfl rfl rfl rfl rfl ?_ | refine aO tabOk rfl rfl rfl (nb rfl) rfl rfl rfl rfl ?_ | refine aK tabOk rfl rfl rfl rfl rfl rfl rfl rfl rfl rfl rfl ?_ | refine aP tabOk rfl rfl rfl (nb rfl) rfl rfl rfl rfl (by first | assumption | omega) ?_ | refine aH tabOk rfl rfl rfl (nb rfl) rfl rfl rfl rfl (by first | rfl | omega) (by first | omega | simp) ?_ | refine aB tabOk rfl rfl rfl (nb rfl) rfl rfl rfl (by assumption) ?_ | refine aB tabOk rfl rfl rfl (nb rfl) rfl rfl rfl (bM _ _ (by first | assumption | omega)) ?_ | refine aD rfl rfl rfl (nb rfl) rfl rfl (by omega) ?_ | ((fail_if_success (refine aE (b := true) rfl rfl rfl ?_)); (fail_if_success (refine aE (b := false) rfl rfl rfl ?_)); refine aQ rfl rfl rfl (fun hq => ?_) (fun hq => ?_) <;> first | subst hq | (first | (simp only [sD, sE, sB, sC, sN, sM, sT, sF] at hq; try (exfalso; omega)) | skip)) | fail) | (refine bQ ?_; first | refine bH ?_ | refine bN ?_ | refine aL ?_ | refine aX ?_ | refine bO ?_ | refine bF ?_ | refine bE ?_ | refine aA (b := true) rfl (fun _ => ?_) nTf | refine aA (b := false) rfl nFt (fun _ => ?_) | refine aY ?_ | refine aW ?_ | refine aU mixed (by kernel_rfl) ?_ | refine aC mixed (by kernel_rfl) ?_ | (refine aA rfl (fun hq => ?_) (fun hq => ?_) <;> first | subst hq | (first | (simp only [sD, sE, sB, sC, sN, sM, sT, sF] at hq; try (exfalso; omega)) | skip)) | fail) | (refine bK ?_; first | refine bT ?_ | refine aI ?_ | refine aM ?_ | fail) | (refine bA ?_; first | refine bP ?_ | refine aF ?_ | refine aG (by decide) ?_ | refine aJ ?_ | fail) | refine bL (aV (by kernel_rfl)) ?_ | fail)
  all_goals first
    | exact bZ (by first | exact .inl rfl | exact .inr rfl) (bU rfl (aS rfl)) rfl
    | exact absurd rfl (by assumption)
end Go.Proofs.Ytlbemgokilhdnaa.Ab
namespace Go.Proofs.Ytlbemgokilhdnaa.Ab
set_option linter.unusedVariables false
set_option linter.unusedSimpArgs false
open Go.RowKit
attribute [local irreducible] AWP AOps AExit AThen ABlock ANoGoto FeetOk
theorem pI {l : List Tree} {kind : Int} {rise : Bool} {i : Nat} (h : i < l.length) (hb : okNamed kind l[i] = false) : labelsB l kind rise = false := by
  rw [Bool.eq_false_iff]
  intro hc
  have := ((gQ l kind rise).1 hc).1 i h
  rw [hb] at this
  cases this
theorem qS {l : List Tree} {kind : Int} {rise : Bool} {i j : Nat} (hij : j < i) (h : i < l.length) (hb : okPair rise (l[j]'(by omega)).name l[i].name = false) : labelsB l kind rise = false := by
  rw [Bool.eq_false_iff]
  intro hc
  have := ((gQ l kind rise).1 hc).2 j i hij h
  rw [hb] at this
  cases this
set_option maxHeartbeats 16000000 in
set_option maxRecDepth 10000 in
theorem pJ (l : List Tree) (kind : Int) (rise : Bool) (h : Tree.wholes l = true) (hl : l.length < 1000000000)
    (hc : ∀ t', t'.size < Tree.sizes l → t'.whole = true → ACalls Try.prog 97 [.imm t'.iv] [] (.imm (.lit (.bool (isConP t')))) []) :
    ACalls Try.prog 120 [.imm (.sl false l.length (Tree.ivs l)), .imm (.lit (.int .i64 kind)), .imm (.lit (.bool rise))] [] (.imm (.lit (.bool (labelsB l kind rise)))) [] := by
  refine bR Try.func120 rfl rfl (nb rfl) rfl ?_
  repeat' (first | refine bG ?_ | (refine bJ ?_; first | refine aR tabOk rfl rfl rfl (nb rfl) rfl ?_ | refine aZ rfl rfl (nb rfl) ?_ | (refine bI rfl rfl rfl (nb rfl) rfl rfl rfl (fun hq => ?_) (fun hq => ?_) <;> (first | (simp only [sD, sE, sB, sC, sN, sM, sT, sF] at hq; try (exfalso; omega)) | skip)) | refine aD rfl rfl rfl (nb rfl) rfl rfl (by omega) ?_ | refine bC rfl rfl rfl (nb rfl) rfl rfl rfl (by omega) (by omega) ?_ | refine bD rfl rfl rfl (nb rfl) rfl rfl rfl (by omega) (by omega) ?_ | refine bB tabOk rfl rfl rfl (nb rfl) rfl rfl rfl rfl rfl rfl rfl rfl rfl ?_ | refine aT tabOk rfl rfl (nb rfl) rfl ?_ | refine aN tabOk rfl rfl rfl (nb rfl) rfl rfl rfl rfl rfl rfl ?_ | refine aO tabOk rfl rfl rfl (nb rfl) rfl rfl rfl rfl ?_ | refine aK tabOk rfl rfl rfl rfl rfl rfl rfl rfl rfl rfl rfl ?_ | refine aP tabOk rfl rfl rfl (nb rfl) rfl rfl rfl rfl (by first | assumption | omega) ?_ | refine aH tabOk rfl rfl rfl (nb rfl) rfl rfl rfl rfl (by first | rfl | omega) (by first | omega | simp) ?_ | refine aB tabOk rfl rfl rfl (nb rfl) rfl rfl rfl (by assumption) ?_ | refine aB tabOk rfl rfl rfl (nb rfl) rfl rfl rfl (bM _ _ (by first | assumption | omega)) ?_ | refine aD rfl rfl rfl (nb rfl) rfl rfl (by omega) ?_ | ((fail_if_success (refine aE (b := true) rfl rfl rfl ?_)); (fail_if_success (refine aE (b := false) rfl rfl rfl ?_)); refine aQ rfl rfl rfl (fun hq => ?_) (fun hq => ?_) <;> first | subst hq | (first | (simp only [sD, sE, sB, sC, sN, sM, sT, sF] at hq; try (exfalso; omega)) | skip)) | fail) | (refine bQ ?_; first | refine bH ?_ | refine bN ?_ | refine aL ?_ | refine aX ?_ | refine bO ?_ | refine bF ?_ | refine bE ?_ | refine aA (b := true) rfl (fun _ => ?_) nTf | refine aA (b := false) rfl nFt (fun _ => ?_) | refine aY ?_ | refine aW ?_ | refine aU mixed (by kernel_rfl) ?_ | refine aC mixed (by kernel_rfl) ?_ | (refine aA rfl (fun hq => ?_) (fun hq => ?_) <;> first | subst hq | (first | (simp only [sD, sE, sB, sC, sN, sM, sT, sF] at hq; try (exfalso; omega)) | skip)) | fail) | (refine bK ?_; first | refine bT ?_ | refine aI ?_ | refine aM ?_ | fail) | (refine bA ?_; first | refine bP ?_ | refine aF ?_ | refine aG (by decide) ?_ | refine aJ ?_ | fail) | refine bL (aV (by kernel_rfl)) ?_ | fail)
  refine cJ (ι := {i : Nat // i ≤ l.length ∧ (∀ q (hq : q < l.length), q < i → okNamed kind l[q] = true) ∧ ∀ j q (hjq : j < q) (hq : q < l.length), q < i → okPair rise (l[j]'(by omega)).name l[q].name = true}) (fun i => S.f ⟨[(7, .imm (.lit (.int .i64 (i.1 : Int)))), (0, .imm (.sl false l.length (Tree.ivs l))), (1, .imm (.lit (.int .i64 kind))), (2, .imm (.lit (.bool rise)))], []⟩) (fun i => l.length - i.1) ⟨0, Nat.zero_le _, fun q h h2 => by omega, fun j q h h2 h3 => by omega⟩ (cB (by repeat' first | exact trivial | refine ⟨rfl, ?_⟩) (by repeat' first | exact trivial | refine ⟨rfl, ?_⟩)) ?_
  rintro ⟨i, hi, hn, hp⟩
  dsimp only
  by_cases hil : i < l.length
  · obtain ⟨k1, n1, a1, b1, ks, e1, hiv, hwk⟩ := eB h hil
    have hbad := @pI l kind rise i hil
    have hsz := cP (List.getElem_mem hil)
    rw [e1] at hbad hsz
    have hpl := lR k1 n1 a1 b1 ks true
    cases hok : okNamed kind (.node k1 n1 a1 b1 ks) with
    | false =>
      rw [hbad hok]
      rw [okNamed] at hok
      rcases ks with _ | ⟨c, _ | ⟨d, r⟩⟩
      · generalize bareP n1 a1 b1 true false = bp at *
        cases bp <;>
        (repeat' (first | refine bG ?_ | (refine bJ ?_; first | refine aR tabOk rfl rfl rfl (nb rfl) rfl ?_ | refine aZ rfl rfl (nb rfl) ?_ | (refine bI rfl rfl rfl (nb rfl) rfl rfl rfl (fun hq => ?_) (fun hq => ?_) <;> (first | (simp only [sD, sE, sB, sC, sN, sM, sT, sF] at hq; try (exfalso; omega)) | skip))| refine aB tabOk rfl rfl rfl (nb rfl) rfl rfl rfl hiv ?_ | refine bS rfl rfl (nb rfl) rfl rfl rfl rfl (hpl) ?_ | refine aD rfl rfl rfl (nb rfl) rfl rfl (by omega) ?_ | refine bC rfl rfl rfl (nb rfl) rfl rfl rfl (by omega) (by omega) ?_ | refine bD rfl rfl rfl (nb rfl) rfl rfl rfl (by omega) (by omega) ?_ | refine bB tabOk rfl rfl rfl (nb rfl) rfl rfl rfl rfl rfl rfl rfl rfl rfl ?_ | refine aT tabOk rfl rfl (nb rfl) rfl ?_ | refine aN tabOk rfl rfl rfl (nb rfl) rfl rfl rfl rfl rfl rfl ?_ | refine aO tabOk rfl rfl rfl (nb rfl) rfl rfl rfl rfl ?_ | refine aK tabOk rfl rfl rfl rfl rfl rfl rfl rfl rfl rfl rfl ?_ | refine aP tabOk rfl rfl rfl (nb rfl) rfl rfl rfl rfl (by first | assumption | omega) ?_ | refine aH tabOk rfl rfl rfl (nb rfl) rfl rfl rfl rfl (by first | rfl | omega) (by first | omega | simp) ?_ | refine aB tabOk rfl rfl rfl (nb rfl) rfl rfl rfl (by assumption) ?_ | refine aB tabOk rfl rfl rfl (nb rfl) rfl rfl rfl (bM _ _ (by first | assumption | omega)) ?_ | refine aD rfl rfl rfl (nb rfl) rfl rfl (by omega) ?_ | ((fail_if_success (refine aE (b := true) rfl rfl rfl ?_)); (fail_if_success (refine aE (b := false) rfl rfl rfl ?_)); refine aQ rfl rfl rfl (fun hq => ?_) (fun hq => ?_) <;> first | subst hq | (first | (simp only [sD, sE, sB, sC, sN, sM, sT, sF] at hq; try (exfalso; omega)) | skip)) | fail) | (refine bQ ?_; first | refine bH ?_ | refine bN ?_ | refine aL ?_ | refine aX ?_ | refine bO ?_ | refine bF ?_ | refine bE ?_ | refine aA (b := true) rfl (fun _ => ?_) nTf | refine aA (b := false) rfl nFt (fun _ => ?_) | refine aY ?_ | refine aW ?_ | refine aU mixed (by kernel_rfl) ?_ | refine aC mixed (by kernel_rfl) ?_ | (refine aA rfl (fun hq => ?_) (fun hq => ?_) <;> first | subst hq | (first | (simp only [sD, sE, sB, sC, sN, sM, sT, sF] at hq; try (exfalso; omega)) | skip)) | fail) | (refine bK ?_; first | refine bT ?_ | refine aI ?_ | refine aM ?_ | fail) | (refine bA ?_; first | refine bP ?_ | refine aF ?_ | refine aG (by decide) ?_ | refine aJ ?_ | fail) | refine bL (aV (by kernel_rfl)) ?_ | fail)
         all_goals first
           | exact bZ (by first | exact .inl rfl | exact .inr rfl) (bU rfl (aS rfl)) rfl
           | (exfalso; omega)
           | (exfalso; simp_all [isCon1, labelP]; done))
      · have hcc := hc c (by simp [Tree.size, Tree.sizes] at hsz ⊢; omega) (bY hwk (by simp))
        rw [isCon1] at hok
        generalize bareP n1 a1 b1 true false = bp at *
        generalize isConP c = cp at *
        cases bp <;> cases cp <;>
        (repeat' (first | refine bG ?_ | (refine bJ ?_; first | refine aR tabOk rfl rfl rfl (nb rfl) rfl ?_ | refine aZ rfl rfl (nb rfl) ?_ | (refine bI rfl rfl rfl (nb rfl) rfl rfl rfl (fun hq => ?_) (fun hq => ?_) <;> (first | (simp only [sD, sE, sB, sC, sN, sM, sT, sF] at hq; try (exfalso; omega)) | skip))| refine aB tabOk rfl rfl rfl (nb rfl) rfl rfl rfl hiv ?_ | refine bS rfl rfl (nb rfl) rfl rfl rfl rfl (hpl) ?_ | refine bS rfl rfl (nb rfl) rfl rfl rfl rfl (hcc) ?_ | refine aD rfl rfl rfl (nb rfl) rfl rfl (by omega) ?_ | refine bC rfl rfl rfl (nb rfl) rfl rfl rfl (by omega) (by omega) ?_ | refine bD rfl rfl rfl (nb rfl) rfl rfl rfl (by omega) (by omega) ?_ | refine bB tabOk rfl rfl rfl (nb rfl) rfl rfl rfl rfl rfl rfl rfl rfl rfl ?_ | refine aT tabOk rfl rfl (nb rfl) rfl ?_ | refine aN tabOk rfl rfl rfl (nb rfl) rfl rfl rfl rfl rfl rfl ?_ | refine aO tabOk rfl rfl rfl (nb rfl) rfl rfl rfl rfl ?_ | refine aK tabOk rfl rfl rfl rfl rfl rfl rfl rfl rfl rfl rfl ?_ | refine aP tabOk rfl rfl rfl (nb rfl) rfl rfl rfl rfl (by first | assumption | omega) ?_ | refine aH tabOk rfl rfl rfl (nb rfl) rfl rfl rfl rfl (by first | rfl | omega) (by first | omega | simp) ?_ | refine aB tabOk rfl rfl rfl (nb rfl) rfl rfl rfl (by assumption) ?_ | refine aB tabOk rfl rfl rfl (nb rfl) rfl rfl rfl (bM _ _ (by first | assumption | omega)) ?_ | refine aD rfl rfl rfl (nb rfl) rfl rfl (by omega) ?_ | ((fail_if_success (refine aE (b := true) rfl rfl rfl ?_)); (fail_if_success (refine aE (b := false) rfl rfl rfl ?_)); refine aQ rfl rfl rfl (fun hq => ?_) (fun hq => ?_) <;> first | subst hq | (first | (simp only [sD, sE, sB, sC, sN, sM, sT, sF] at hq; try (exfalso; omega)) | skip)) | fail) | (refine bQ ?_; first | refine bH ?_ | refine bN ?_ | refine aL ?_ | refine aX ?_ | refine bO ?_ | refine bF ?_ | refine bE ?_ | refine aA (b := true) rfl (fun _ => ?_) nTf | refine aA (b := false) rfl nFt (fun _ => ?_) | refine aY ?_ | refine aW ?_ | refine aU mixed (by kernel_rfl) ?_ | refine aC mixed (by kernel_rfl) ?_ | (refine aA rfl (fun hq => ?_) (fun hq => ?_) <;> first | subst hq | (first | (simp only [sD, sE, sB, sC, sN, sM, sT, sF] at hq; try (exfalso; omega)) | skip)) | fail) | (refine bK ?_; first | refine bT ?_ | refine aI ?_ | refine aM ?_ | fail) | (refine bA ?_; first | refine bP ?_ | refine aF ?_ | refine aG (by decide) ?_ | refine aJ ?_ | fail) | refine bL (aV (by kernel_rfl)) ?_ | fail)
         all_goals first
           | exact bZ (by first | exact .inl rfl | exact .inr rfl) (bU rfl (aS rfl)) rfl
           | (exfalso; omega)
           | (exfalso; simp_all [labelP]; done)
           | (exfalso; simp_all [labelP]; omega))
      · generalize bareP n1 a1 b1 true false = bp at *
        cases bp <;>
        (repeat' (first | refine bG ?_ | (refine bJ ?_; first | refine aR tabOk rfl rfl rfl (nb rfl) rfl ?_ | refine aZ rfl rfl (nb rfl) ?_ | (refine bI rfl rfl rfl (nb rfl) rfl rfl rfl (fun hq => ?_) (fun hq => ?_) <;> (first | (simp only [sD, sE, sB, sC, sN, sM, sT, sF] at hq; try (exfalso; omega)) | skip))| refine aB tabOk rfl rfl rfl (nb rfl) rfl rfl rfl hiv ?_ | refine bS rfl rfl (nb rfl) rfl rfl rfl rfl (hpl) ?_ | refine aD rfl rfl rfl (nb rfl) rfl rfl (by omega) ?_ | refine bC rfl rfl rfl (nb rfl) rfl rfl rfl (by omega) (by omega) ?_ | refine bD rfl rfl rfl (nb rfl) rfl rfl rfl (by omega) (by omega) ?_ | refine bB tabOk rfl rfl rfl (nb rfl) rfl rfl rfl rfl rfl rfl rfl rfl rfl ?_ | refine aT tabOk rfl rfl (nb rfl) rfl ?_ | refine aN tabOk rfl rfl rfl (nb rfl) rfl rfl rfl rfl rfl rfl ?_ | refine aO tabOk rfl rfl rfl (nb rfl) rfl rfl rfl rfl ?_ | refine aK tabOk rfl rfl rfl rfl rfl rfl rfl rfl rfl rfl rfl ?_ | refine aP tabOk rfl rfl rfl (nb rfl) rfl rfl rfl rfl (by first | assumption | omega) ?_ | refine aH tabOk rfl rfl rfl (nb rfl) rfl rfl rfl rfl (by first | rfl | omega) (by first | omega | simp) ?_ | refine aB tabOk rfl rfl rfl (nb rfl) rfl rfl rfl (by assumption) ?_ | refine aB tabOk rfl rfl rfl (nb rfl) rfl rfl rfl (bM _ _ (by first | assumption | omega)) ?_ | refine aD rfl rfl rfl (nb rfl) rfl rfl (by omega) ?_ | ((fail_if_success (refine aE (b := true) rfl rfl rfl ?_)); (fail_if_success (refine aE (b := false) rfl rfl rfl ?_)); refine aQ rfl rfl rfl (fun hq => ?_) (fun hq => ?_) <;> first | subst hq | (first | (simp only [sD, sE, sB, sC, sN, sM, sT, sF] at hq; try (exfalso; omega)) | skip)) | fail) | (refine bQ ?_; first | refine bH ?_ | refine bN ?_ | refine aL ?_ | refine aX ?_ | refine bO ?_ | refine bF ?_ | refine bE ?_ | refine aA (b := true) rfl (fun _ => ?_) nTf | refine aA (b := false) rfl nFt (fun _ => ?_) | refine aY ?_ | refine aW ?_ | refine aU mixed (by kernel_rfl) ?_ | refine aC mixed (by kernel_rfl) ?_ | (refine aA rfl (fun hq => ?_) (fun hq => ?_) <;> first | subst hq | (first | (simp only [sD, sE, sB, sC, sN, sM, sT, sF] at hq; try (exfalso; omega)) | skip)) | fail) | (refine bK ?_; first | refine bT ?_ | refine aI ?_ | refine aM ?_ | fail) | (refine bA ?_; first | refine bP ?_ | refine aF ?_ | refine aG (by decide) ?_ | refine aJ ?_ | fail) | refine bL (aV (by kernel_rfl)) ?_ | fail)
         all_goals first
           | exact bZ (by first | exact .inl rfl | exact .inr rfl) (bU rfl (aS rfl)) rfl
           | (exfalso; omega)
           | (exfalso; simp_all [isCon1, labelP]; done)
           | (exfalso; simp only [List.length_cons] at *; omega))
    | true =>
      have hok0 := hok
      rw [okNamed] at hok
      simp only [Bool.and_eq_true] at hok
      obtain ⟨⟨⟨q1, q2⟩, q3⟩, q4⟩ := hok
      have q1 := beq_iff_eq.1 q1
      subst q1
      rw [q2] at hpl
      unfold labelP at q3
      simp only [Bool.and_eq_true, decide_eq_true_eq] at q3
      obtain ⟨q5, q6⟩ := q3
      have hcc : ∃ c, ks = [c] ∧ isConP c = true := by
        match ks, q4 with
        | [c], q4 => exact ⟨c, rfl, by simpa [isCon1] using q4⟩
      obtain ⟨c, rfl, hcp⟩ := hcc
      have hcc := hc c (by simp [Tree.size, Tree.sizes] at hsz ⊢; omega) (bY hwk (by simp))
      rw [hcp] at hcc
      have hn2 : ∀ q (hq : q < l.length), q < i + 1 → okNamed k1 l[q] = true := fun q hq h2 => by
        rcases Nat.lt_or_ge q i with h3 | h3
        · exact hn q hq h3
        · have e : q = i := by omega
          subst e
          rw [e1]; exact hok0
      repeat' (first | refine bG ?_ | (refine bJ ?_; first | refine aR tabOk rfl rfl rfl (nb rfl) rfl ?_ | refine aZ rfl rfl (nb rfl) ?_ | (refine bI rfl rfl rfl (nb rfl) rfl rfl rfl (fun hq => ?_) (fun hq => ?_) <;> (first | (simp only [sD, sE, sB, sC, sN, sM, sT, sF] at hq; try (exfalso; omega)) | skip))| refine aB tabOk rfl rfl rfl (nb rfl) rfl rfl rfl hiv ?_ | refine bS rfl rfl (nb rfl) rfl rfl rfl rfl (hpl) ?_ | refine bS rfl rfl (nb rfl) rfl rfl rfl rfl (hcc) ?_ | refine aD rfl rfl rfl (nb rfl) rfl rfl (by omega) ?_ | refine bC rfl rfl rfl (nb rfl) rfl rfl rfl (by omega) (by omega) ?_ | refine bD rfl rfl rfl (nb rfl) rfl rfl rfl (by omega) (by omega) ?_ | refine bB tabOk rfl rfl rfl (nb rfl) rfl rfl rfl rfl rfl rfl rfl rfl rfl ?_ | refine aT tabOk rfl rfl (nb rfl) rfl ?_ | refine aN tabOk rfl rfl rfl (nb rfl) rfl rfl rfl rfl rfl rfl ?_ | refine aO tabOk rfl rfl rfl (nb rfl) rfl rfl rfl rfl ?_ | refine aK tabOk rfl rfl rfl rfl rfl rfl rfl rfl rfl rfl rfl ?_ | refine aP tabOk rfl rfl rfl (nb rfl) rfl rfl rfl rfl (by first | assumption | omega) ?_ | refine aH tabOk rfl rfl rfl (nb rfl) rfl rfl rfl rfl (by first | rfl | omega) (by first | omega | simp) ?_ | refine aB tabOk rfl rfl rfl (nb rfl) rfl rfl rfl (by assumption) ?_ | refine aB tabOk rfl rfl rfl (nb rfl) rfl rfl rfl (bM _ _ (by first | assumption | omega)) ?_ | refine aD rfl rfl rfl (nb rfl) rfl rfl (by omega) ?_ | ((fail_if_success (refine aE (b := true) rfl rfl rfl ?_)); (fail_if_success (refine aE (b := false) rfl rfl rfl ?_)); refine aQ rfl rfl rfl (fun hq => ?_) (fun hq => ?_) <;> first | subst hq | (first | (simp only [sD, sE, sB, sC, sN, sM, sT, sF] at hq; try (exfalso; omega)) | skip)) | fail) | (refine bQ ?_; first | refine bH ?_ | refine bN ?_ | refine aL ?_ | refine aX ?_ | refine bO ?_ | refine bF ?_ | refine bE ?_ | refine aA (b := true) rfl (fun _ => ?_) nTf | refine aA (b := false) rfl nFt (fun _ => ?_) | refine aY ?_ | refine aW ?_ | refine aU mixed (by kernel_rfl) ?_ | refine aC mixed (by kernel_rfl) ?_ | (refine aA rfl (fun hq => ?_) (fun hq => ?_) <;> first | subst hq | (first | (simp only [sD, sE, sB, sC, sN, sM, sT, sF] at hq; try (exfalso; omega)) | skip)) | fail) | (refine bK ?_; first | refine bT ?_ | refine aI ?_ | refine aM ?_ | fail) | (refine bA ?_; first | refine bP ?_ | refine aF ?_ | refine aG (by decide) ?_ | refine aJ ?_ | fail) | refine bL (aV (by kernel_rfl)) ?_ | fail)
      all_goals first | exact absurd rfl (by assumption) | (exfalso; omega) | skip
      refine cJ (ι := {j : Nat // j ≤ i ∧ ∀ q (hq : q < j) (hqi : q < l.length), okPair rise l[q].name a1 = true}) (fun j => S.f ⟨[(9, .imm (.lit (.int .i64 (j.1 : Int)))), (8, .imm (Tree.iv (.node k1 n1 a1 b1 [c]))), (7, .imm (.lit (.int .i64 (i : Int)))), (0, .imm (.sl false l.length (Tree.ivs l))), (1, .imm (.lit (.int .i64 k1))), (2, .imm (.lit (.bool rise)))], []⟩) (fun j => i - j.1) ⟨0, Nat.zero_le _, fun q h h2 => by omega⟩ (cB (by repeat' first | exact trivial | refine ⟨rfl, ?_⟩) (by repeat' first | exact trivial | refine ⟨rfl, ?_⟩)) ?_
      rintro ⟨j, hj, hpj⟩
      dsimp only
      by_cases hji : j < i
      · obtain ⟨k2, n2, a2, b2, ks2, e2, hiv2, _⟩ := eB h (show j < l.length by omega)
        have hbp := @qS l k1 rise i j hji hil
        have en : l[i].name = a1 := by rw [e1]; rfl
        have en2 : (l[j]'(by omega)).name = a2 := by rw [e2]; rfl
        rw [en, en2] at hbp
        cases hop : okPair rise a2 a1 with
        | false =>
          rw [hbp hop]
          cases rise <;>
          (repeat' (first | refine bG ?_ | (refine bJ ?_; first | refine aR tabOk rfl rfl rfl (nb rfl) rfl ?_ | refine aZ rfl rfl (nb rfl) ?_ | (refine bI rfl rfl rfl (nb rfl) rfl rfl rfl (fun hq => ?_) (fun hq => ?_) <;> (first | (simp only [sD, sE, sB, sC, sN, sM, sT, sF] at hq; try (exfalso; omega)) | skip))| refine aB tabOk rfl rfl rfl (nb rfl) rfl rfl rfl hiv2 ?_ | refine aD rfl rfl rfl (nb rfl) rfl rfl (by omega) ?_ | refine bC rfl rfl rfl (nb rfl) rfl rfl rfl (by omega) (by omega) ?_ | refine bD rfl rfl rfl (nb rfl) rfl rfl rfl (by omega) (by omega) ?_ | refine bB tabOk rfl rfl rfl (nb rfl) rfl rfl rfl rfl rfl rfl rfl rfl rfl ?_ | refine aT tabOk rfl rfl (nb rfl) rfl ?_ | refine aN tabOk rfl rfl rfl (nb rfl) rfl rfl rfl rfl rfl rfl ?_ | refine aO tabOk rfl rfl rfl (nb rfl) rfl rfl rfl rfl ?_ | refine aK tabOk rfl rfl rfl rfl rfl rfl rfl rfl rfl rfl rfl ?_ | refine aP tabOk rfl rfl rfl (nb rfl) rfl rfl rfl rfl (by first | assumption | omega) ?_ | refine aH tabOk rfl rfl rfl (nb rfl) rfl rfl rfl rfl (by first | rfl | omega) (by first | omega | simp) ?_ | refine aB tabOk rfl rfl rfl (nb rfl) rfl rfl rfl (by assumption) ?_ | refine aB tabOk rfl rfl rfl (nb rfl) rfl rfl rfl (bM _ _ (by first | assumption | omega)) ?_ | refine aD rfl rfl rfl (nb rfl) rfl rfl (by omega) ?_ | ((fail_if_success (refine aE (b := true) rfl rfl rfl ?_)); (fail_if_success (refine aE (b := false) rfl rfl rfl ?_)); refine aQ rfl rfl rfl (fun hq => ?_) (fun hq => ?_) <;> first | subst hq | (first | (simp only [sD, sE, sB, sC, sN, sM, sT, sF] at hq; try (exfalso; omega)) | skip)) | fail) | (refine bQ ?_; first | refine bH ?_ | refine bN ?_ | refine aL ?_ | refine aX ?_ | refine bO ?_ | refine bF ?_ | refine bE ?_ | refine aA (b := true) rfl (fun _ => ?_) nTf | refine aA (b := false) rfl nFt (fun _ => ?_) | refine aY ?_ | refine aW ?_ | refine aU mixed (by kernel_rfl) ?_ | refine aC mixed (by kernel_rfl) ?_ | (refine aA rfl (fun hq => ?_) (fun hq => ?_) <;> first | subst hq | (first | (simp only [sD, sE, sB, sC, sN, sM, sT, sF] at hq; try (exfalso; omega)) | skip)) | fail) | (refine bK ?_; first | refine bT ?_ | refine aI ?_ | refine aM ?_ | fail) | (refine bA ?_; first | refine bP ?_ | refine aF ?_ | refine aG (by decide) ?_ | refine aJ ?_ | fail) | refine bL (aV (by kernel_rfl)) ?_ | fail)
           all_goals first
             | exact bZ (by first | exact .inl rfl | exact .inr rfl) (bU rfl (aS rfl)) rfl
             | (exfalso; omega)
             | (exfalso; simp_all [okPair, gtB, ltB, eqB]; done))
        | true =>
          have hpj2 : ∀ q (hq : q < j + 1) (hqi : q < l.length), okPair rise l[q].name a1 = true := fun q hq hqi => by
            rcases Nat.lt_or_ge q j with h3 | h3
            · exact hpj q h3 hqi
            · have e : q = j := by omega
              subst e
              rw [en2]; exact hop
          cases rise <;>
          (repeat' (first | refine bG ?_ | (refine bJ ?_; first | refine aR tabOk rfl rfl rfl (nb rfl) rfl ?_ | refine aZ rfl rfl (nb rfl) ?_ | (refine bI rfl rfl rfl (nb rfl) rfl rfl rfl (fun hq => ?_) (fun hq => ?_) <;> (first | (simp only [sD, sE, sB, sC, sN, sM, sT, sF] at hq; try (exfalso; omega)) | skip))| refine aB tabOk rfl rfl rfl (nb rfl) rfl rfl rfl hiv2 ?_ | refine aD rfl rfl rfl (nb rfl) rfl rfl (by omega) ?_ | refine bC rfl rfl rfl (nb rfl) rfl rfl rfl (by omega) (by omega) ?_ | refine bD rfl rfl rfl (nb rfl) rfl rfl rfl (by omega) (by omega) ?_ | refine bB tabOk rfl rfl rfl (nb rfl) rfl rfl rfl rfl rfl rfl rfl rfl rfl ?_ | refine aT tabOk rfl rfl (nb rfl) rfl ?_ | refine aN tabOk rfl rfl rfl (nb rfl) rfl rfl rfl rfl rfl rfl ?_ | refine aO tabOk rfl rfl rfl (nb rfl) rfl rfl rfl rfl ?_ | refine aK tabOk rfl rfl rfl rfl rfl rfl rfl rfl rfl rfl rfl ?_ | refine aP tabOk rfl rfl rfl (nb rfl) rfl rfl rfl rfl (by first | assumption | omega) ?_ | refine aH tabOk rfl rfl rfl (nb rfl) rfl rfl rfl rfl (by first | rfl | omega) (by first | omega | simp) ?_ | refine aB tabOk rfl rfl rfl (nb rfl) rfl rfl rfl (by assumption) ?_ | refine aB tabOk rfl rfl rfl (nb rfl) rfl rfl rfl (bM _ _ (by first | assumption | omega)) ?_ | refine aD rfl rfl rfl (nb rfl) rfl rfl (by omega) ?_ | ((fail_if_success (refine aE (b := true) rfl rfl rfl ?_)); (fail_if_success (refine aE (b := false) rfl rfl rfl ?_)); refine aQ rfl rfl rfl (fun hq => ?_) (fun hq => ?_) <;> first | subst hq | (first | (simp only [sD, sE, sB, sC, sN, sM, sT, sF] at hq; try (exfalso; omega)) | skip)) | fail) | (refine bQ ?_; first | refine bH ?_ | refine bN ?_ | refine aL ?_ | refine aX ?_ | refine bO ?_ | refine bF ?_ | refine bE ?_ | refine aA (b := true) rfl (fun _ => ?_) nTf | refine aA (b := false) rfl nFt (fun _ => ?_) | refine aY ?_ | refine aW ?_ | refine aU mixed (by kernel_rfl) ?_ | refine aC mixed (by kernel_rfl) ?_ | (refine aA rfl (fun hq => ?_) (fun hq => ?_) <;> first | subst hq | (first | (simp only [sD, sE, sB, sC, sN, sM, sT, sF] at hq; try (exfalso; omega)) | skip)) | fail) | (refine bK ?_; first | refine bT ?_ | refine aI ?_ | refine aM ?_ | fail) | (refine bA ?_; first | refine bP ?_ | refine aF ?_ | refine aG (by decide) ?_ | refine aJ ?_ | fail) | refine bL (aV (by kernel_rfl)) ?_ | fail)
           all_goals first
             | exact ⟨⟨j + 1, hji, hpj2⟩, (by show i - (j + 1) < i - j; omega), (cB (by repeat' first | exact trivial | refine ⟨rfl, ?_⟩) (by repeat' first | exact trivial | refine ⟨rfl, ?_⟩))⟩
             | (exfalso; omega)
             | (exfalso; simp_all [okPair, gtB, ltB, eqB]; done))
      · have ej : j = i := by omega
        subst ej
        have hp2 : ∀ j2 q (hjq : j2 < q) (hq : q < l.length), q < j + 1 → okPair rise (l[j2]'(by omega)).name l[q].name = true := fun j2 q hjq hq h2 => by
          rcases Nat.lt_or_ge q j with h3 | h3
          · exact hp j2 q hjq hq h3
          · have e : q = j := by omega
            subst e
            rw [e1]
            exact hpj j2 hjq (by omega)
        repeat' (first | refine bG ?_ | (refine bJ ?_; first | refine aR tabOk rfl rfl rfl (nb rfl) rfl ?_ | refine aZ rfl rfl (nb rfl) ?_ | (refine bI rfl rfl rfl (nb rfl) rfl rfl rfl (fun hq => ?_) (fun hq => ?_) <;> (first | (simp only [sD, sE, sB, sC, sN, sM, sT, sF] at hq; try (exfalso; omega)) | skip)) | refine aD rfl rfl rfl (nb rfl) rfl rfl (by omega) ?_ | refine bC rfl rfl rfl (nb rfl) rfl rfl rfl (by omega) (by omega) ?_ | refine bD rfl rfl rfl (nb rfl) rfl rfl rfl (by omega) (by omega) ?_ | refine bB tabOk rfl rfl rfl (nb rfl) rfl rfl rfl rfl rfl rfl rfl rfl rfl ?_ | refine aT tabOk rfl rfl (nb rfl) rfl ?_ | refine aN tabOk rfl rfl rfl (nb rfl) rfl rfl rfl rfl rfl rfl ?_ | refine aO tabOk rfl rfl rfl (nb rfl) rfl rfl rfl rfl ?_ | refine aK tabOk rfl rfl rfl rfl rfl rfl rfl rfl rfl rfl rfl ?_ | refine aP tabOk rfl rfl rfl (nb rfl) rfl rfl rfl rfl (by first | assumption | omega) ?_ | refine aH tabOk rfl rfl rfl (nb rfl) rfl rfl rfl rfl (by first | rfl | omega) (by first | omega | simp) ?_ | refine aB tabOk rfl rfl rfl (nb rfl) rfl rfl rfl (by assumption) ?_ | refine aB tabOk rfl rfl rfl (nb rfl) rfl rfl rfl (bM _ _ (by first | assumption | omega)) ?_ | refine aD rfl rfl rfl (nb rfl) rfl rfl (by omega) ?_ | ((fail_if_success (refine aE (b := true) rfl rfl rfl ?_)); (fail_if_success (refine aE (b := false) rfl rfl rfl ?_)); refine aQ rfl rfl rfl (fun hq => ?_) (fun hq => ?_) <;> first | subst hq | (first | (simp only [sD, sE, sB, sC, sN, sM, sT, sF] at hq; try (exfalso; omega)) | skip)) | fail) | (refine bQ ?_; first | refine bH ?_ | refine bN ?_ | refine aL ?_ | refine aX ?_ | refine bO ?_ | refine bF ?_ | refine bE ?_ | refine aA (b := true) rfl (fun _ => ?_) nTf | refine aA (b := false) rfl nFt (fun _ => ?_) | refine aY ?_ | refine aW ?_ | refine aU mixed (by kernel_rfl) ?_ | refine aC mixed (by kernel_rfl) ?_ | (refine aA rfl (fun hq => ?_) (fun hq => ?_) <;> first | subst hq | (first | (simp only [sD, sE, sB, sC, sN, sM, sT, sF] at hq; try (exfalso; omega)) | skip)) | fail) | (refine bK ?_; first | refine bT ?_ | refine aI ?_ | refine aM ?_ | fail) | (refine bA ?_; first | refine bP ?_ | refine aF ?_ | refine aG (by decide) ?_ | refine aJ ?_ | fail) | refine bL (aV (by kernel_rfl)) ?_ | fail)
        all_goals first
          | (exfalso; omega)
          | exact ⟨⟨j + 1, hil, hn2, hp2⟩, (by show l.length - (j + 1) < l.length - j; omega), (cB (by repeat' first | exact trivial | refine ⟨rfl, ?_⟩) (by repeat' first | exact trivial | refine ⟨rfl, ?_⟩))⟩
  · have ei : i = l.length := by omega
    subst ei
    have hT : labelsB l kind rise = true := (gQ l kind rise).2 ⟨fun q hq => hn q hq hq, fun j q hjq hq => hp j q hjq hq hq⟩
    rw [hT]
    repeat' (first | refine bG ?_ | (refine bJ ?_; first | refine aR tabOk rfl rfl rfl (nb rfl) rfl ?_ | refine aZ rfl rfl (nb rfl) ?_ | (refine bI rfl rfl rfl (nb rfl) rfl rfl rfl (fun hq => ?_) (fun hq => ?_) <;> (first | (simp only [sD, sE, sB, sC, sN, sM, sT, sF] at hq; try (exfalso; omega)) | skip)) | refine aD rfl rfl rfl (nb rfl) rfl rfl (by omega) ?_ | refine bC rfl rfl rfl (nb rfl) rfl rfl rfl (by omega) (by omega) ?_ | refine bD rfl rfl rfl (nb rfl) rfl rfl rfl (by omega) (by omega) ?_ | refine bB tabOk rfl rfl rfl (nb rfl) rfl rfl rfl rfl rfl rfl rfl rfl rfl ?_ | refine aT tabOk rfl rfl (nb rfl) rfl ?_ | refine aN tabOk rfl rfl rfl (nb rfl) rfl rfl rfl rfl rfl rfl ?_ | refine aO tabOk rfl rfl rfl (nb rfl) rfl rfl rfl rfl ?_ | refine aK tabOk rfl rfl rfl rfl rfl rfl rfl rfl rfl rfl rfl ?_ | refine aP tabOk rfl rfl rfl (nb rfl) rfl rfl rfl rfl (by first | assumption | omega) ?_ | refine aH tabOk rfl rfl rfl (nb rfl) rfl rfl rfl rfl (by first | rfl | omega) (by first | omega | simp) ?_ | refine aB tabOk rfl rfl rfl (nb rfl) rfl rfl rfl (by assumption) ?_ | refine aB tabOk rfl rfl rfl (nb rfl) rfl rfl rfl (bM _ _ (by first | assumption | omega)) ?_ | refine aD rfl rfl rfl (nb rfl) rfl rfl (by omega) ?_ | ((fail_if_success (refine aE (b := true) rfl rfl rfl ?_)); (fail_if_success (refine aE (b := false) rfl rfl rfl ?_)); refine aQ rfl rfl rfl (fun hq => ?_) (fun hq => ?_) <;> first | subst hq | (first | (simp only [sD, sE, sB, sC, sN, sM, sT, sF] at hq; try (exfalso; omega)) | skip)) | fail) | (refine bQ ?_; first | refine bH ?_ | refine bN ?_ | refine aL ?_ | refine aX ?_ | refine bO ?_ | refine bF ?_ | refine bE ?_ | refine aA (b := true) rfl (fun _ => ?_) nTf | refine aA (b := false) rfl nFt (fun _ => ?_) | refine aY ?_ | refine aW ?_ | refine aU mixed (by kernel_rfl) ?_ | refine aC mixed (by kernel_rfl) ?_ | (refine aA rfl (fun hq => ?_) (fun hq => ?_) <;> first | subst hq | (first | (simp only [sD, sE, sB, sC, sN, sM, sT, sF] at hq; try (exfalso; omega)) | skip)) | fail) | (refine bK ?_; first | refine bT ?_ | refine aI ?_ | refine aM ?_ | fail) | (refine bA ?_; first | refine bP ?_ | refine aF ?_ | refine aG (by decide) ?_ | refine aJ ?_ | fail) | refine bL (aV (by kernel_rfl)) ?_ | fail)
    all_goals first
      | exact bZ (by first | exact .inl rfl | exact .inr rfl) (bU rfl (aS rfl)) rfl
      | (exfalso; omega)
end Go.Proofs.Ytlbemgokilhdnaa.Ab
