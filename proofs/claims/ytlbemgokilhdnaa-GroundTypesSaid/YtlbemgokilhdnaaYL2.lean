/- Words, walks and laws under the claim's statement: what it uses of them. No condition of its own. -/
import Derived.Test.YtlbemgokilhdnaaYL1
import Derived.Test.YtlbemgokilhdnaaYL0
import Derived.Test.YtlbemgokilhdnaaYAb1
import Derived.Test.YtlbemgokilhdnaaYAb0
import Derived.Sort.Walk0
namespace Go.Proofs.Ytlbemgokilhdnaa.Ab
set_option linter.unusedVariables false
set_option linter.unusedSimpArgs false
attribute [local irreducible] AWP AOps AExit AThen ABlock ANoGoto FeetOk
def zipP (R : Tree → Tree → Bool) : List Tree → List Tree → Bool
  | [], [] => true
  | x :: xs, y :: ys => R x y && zipP R xs ys
  | _, _ => false
theorem rJ (R : Tree → Tree → Bool) : ∀ (l l' : List Tree), l.length ≠ l'.length → zipP R l l' = false
  | [], [], h => absurd rfl h
  | x :: xs, y :: ys, h => by rw [zipP, rJ R xs ys (by simpa using h), Bool.and_false]
  | [], _ :: _, _ => rfl
  | _ :: _, [], _ => rfl
theorem mR (R : Tree → Tree → Bool) : ∀ (l l' : List Tree), l.length = l'.length → (zipP R l l' = true ↔ ∀ i (hi : i < l.length) (hk : i < l'.length), R l[i] l'[i] = true)
  | [], [], _ => by simp [zipP]
  | [], _ :: _, h => by simp at h
  | _ :: _, [], h => by simp at h
  | x :: xs, y :: ys, h => by
    rw [zipP, Bool.and_eq_true, mR R xs ys (by simpa using h)]
    constructor
    · rintro ⟨h1, h2⟩ i hi hk
      cases i with
      | zero => exact h1
      | succ i => exact h2 i (by simpa using hi) (by simpa using hk)
    · intro h
      exact ⟨h 0 (by simp) (by simp), fun i hi hk => h (i + 1) (by simpa using hi) (by simpa using hk)⟩
set_option maxHeartbeats 4000000 in
set_option maxRecDepth 10000 in
theorem nW (l l' : List Tree) (f : FuncId) (R : Tree → Tree → Bool) (hl : l.length < 1000000000) (hl' : l'.length < 1000000000)
    (hf : ∀ i (hi : i < l.length) (hk : i < l'.length), ACalls Try.prog f [.imm l[i].iv, .imm l'[i].iv] [] (.imm (.lit (.bool (R l[i] l'[i])))) []) :
    ACalls Try.prog 63 [.imm (.sl false l.length (Tree.ivs l)), .imm (.sl false l'.length (Tree.ivs l')), .imm (.func f [] [])] [] (.imm (.lit (.bool (zipP R l l')))) [] := by
  refine bY Try.func63 rfl rfl (nb rfl) rfl ?_
  repeat' (first | refine bM ?_ | (refine bP ?_; first | refine aX tabOk rfl rfl rfl (nb rfl) rfl ?_ | refine bF rfl rfl (nb rfl) ?_ | (refine bO rfl rfl rfl (nb rfl) rfl rfl rfl (fun hq => ?_) (fun hq => ?_) <;> (first | (simp only [sD, sE, sB, sC, sN, sM, sT, sF] at hq; try (exfalso; omega)) | skip)) | refine aE rfl rfl rfl (nb rfl) rfl rfl (by omega) ?_ | refine bI rfl rfl rfl (nb rfl) rfl rfl rfl (by omega) (by omega) ?_ | refine bJ rfl rfl rfl (nb rfl) rfl rfl rfl (by omega) (by omega) ?_ | refine bH tabOk rfl rfl rfl (nb rfl) rfl rfl rfl rfl rfl rfl rfl rfl rfl ?_ | refine aZ tabOk rfl rfl (nb rfl) rfl ?_ | refine aU tabOk rfl rfl rfl (nb rfl) rfl rfl rfl rfl rfl rfl ?_ | refine aV tabOk rfl rfl rfl (nb rfl) rfl rfl rfl rfl ?_ | refine aN tabOk rfl rfl rfl rfl rfl rfl rfl rfl rfl rfl rfl ?_ | refine aR tabOk rfl rfl rfl (nb rfl) rfl rfl rfl rfl (by first | assumption | omega) ?_ | refine aJ tabOk rfl rfl rfl (nb rfl) rfl rfl rfl rfl (by first | rfl | omega) (by first | omega | simp) ?_ | refine aC tabOk rfl rfl rfl (nb rfl) rfl rfl rfl (by assumption) ?_ | refine aC tabOk rfl rfl rfl (nb rfl) rfl rfl rfl (bS _ _ (by first | assumption | omega)) ?_ | refine aE rfl rfl rfl (nb rfl) rfl rfl (by omega) ?_ | ((fail_if_success (refine aG (b := true) rfl rfl rfl ?_)); (fail_if_success (refine aG (b := false) rfl rfl rfl ?_)); refine aW rfl rfl rfl (fun hq => ?_) (fun hq => ?_) <;> first | subst hq | (first | (simp only [sD, sE, sB, sC, sN, sM, sT, sF] at hq; try (exfalso; omega)) | skip)) | fail) | (refine bW ?_; first | refine bN ?_ | refine bT ?_ | refine aQ ?_ | refine bD ?_ | refine bU ?_ | refine bL ?_ | refine bK ?_ | refine aA (b := true) rfl (fun _ => ?_) nTf | refine aA (b := false) rfl nFt (fun _ => ?_) | refine bE ?_ | refine bC ?_ | refine bA mixed (by kernel_rfl) ?_ | refine aD mixed (by kernel_rfl) ?_ | (refine aA rfl (fun hq => ?_) (fun hq => ?_) <;> first | subst hq | (first | (simp only [sD, sE, sB, sC, sN, sM, sT, sF] at hq; try (exfalso; omega)) | skip)) | fail) | (refine bQ ?_; first | refine bZ ?_ | refine aK ?_ | refine aT ?_ | fail) | (refine bG ?_; first | refine bV ?_ | refine aH ?_ | refine aI (by decide) ?_ | refine aM ?_ | fail) | refine bR (bB (by kernel_rfl)) ?_ | fail)
  · refine cA (by first | exact .inl rfl | exact .inr rfl) (cB rfl (aY rfl)) rfl ?_; exact cK (rJ R l l' (by omega)).symm
  · have hle : l.length = l'.length := by omega
    refine cH (ι := {j : Nat // j ≤ l.length ∧ ∀ i (hi : i < l.length) (hk : i < l'.length), i < j → R l[i] l'[i] = true}) (fun j => S.f ⟨[(17, .imm (.lit (.int .i64 (j.1 : Int)))), (16, .imm (.lit (.int .i64 (l.length : Int)))), (15, .imm (.sl false l.length (Tree.ivs l))), (1, .imm (.sl false l'.length (Tree.ivs l'))), (2, .imm (.func f [] []))], []⟩) (fun j => l.length - j.1) ⟨0, Nat.zero_le _, fun i _ _ hi => absurd hi (Nat.not_lt_zero _)⟩ (cF (by repeat' first | exact trivial | refine ⟨rfl, ?_⟩) (by repeat' first | exact trivial | refine ⟨rfl, ?_⟩)) ?_
    rintro ⟨j, hj, hok⟩
    dsimp only
    by_cases hlt : j < l.length
    · have hltk : j < l'.length := by omega
      repeat' (first | refine bM ?_ | (refine bP ?_; first | refine aX tabOk rfl rfl rfl (nb rfl) rfl ?_ | refine bF rfl rfl (nb rfl) ?_ | (refine bO rfl rfl rfl (nb rfl) rfl rfl rfl (fun hq => ?_) (fun hq => ?_) <;> (first | (simp only [sD, sE, sB, sC, sN, sM, sT, sF] at hq; try (exfalso; omega)) | skip))| (refine cE rfl rfl rfl (nb rfl) rfl rfl rfl (hf j hlt hltk) (fun hq => ?_) (fun hq => ?_)) | refine aE rfl rfl rfl (nb rfl) rfl rfl (by omega) ?_ | refine bI rfl rfl rfl (nb rfl) rfl rfl rfl (by omega) (by omega) ?_ | refine bJ rfl rfl rfl (nb rfl) rfl rfl rfl (by omega) (by omega) ?_ | refine bH tabOk rfl rfl rfl (nb rfl) rfl rfl rfl rfl rfl rfl rfl rfl rfl ?_ | refine aZ tabOk rfl rfl (nb rfl) rfl ?_ | refine aU tabOk rfl rfl rfl (nb rfl) rfl rfl rfl rfl rfl rfl ?_ | refine aV tabOk rfl rfl rfl (nb rfl) rfl rfl rfl rfl ?_ | refine aN tabOk rfl rfl rfl rfl rfl rfl rfl rfl rfl rfl rfl ?_ | refine aR tabOk rfl rfl rfl (nb rfl) rfl rfl rfl rfl (by first | assumption | omega) ?_ | refine aJ tabOk rfl rfl rfl (nb rfl) rfl rfl rfl rfl (by first | rfl | omega) (by first | omega | simp) ?_ | refine aC tabOk rfl rfl rfl (nb rfl) rfl rfl rfl (by assumption) ?_ | refine aC tabOk rfl rfl rfl (nb rfl) rfl rfl rfl (bS _ _ (by first | assumption | omega)) ?_ | refine aE rfl rfl rfl (nb rfl) rfl rfl (by omega) ?_ | ((fail_if_success (refine aG (b := true) rfl rfl rfl ?_)); (fail_if_success (refine aG (b := false) rfl rfl rfl ?_)); refine aW rfl rfl rfl (fun hq => ?_) (fun hq => ?_) <;> first | subst hq | (first | (simp only [sD, sE, sB, sC, sN, sM, sT, sF] at hq; try (exfalso; omega)) | skip)) | fail) | (refine bW ?_; first | refine bN ?_ | refine bT ?_ | refine aQ ?_ | refine bD ?_ | refine bU ?_ | refine bL ?_ | refine bK ?_ | refine aA (b := true) rfl (fun _ => ?_) nTf | refine aA (b := false) rfl nFt (fun _ => ?_) | refine bE ?_ | refine bC ?_ | refine bA mixed (by kernel_rfl) ?_ | refine aD mixed (by kernel_rfl) ?_ | (refine aA rfl (fun hq => ?_) (fun hq => ?_) <;> first | subst hq | (first | (simp only [sD, sE, sB, sC, sN, sM, sT, sF] at hq; try (exfalso; omega)) | skip)) | fail) | (refine bQ ?_; first | refine bZ ?_ | refine aK ?_ | refine aT ?_ | fail) | (refine bG ?_; first | refine bV ?_ | refine aH ?_ | refine aI (by decide) ?_ | refine aM ?_ | fail) | refine bR (bB (by kernel_rfl)) ?_ | fail)
      all_goals first
        | (have hq : R l[j] l'[j] = false := by assumption
           refine cA (by first | exact .inl rfl | exact .inr rfl) (cB rfl (aY rfl)) rfl ?_; refine cK ?_; symm; rw [Bool.eq_false_iff]; intro hc
           have := (mR R l l' hle).1 hc j hlt hltk
           rw [hq] at this; cases this; done)
        | (have hq : R l[j] l'[j] = true := by assumption
           exact ⟨⟨j + 1, hlt, fun i hi hk hij => by
             by_cases e : i = j
             · subst e; exact hq
             · exact hok i hi hk (by omega)⟩, (by show l.length - (j + 1) < l.length - j; omega), (cF (by repeat' first | exact trivial | refine ⟨rfl, ?_⟩) (by repeat' first | exact trivial | refine ⟨rfl, ?_⟩))⟩)
    · repeat' (first | refine bM ?_ | (refine bP ?_; first | refine aX tabOk rfl rfl rfl (nb rfl) rfl ?_ | refine bF rfl rfl (nb rfl) ?_ | (refine bO rfl rfl rfl (nb rfl) rfl rfl rfl (fun hq => ?_) (fun hq => ?_) <;> (first | (simp only [sD, sE, sB, sC, sN, sM, sT, sF] at hq; try (exfalso; omega)) | skip)) | refine aE rfl rfl rfl (nb rfl) rfl rfl (by omega) ?_ | refine bI rfl rfl rfl (nb rfl) rfl rfl rfl (by omega) (by omega) ?_ | refine bJ rfl rfl rfl (nb rfl) rfl rfl rfl (by omega) (by omega) ?_ | refine bH tabOk rfl rfl rfl (nb rfl) rfl rfl rfl rfl rfl rfl rfl rfl rfl ?_ | refine aZ tabOk rfl rfl (nb rfl) rfl ?_ | refine aU tabOk rfl rfl rfl (nb rfl) rfl rfl rfl rfl rfl rfl ?_ | refine aV tabOk rfl rfl rfl (nb rfl) rfl rfl rfl rfl ?_ | refine aN tabOk rfl rfl rfl rfl rfl rfl rfl rfl rfl rfl rfl ?_ | refine aR tabOk rfl rfl rfl (nb rfl) rfl rfl rfl rfl (by first | assumption | omega) ?_ | refine aJ tabOk rfl rfl rfl (nb rfl) rfl rfl rfl rfl (by first | rfl | omega) (by first | omega | simp) ?_ | refine aC tabOk rfl rfl rfl (nb rfl) rfl rfl rfl (by assumption) ?_ | refine aC tabOk rfl rfl rfl (nb rfl) rfl rfl rfl (bS _ _ (by first | assumption | omega)) ?_ | refine aE rfl rfl rfl (nb rfl) rfl rfl (by omega) ?_ | ((fail_if_success (refine aG (b := true) rfl rfl rfl ?_)); (fail_if_success (refine aG (b := false) rfl rfl rfl ?_)); refine aW rfl rfl rfl (fun hq => ?_) (fun hq => ?_) <;> first | subst hq | (first | (simp only [sD, sE, sB, sC, sN, sM, sT, sF] at hq; try (exfalso; omega)) | skip)) | fail) | (refine bW ?_; first | refine bN ?_ | refine bT ?_ | refine aQ ?_ | refine bD ?_ | refine bU ?_ | refine bL ?_ | refine bK ?_ | refine aA (b := true) rfl (fun _ => ?_) nTf | refine aA (b := false) rfl nFt (fun _ => ?_) | refine bE ?_ | refine bC ?_ | refine bA mixed (by kernel_rfl) ?_ | refine aD mixed (by kernel_rfl) ?_ | (refine aA rfl (fun hq => ?_) (fun hq => ?_) <;> first | subst hq | (first | (simp only [sD, sE, sB, sC, sN, sM, sT, sF] at hq; try (exfalso; omega)) | skip)) | fail) | (refine bQ ?_; first | refine bZ ?_ | refine aK ?_ | refine aT ?_ | fail) | (refine bG ?_; first | refine bV ?_ | refine aH ?_ | refine aI (by decide) ?_ | refine aM ?_ | fail) | refine bR (bB (by kernel_rfl)) ?_ | fail)
      all_goals (refine cA (by first | exact .inl rfl | exact .inr rfl) (cB rfl (aY rfl)) rfl ?_; refine cK ?_; symm; rw [mR R l l' hle]; exact fun i hi hk => hok i hi hk (by omega))
end Go.Proofs.Ytlbemgokilhdnaa.Ab
namespace Go.Proofs.Ytlbemgokilhdnaa.Ab
set_option linter.unusedVariables false
set_option linter.unusedSimpArgs false
attribute [local irreducible] AWP AOps AExit AThen ABlock ANoGoto FeetOk
mutual
/-- A ground value, by its kinds and as many kids as are looked at. -/
def valP : Tree → Bool
  | .nil => false
  | .node k n a b kids => if k = 131 ∨ k = 132 ∨ k = 133 then kids.isEmpty else if k = 146 then val2 kids else if k = 136 then valKs kids else false
def val2 : List Tree → Bool
  | [x, y] => valP y
  | _ => false
def valKs : List Tree → Bool
  | [] => true
  | t :: ts => valK t && valKs ts
def valK : Tree → Bool
  | .nil => false
  | .node k n a b ks => val1 ks
def val1 : List Tree → Bool
  | [c] => valP c
  | _ => false
end
theorem oS (l : List Tree) : valKs l = l.all valK := by
  induction l with
  | nil => simp [valKs]
  | cons t ts ih => simp [valKs, ih]
theorem rK {l : List Tree} (h : val1 l = true) : ∃ c, l = [c] ∧ valP c = true := by
  match l, h with
  | [c], h => exact ⟨c, rfl, by simpa [val1] using h⟩
theorem rL {l : List Tree} (h : val2 l = true) : ∃ x y, l = [x, y] ∧ valP y = true := by
  match l, h with
  | [x, y], h => exact ⟨x, y, rfl, by simpa [val2] using h⟩
mutual
def likeP : Tree → Tree → Bool
  | .node k n a _ ks, .node k' n' a' _ ks' => (k == k' && n == n' && eqB a a') && (if k = 146 then like2 ks ks' else likeKs ks ks')
  | _, _ => false
def like2 : List Tree → List Tree → Bool
  | [_, y], [_, y'] => likeP y y'
  | _, _ => false
def likeKs : List Tree → List Tree → Bool
  | [], [] => true
  | t :: ts, u :: us => likeK t u && likeKs ts us
  | _, _ => false
def likeK : Tree → Tree → Bool
  | .node _ _ a _ ks, .node _ _ a' _ ks' => eqB a a' && like1 ks ks'
  | _, _ => false
def like1 : List Tree → List Tree → Bool
  | [c], [c'] => likeP c c'
  | _, _ => false
end
theorem mS : ∀ l l' : List Tree, likeKs l l' = zipP likeK l l'
  | [], [] => by simp [likeKs, zipP]
  | t :: ts, u :: us => by simp [likeKs, zipP, mS ts us]
  | [], _ :: _ => by simp [likeKs, zipP]
  | _ :: _, [] => by simp [likeKs, zipP]
set_option maxHeartbeats 4000000 in
set_option maxRecDepth 10000 in
theorem wK (k n k' n' : Int) (a b a' b' : ByteArray) (c c' : Tree)
    (h : ACalls Try.prog 32 [.imm c.iv, .imm c'.iv] [] (.imm (.lit (.bool (likeP c c')))) []) :
    ACalls Try.prog 64 [.imm (Tree.iv (.node k n a b [c])), .imm (Tree.iv (.node k' n' a' b' [c']))] [] (.imm (.lit (.bool (likeK (.node k n a b [c]) (.node k' n' a' b' [c']))))) [] := by
  refine bY Try.func64 rfl rfl (nb rfl) rfl ?_
  repeat' (first | refine bM ?_ | (refine bP ?_; first | refine aX tabOk rfl rfl rfl (nb rfl) rfl ?_ | refine bF rfl rfl (nb rfl) ?_ | (refine bO rfl rfl rfl (nb rfl) rfl rfl rfl (fun hq => ?_) (fun hq => ?_) <;> (first | (simp only [sD, sE, sB, sC, sN, sM, sT, sF] at hq; try (exfalso; omega)) | skip))| (refine cE rfl rfl rfl (nb rfl) rfl rfl rfl (h) (fun hq => ?_) (fun hq => ?_)) | refine aE rfl rfl rfl (nb rfl) rfl rfl (by omega) ?_ | refine bI rfl rfl rfl (nb rfl) rfl rfl rfl (by omega) (by omega) ?_ | refine bJ rfl rfl rfl (nb rfl) rfl rfl rfl (by omega) (by omega) ?_ | refine bH tabOk rfl rfl rfl (nb rfl) rfl rfl rfl rfl rfl rfl rfl rfl rfl ?_ | refine aZ tabOk rfl rfl (nb rfl) rfl ?_ | refine aU tabOk rfl rfl rfl (nb rfl) rfl rfl rfl rfl rfl rfl ?_ | refine aV tabOk rfl rfl rfl (nb rfl) rfl rfl rfl rfl ?_ | refine aN tabOk rfl rfl rfl rfl rfl rfl rfl rfl rfl rfl rfl ?_ | refine aR tabOk rfl rfl rfl (nb rfl) rfl rfl rfl rfl (by first | assumption | omega) ?_ | refine aJ tabOk rfl rfl rfl (nb rfl) rfl rfl rfl rfl (by first | rfl | omega) (by first | omega | simp) ?_ | refine aC tabOk rfl rfl rfl (nb rfl) rfl rfl rfl (by assumption) ?_ | refine aC tabOk rfl rfl rfl (nb rfl) rfl rfl rfl (bS _ _ (by first | assumption | omega)) ?_ | refine aE rfl rfl rfl (nb rfl) rfl rfl (by omega) ?_ | ((fail_if_success (refine aG (b := true) rfl rfl rfl ?_)); (fail_if_success (refine aG (b := false) rfl rfl rfl ?_)); refine aW rfl rfl rfl (fun hq => ?_) (fun hq => ?_) <;> first | subst hq | (first | (simp only [sD, sE, sB, sC, sN, sM, sT, sF] at hq; try (exfalso; omega)) | skip)) | fail) | (refine bW ?_; first | refine bN ?_ | refine bT ?_ | refine aQ ?_ | refine bD ?_ | refine bU ?_ | refine bL ?_ | refine bK ?_ | refine aA (b := true) rfl (fun _ => ?_) nTf | refine aA (b := false) rfl nFt (fun _ => ?_) | refine bE ?_ | refine bC ?_ | refine bA mixed (by kernel_rfl) ?_ | refine aD mixed (by kernel_rfl) ?_ | (refine aA rfl (fun hq => ?_) (fun hq => ?_) <;> first | subst hq | (first | (simp only [sD, sE, sB, sC, sN, sM, sT, sF] at hq; try (exfalso; omega)) | skip)) | fail) | (refine bQ ?_; first | refine bZ ?_ | refine aK ?_ | refine aT ?_ | fail) | (refine bG ?_; first | refine bV ?_ | refine aH ?_ | refine aI (by decide) ?_ | refine aM ?_ | fail) | refine bR (bB (by kernel_rfl)) ?_ | fail)
  all_goals (refine cA (by first | exact .inl rfl | exact .inr rfl) (cB rfl (aY rfl)) rfl ?_; refine cK ?_; simp_all [likeK, like1, eqB])
set_option maxHeartbeats 4000000 in
set_option maxRecDepth 10000 in
theorem yG (t : Tree) : ∀ u : Tree, valP t = true → valP u = true → t.whole = true → u.whole = true → t.size ≤ 1000000 → u.size ≤ 1000000 →
    ACalls Try.prog 32 [.imm t.iv, .imm u.iv] [] (.imm (.lit (.bool (likeP t u)))) [] := by
  induction t using Tree.sind with
  | h t ih =>
    intro u hvt hvu hwt hwu hst hsu
    obtain ⟨k, n, a, b, ks, rfl⟩ := cZ hwt
    obtain ⟨k', n', a', b', ks', rfl⟩ := cZ hwu
    have hl : ks.length < 1000000000 := by have := cI ks hwt; simp only [Tree.size] at hst; omega
    have hl' : ks'.length < 1000000000 := by have := cI ks' hwu; simp only [Tree.size] at hsu; omega
    by_cases h146 : k = 146 ∧ k' = 146
    · obtain ⟨rfl, rfl⟩ := h146
      have v1 : val2 ks = true := by simpa [valP] using hvt
      have v2 : val2 ks' = true := by simpa [valP] using hvu
      obtain ⟨x, y, rfl, hy⟩ := rL v1
      obtain ⟨x', y', rfl, hy'⟩ := rL v2
      have s1 := cG (k := 146) (n := n) (a := a) (b := b) (kids := [x, y]) (t := y) (by simp)
      have s2 := cG (k := 146) (n := n') (a := a') (b := b') (kids := [x', y']) (t := y') (by simp)
      have hr := ih y s1 y' hy hy' (cD hwt (by simp)) (cD hwu (by simp)) (by omega) (by omega)
      refine bY Try.func32 rfl rfl (nb rfl) rfl ?_
      repeat' (first | refine bM ?_ | (refine bP ?_; first | refine aX tabOk rfl rfl rfl (nb rfl) rfl ?_ | refine bF rfl rfl (nb rfl) ?_ | (refine bO rfl rfl rfl (nb rfl) rfl rfl rfl (fun hq => ?_) (fun hq => ?_) <;> (first | (simp only [sD, sE, sB, sC, sN, sM, sT, sF] at hq; try (exfalso; omega)) | skip))| (refine cE rfl rfl rfl (nb rfl) rfl rfl rfl (hr) (fun hq => ?_) (fun hq => ?_)) | refine aE rfl rfl rfl (nb rfl) rfl rfl (by omega) ?_ | refine bI rfl rfl rfl (nb rfl) rfl rfl rfl (by omega) (by omega) ?_ | refine bJ rfl rfl rfl (nb rfl) rfl rfl rfl (by omega) (by omega) ?_ | refine bH tabOk rfl rfl rfl (nb rfl) rfl rfl rfl rfl rfl rfl rfl rfl rfl ?_ | refine aZ tabOk rfl rfl (nb rfl) rfl ?_ | refine aU tabOk rfl rfl rfl (nb rfl) rfl rfl rfl rfl rfl rfl ?_ | refine aV tabOk rfl rfl rfl (nb rfl) rfl rfl rfl rfl ?_ | refine aN tabOk rfl rfl rfl rfl rfl rfl rfl rfl rfl rfl rfl ?_ | refine aR tabOk rfl rfl rfl (nb rfl) rfl rfl rfl rfl (by first | assumption | omega) ?_ | refine aJ tabOk rfl rfl rfl (nb rfl) rfl rfl rfl rfl (by first | rfl | omega) (by first | omega | simp) ?_ | refine aC tabOk rfl rfl rfl (nb rfl) rfl rfl rfl (by assumption) ?_ | refine aC tabOk rfl rfl rfl (nb rfl) rfl rfl rfl (bS _ _ (by first | assumption | omega)) ?_ | refine aE rfl rfl rfl (nb rfl) rfl rfl (by omega) ?_ | ((fail_if_success (refine aG (b := true) rfl rfl rfl ?_)); (fail_if_success (refine aG (b := false) rfl rfl rfl ?_)); refine aW rfl rfl rfl (fun hq => ?_) (fun hq => ?_) <;> first | subst hq | (first | (simp only [sD, sE, sB, sC, sN, sM, sT, sF] at hq; try (exfalso; omega)) | skip)) | fail) | (refine bW ?_; first | refine bN ?_ | refine bT ?_ | refine aQ ?_ | refine bD ?_ | refine bU ?_ | refine bL ?_ | refine bK ?_ | refine aA (b := true) rfl (fun _ => ?_) nTf | refine aA (b := false) rfl nFt (fun _ => ?_) | refine bE ?_ | refine bC ?_ | refine bA mixed (by kernel_rfl) ?_ | refine aD mixed (by kernel_rfl) ?_ | (refine aA rfl (fun hq => ?_) (fun hq => ?_) <;> first | subst hq | (first | (simp only [sD, sE, sB, sC, sN, sM, sT, sF] at hq; try (exfalso; omega)) | skip)) | fail) | (refine bQ ?_; first | refine bZ ?_ | refine aK ?_ | refine aT ?_ | fail) | (refine bG ?_; first | refine bV ?_ | refine aH ?_ | refine aI (by decide) ?_ | refine aM ?_ | fail) | refine bR (bB (by kernel_rfl)) ?_ | fail)
      all_goals (refine cA (by first | exact .inl rfl | exact .inr rfl) (cB rfl (aY rfl)) rfl ?_; refine cK ?_; simp_all [likeP, like2, eqB])
    · have hf : (k = k' ∧ k ≠ 146) → ∀ i (hi : i < ks.length) (hk : i < ks'.length), ACalls Try.prog 64 [.imm ks[i].iv, .imm ks'[i].iv] [] (.imm (.lit (.bool (likeK ks[i] ks'[i])))) [] := by
        rintro ⟨rfl, hk6⟩ i hi hi'
        obtain ⟨k1, n1, a1, b1, q1, e1, _, w1⟩ := gI hwt hi
        obtain ⟨k2, n2, a2, b2, q2, e2, _, w2⟩ := gI hwu hi'
        have hne : ¬ (k = 131 ∨ k = 132 ∨ k = 133) := fun hc => by
          simp only [valP, if_pos hc, List.isEmpty_iff] at hvt
          subst hvt
          simp at hi
        have h136 : k = 136 := by
          by_cases h : k = 136
          · exact h
          · simp [valP, hne, hk6, h] at hvt
        have v1 : valKs ks = true := by simpa [valP, h136] using hvt
        have v2 : valKs ks' = true := by simpa [valP, h136] using hvu
        rw [oS, List.all_eq_true] at v1 v2
        have u1 := v1 _ (List.getElem_mem hi)
        have u2 := v2 _ (List.getElem_mem hi')
        rw [e1] at u1
        rw [e2] at u2
        obtain ⟨c1, rfl, hc1⟩ := rK (by simpa [valK] using u1)
        obtain ⟨c2, rfl, hc2⟩ := rK (by simpa [valK] using u2)
        have s1 := cG (k := k) (n := n) (a := a) (b := b) (List.getElem_mem hi)
        have s2 := cG (k := k) (n := n') (a := a') (b := b') (List.getElem_mem hi')
        rw [e1] at s1
        rw [e2] at s2
        have s3 := cG (k := k1) (n := n1) (a := a1) (b := b1) (kids := [c1]) (t := c1) (by simp)
        have s4 := cG (k := k2) (n := n2) (a := a2) (b := b2) (kids := [c2]) (t := c2) (by simp)
        rw [e1, e2]
        exact wK _ _ _ _ _ _ _ _ c1 c2 (ih c1 (by omega) c2 hc1 hc2 (cD w1 (by simp)) (cD w2 (by simp)) (by omega) (by omega))
      refine bY Try.func32 rfl rfl (nb rfl) rfl ?_
      repeat' (first | refine bM ?_ | (refine bP ?_; first | refine aX tabOk rfl rfl rfl (nb rfl) rfl ?_ | refine bF rfl rfl (nb rfl) ?_ | (refine bO rfl rfl rfl (nb rfl) rfl rfl rfl (fun hq => ?_) (fun hq => ?_) <;> (first | (simp only [sD, sE, sB, sC, sN, sM, sT, sF] at hq; try (exfalso; omega)) | skip))| (refine cE rfl rfl rfl (nb rfl) rfl rfl rfl (nW ks ks' _ likeK hl hl' (hf ⟨by assumption, by assumption⟩)) (fun hq => ?_) (fun hq => ?_)) | refine aE rfl rfl rfl (nb rfl) rfl rfl (by omega) ?_ | refine bI rfl rfl rfl (nb rfl) rfl rfl rfl (by omega) (by omega) ?_ | refine bJ rfl rfl rfl (nb rfl) rfl rfl rfl (by omega) (by omega) ?_ | refine bH tabOk rfl rfl rfl (nb rfl) rfl rfl rfl rfl rfl rfl rfl rfl rfl ?_ | refine aZ tabOk rfl rfl (nb rfl) rfl ?_ | refine aU tabOk rfl rfl rfl (nb rfl) rfl rfl rfl rfl rfl rfl ?_ | refine aV tabOk rfl rfl rfl (nb rfl) rfl rfl rfl rfl ?_ | refine aN tabOk rfl rfl rfl rfl rfl rfl rfl rfl rfl rfl rfl ?_ | refine aR tabOk rfl rfl rfl (nb rfl) rfl rfl rfl rfl (by first | assumption | omega) ?_ | refine aJ tabOk rfl rfl rfl (nb rfl) rfl rfl rfl rfl (by first | rfl | omega) (by first | omega | simp) ?_ | refine aC tabOk rfl rfl rfl (nb rfl) rfl rfl rfl (by assumption) ?_ | refine aC tabOk rfl rfl rfl (nb rfl) rfl rfl rfl (bS _ _ (by first | assumption | omega)) ?_ | refine aE rfl rfl rfl (nb rfl) rfl rfl (by omega) ?_ | ((fail_if_success (refine aG (b := true) rfl rfl rfl ?_)); (fail_if_success (refine aG (b := false) rfl rfl rfl ?_)); refine aW rfl rfl rfl (fun hq => ?_) (fun hq => ?_) <;> first | subst hq | (first | (simp only [sD, sE, sB, sC, sN, sM, sT, sF] at hq; try (exfalso; omega)) | skip)) | fail) | (refine bW ?_; first | refine bN ?_ | refine bT ?_ | refine aQ ?_ | refine bD ?_ | refine bU ?_ | refine bL ?_ | refine bK ?_ | refine aA (b := true) rfl (fun _ => ?_) nTf | refine aA (b := false) rfl nFt (fun _ => ?_) | refine bE ?_ | refine bC ?_ | refine bA mixed (by kernel_rfl) ?_ | refine aD mixed (by kernel_rfl) ?_ | (refine aA rfl (fun hq => ?_) (fun hq => ?_) <;> first | subst hq | (first | (simp only [sD, sE, sB, sC, sN, sM, sT, sF] at hq; try (exfalso; omega)) | skip)) | fail) | (refine bQ ?_; first | refine bZ ?_ | refine aK ?_ | refine aT ?_ | fail) | (refine bG ?_; first | refine bV ?_ | refine aH ?_ | refine aI (by decide) ?_ | refine aM ?_ | fail) | refine bR (bB (by kernel_rfl)) ?_ | fail)
      all_goals (refine cA (by first | exact .inl rfl | exact .inr rfl) (cB rfl (aY rfl)) rfl ?_; refine cK ?_; simp_all [likeP, mS, eqB])
end Go.Proofs.Ytlbemgokilhdnaa.Ab
namespace Go.Proofs.Ytlbemgokilhdnaa.Ab
set_option linter.unusedVariables false
set_option linter.unusedSimpArgs false
open Go.RowKit
attribute [local irreducible] AWP AOps AExit AThen ABlock ANoGoto FeetOk
structure CellD where
  f : Bool
  k : Int
  n : Int
  a : ByteArray
  b : ByteArray
  kids : List Int
def intIVs (l : List Int) : List IV := l.map fun x => .lit (.int .i64 x)
def cellIV (c : CellD) : List IV := [.lit (.int .i64 c.k), .lit (.int .i64 c.n), .lit (.string c.a), .lit (.string c.b), .sl c.f c.kids.length (intIVs c.kids)]
def cellIVs : List CellD → List IV
  | [] => []
  | c :: l => cellIV c ++ cellIVs l
theorem mT (l : List Int) (j : Nat) (h : j < l.length) : (intIVs l)[j * 1]? = some (.lit (.int .i64 l[j])) := by unfold intIVs; simp [h]
theorem tT (l : List Int) : (intIVs l).length = l.length := by unfold intIVs; simp
theorem kW : ∀ l m : List CellD, cellIVs (l ++ m) = cellIVs l ++ cellIVs m
  | [], m => rfl
  | c :: l, m => by rw [List.cons_append, cellIVs, cellIVs, kW l m, List.append_assoc]
theorem fM : ∀ (l : List CellD) (j : Nat) (h : j < l.length), ((cellIVs l).drop (j * 5)).take 5 = cellIV l[j]
  | c :: l, 0, h => by rw [Nat.zero_mul, List.drop_zero, cellIVs, List.take_append_of_le_length (by simp [cellIV])]; rfl
  | c :: l, j + 1, h => by
    have e : (j + 1) * 5 = 5 + j * 5 := by omega
    have e5 : (cellIV c).length = 5 := rfl
    rw [e, ← List.drop_drop, cellIVs]
    conv => lhs; rw [← e5, List.drop_left]
    rw [e5, fM l j (by simpa using h)]
    rfl
theorem tU (l : List CellD) (j i : Nat) (h : j < l.length) (hi : i < 5) : (cellIVs l)[j * 5 + i]? = (cellIV l[j])[i]? := by
  rw [← fM l j h, List.getElem?_take, if_pos hi, List.getElem?_drop]
/-- The tree at a cell. -/
def growT (l : List CellD) : Nat → Nat → Tree
  | 0, _ => .nil
  | f + 1, i => match l[i]? with
    | none => .nil
    | some c => .node c.k c.n c.a c.b (c.kids.map fun x => growT l f x.toNat)
def below (l : List CellD) : Prop := ∀ i (h : i < l.length), ∀ x ∈ l[i].kids, 0 ≤ x ∧ x < (i : Int)
theorem wL (l : List CellD) (f i : Nat) (h : i < f) (hi : i < l.length) : ∃ cs, (growT l f i).iv = .ptr cs 0 := by
  cases f with
  | zero => omega
  | succ f => rw [growT, List.getElem?_eq_getElem hi]; exact ⟨_, rfl⟩
theorem rM (l : List Tree) (t : Tree) : Tree.ivs (l ++ [t]) = Tree.ivs l ++ [t.iv] := by rw [dK, dK, List.map_append]; rfl
set_option maxHeartbeats 16000000 in
set_option maxRecDepth 10000 in
theorem aAl (l : List CellD) (hb : below l) (hlen : l.length ≤ 8192) (hk : ∀ c ∈ l, c.kids.length ≤ 8192) : ∀ (f i : Nat), i < f → i < l.length →
    ACalls Try.prog 55 [.imm (.agg [.sl false l.length (cellIVs l)]), .imm (.lit (.int .i64 (i : Int)))] [] (.imm (growT l f i).iv) [] := by
  intro f
  induction f with
  | zero => intro i h; omega
  | succ f ih =>
    intro i hif hil
    have hT : growT l (f + 1) i = .node l[i].k l[i].n l[i].a l[i].b (l[i].kids.map fun x => growT l f x.toNat) := by
      rw [growT, List.getElem?_eq_getElem hil]
    rw [hT]
    have hrow := fM l i hil
    have hbi := hb i hil
    have hki := hk l[i] (List.getElem_mem hil)
    generalize hc : l[i] = c at *
    change _ = [IV.lit (.int .i64 c.k), .lit (.int .i64 c.n), .lit (.string c.a), .lit (.string c.b), .sl c.f c.kids.length (intIVs c.kids)] at hrow
    refine cS Try.func55 rfl rfl (nb rfl) rfl ?_
    repeat' (first | refine bM ?_ | (refine bP ?_; first | refine aX tabOk rfl rfl rfl (nb rfl) rfl ?_ | refine bF rfl rfl (nb rfl) ?_ | (refine bO rfl rfl rfl (nb rfl) rfl rfl rfl (fun hq => ?_) (fun hq => ?_) <;> (first | (simp only [sD, sE, sB, sC, sN, sM, sT, sF] at hq; try (exfalso; omega)) | skip))| refine jH tabOk rfl rfl rfl (nb rfl) rfl rfl rfl hrow rfl ?_ | refine dG tabOk rfl rfl rfl (nb rfl) rfl rfl rfl rfl rfl ?_ | refine oI (t := 38) rfl rfl rfl (nb rfl) rfl rfl rfl rfl rfl rfl rfl ?_ | refine aE rfl rfl rfl (nb rfl) rfl rfl (by omega) ?_ | refine bI rfl rfl rfl (nb rfl) rfl rfl rfl (by omega) (by omega) ?_ | refine bJ rfl rfl rfl (nb rfl) rfl rfl rfl (by omega) (by omega) ?_ | refine bH tabOk rfl rfl rfl (nb rfl) rfl rfl rfl rfl rfl rfl rfl rfl rfl ?_ | refine aZ tabOk rfl rfl (nb rfl) rfl ?_ | refine aU tabOk rfl rfl rfl (nb rfl) rfl rfl rfl rfl rfl rfl ?_ | refine aV tabOk rfl rfl rfl (nb rfl) rfl rfl rfl rfl ?_ | refine aN tabOk rfl rfl rfl rfl rfl rfl rfl rfl rfl rfl rfl ?_ | refine aR tabOk rfl rfl rfl (nb rfl) rfl rfl rfl rfl (by first | assumption | omega) ?_ | refine aJ tabOk rfl rfl rfl (nb rfl) rfl rfl rfl rfl (by first | rfl | omega) (by first | omega | simp) ?_ | refine aC tabOk rfl rfl rfl (nb rfl) rfl rfl rfl (by assumption) ?_ | refine aC tabOk rfl rfl rfl (nb rfl) rfl rfl rfl (bS _ _ (by first | assumption | omega)) ?_ | refine aE rfl rfl rfl (nb rfl) rfl rfl (by omega) ?_ | ((fail_if_success (refine aG (b := true) rfl rfl rfl ?_)); (fail_if_success (refine aG (b := false) rfl rfl rfl ?_)); refine aW rfl rfl rfl (fun hq => ?_) (fun hq => ?_) <;> first | subst hq | (first | (simp only [sD, sE, sB, sC, sN, sM, sT, sF] at hq; try (exfalso; omega)) | skip)) | fail) | (refine bW ?_; first | refine bN ?_ | refine bT ?_ | refine aQ ?_ | refine bD ?_ | refine bU ?_ | refine bL ?_ | refine bK ?_ | refine aA (b := true) rfl (fun _ => ?_) nTf | refine aA (b := false) rfl nFt (fun _ => ?_) | refine bE ?_ | refine bC ?_ | refine bA mixed (by kernel_rfl) ?_ | refine aD mixed (by kernel_rfl) ?_ | (refine aA rfl (fun hq => ?_) (fun hq => ?_) <;> first | subst hq | (first | (simp only [sD, sE, sB, sC, sN, sM, sT, sF] at hq; try (exfalso; omega)) | skip)) | fail) | (refine bQ ?_; first | refine bZ ?_ | refine aK ?_ | refine aT ?_ | fail) | (refine bG ?_; first | refine bV ?_ | refine aH ?_ | refine aI (by decide) ?_ | refine aM ?_ | fail) | refine bR (bB (by kernel_rfl)) ?_ | fail)
    have hTs : ∀ j (hj : j < c.kids.length), Tree.ivs ((c.kids.take (j + 1)).map fun x => growT l f x.toNat) = Tree.ivs ((c.kids.take j).map fun x => growT l f x.toNat) ++ [(growT l f (c.kids[j]).toNat).iv] := fun j hj => by
      rw [List.take_succ_eq_append_getElem hj, List.map_append, List.map_singleton, rM]
    refine cY (dU (h0 := 22) (k0 := 4) 500 25 1 rfl rfl (by simp) rfl rfl) ?_
    refine cH (ι := {j : Nat // j ≤ c.kids.length}) (fun j => S.f ⟨[(7, .imm (.lit (.int .i64 (j.1 : Int)))), (6, .obj 22 0), (5, .obj 5 0), (2, .imm (.ptr [.sl false l.length (cellIVs l)] 0))], [(500, .arr 25 1 j.1 (Tree.ivs ((c.kids.take j.1).map fun x => growT l f x.toNat))), (22, .cells [.imm (.lit (.int .i64 c.k)), .imm (.lit (.int .i64 c.n)), .imm (.lit (.string c.a)), .imm (.lit (.string c.b)), .ref 500 j.1]), (5, .cells [.imm (.lit (.int .i64 c.k)), .imm (.lit (.int .i64 c.n)), .imm (.lit (.string c.a)), .imm (.lit (.string c.b)), .imm (.sl c.f c.kids.length (intIVs c.kids))])]⟩) (fun j => c.kids.length - j.1) ⟨0, Nat.zero_le _⟩ (cF (by repeat' first | exact trivial | refine ⟨rfl, ?_⟩) (by repeat' first | exact trivial | refine ⟨rfl, ?_⟩)) ?_
    rintro ⟨j, hj⟩
    dsimp only
    by_cases hlt : j < c.kids.length
    · have hx := hbi c.kids[j] (List.getElem_mem hlt)
      have hcall := ih (c.kids[j]).toNat (by omega) (by omega)
      have hxe : ((c.kids[j]).toNat : Int) = c.kids[j] := Int.toNat_of_nonneg hx.1
      rw [hxe] at hcall
      obtain ⟨pc, hpc⟩ := wL l f (c.kids[j]).toNat (by omega) (by omega)
      have hTj := hTs j hlt
      rw [hpc] at hcall hTj
      repeat' (first | refine bM ?_ | (refine bP ?_; first | refine aX tabOk rfl rfl rfl (nb rfl) rfl ?_ | refine bF rfl rfl (nb rfl) ?_ | (refine bO rfl rfl rfl (nb rfl) rfl rfl rfl (fun hq => ?_) (fun hq => ?_) <;> (first | (simp only [sD, sE, sB, sC, sN, sM, sT, sF] at hq; try (exfalso; omega)) | skip))| refine bX rfl rfl (nb rfl) rfl rfl rfl rfl (hcall) ?_ | refine aC tabOk rfl rfl rfl (nb rfl) rfl rfl rfl (mT _ _ hlt) ?_ | refine bA mixed (by kernel_rfl) ?_ | refine aD mixed (by kernel_rfl) ?_ | refine ⟨bB (by kernel_rfl), ?_⟩ | refine dF tabOk rfl rfl rfl (nb rfl) rfl rfl rfl rfl rfl rfl rfl (by first | omega | decide) rfl (by first | omega | (dsimp only; omega)) (by first | omega | (dsimp only; omega)) ?_ | refine aE rfl rfl rfl (nb rfl) rfl rfl (by omega) ?_ | refine bI rfl rfl rfl (nb rfl) rfl rfl rfl (by omega) (by omega) ?_ | refine bJ rfl rfl rfl (nb rfl) rfl rfl rfl (by omega) (by omega) ?_ | refine bH tabOk rfl rfl rfl (nb rfl) rfl rfl rfl rfl rfl rfl rfl rfl rfl ?_ | refine aZ tabOk rfl rfl (nb rfl) rfl ?_ | refine aU tabOk rfl rfl rfl (nb rfl) rfl rfl rfl rfl rfl rfl ?_ | refine aV tabOk rfl rfl rfl (nb rfl) rfl rfl rfl rfl ?_ | refine aN tabOk rfl rfl rfl rfl rfl rfl rfl rfl rfl rfl rfl ?_ | refine aR tabOk rfl rfl rfl (nb rfl) rfl rfl rfl rfl (by first | assumption | omega) ?_ | refine aJ tabOk rfl rfl rfl (nb rfl) rfl rfl rfl rfl (by first | rfl | omega) (by first | omega | simp) ?_ | refine aC tabOk rfl rfl rfl (nb rfl) rfl rfl rfl (by assumption) ?_ | refine aC tabOk rfl rfl rfl (nb rfl) rfl rfl rfl (bS _ _ (by first | assumption | omega)) ?_ | refine aE rfl rfl rfl (nb rfl) rfl rfl (by omega) ?_ | ((fail_if_success (refine aG (b := true) rfl rfl rfl ?_)); (fail_if_success (refine aG (b := false) rfl rfl rfl ?_)); refine aW rfl rfl rfl (fun hq => ?_) (fun hq => ?_) <;> first | subst hq | (first | (simp only [sD, sE, sB, sC, sN, sM, sT, sF] at hq; try (exfalso; omega)) | skip)) | fail) | (refine bW ?_; first | refine bN ?_ | refine bT ?_ | refine aQ ?_ | refine bD ?_ | refine bU ?_ | refine bL ?_ | refine bK ?_ | refine aA (b := true) rfl (fun _ => ?_) nTf | refine aA (b := false) rfl nFt (fun _ => ?_) | refine bE ?_ | refine bC ?_ | refine bA mixed (by kernel_rfl) ?_ | refine aD mixed (by kernel_rfl) ?_ | (refine aA rfl (fun hq => ?_) (fun hq => ?_) <;> first | subst hq | (first | (simp only [sD, sE, sB, sC, sN, sM, sT, sF] at hq; try (exfalso; omega)) | skip)) | fail) | (refine bQ ?_; first | refine bZ ?_ | refine aK ?_ | refine aT ?_ | fail) | (refine bG ?_; first | refine bV ?_ | refine aH ?_ | refine aI (by decide) ?_ | refine aM ?_ | fail) | refine bR (bB (by kernel_rfl)) ?_ | fail)
      refine ⟨⟨j + 1, hlt⟩, (by show c.kids.length - (j + 1) < c.kids.length - j; omega), ?_⟩
      dsimp only
      rw [hTj]
      exact (cF (by repeat' first | exact trivial | refine ⟨rfl, ?_⟩) (by repeat' first | exact trivial | refine ⟨rfl, ?_⟩))
    · have ej : j = c.kids.length := by omega
      subst ej
      repeat' (first | refine bM ?_ | (refine bP ?_; first | refine aX tabOk rfl rfl rfl (nb rfl) rfl ?_ | refine bF rfl rfl (nb rfl) ?_ | (refine bO rfl rfl rfl (nb rfl) rfl rfl rfl (fun hq => ?_) (fun hq => ?_) <;> (first | (simp only [sD, sE, sB, sC, sN, sM, sT, sF] at hq; try (exfalso; omega)) | skip)) | refine aE rfl rfl rfl (nb rfl) rfl rfl (by omega) ?_ | refine bI rfl rfl rfl (nb rfl) rfl rfl rfl (by omega) (by omega) ?_ | refine bJ rfl rfl rfl (nb rfl) rfl rfl rfl (by omega) (by omega) ?_ | refine bH tabOk rfl rfl rfl (nb rfl) rfl rfl rfl rfl rfl rfl rfl rfl rfl ?_ | refine aZ tabOk rfl rfl (nb rfl) rfl ?_ | refine aU tabOk rfl rfl rfl (nb rfl) rfl rfl rfl rfl rfl rfl ?_ | refine aV tabOk rfl rfl rfl (nb rfl) rfl rfl rfl rfl ?_ | refine aN tabOk rfl rfl rfl rfl rfl rfl rfl rfl rfl rfl rfl ?_ | refine aR tabOk rfl rfl rfl (nb rfl) rfl rfl rfl rfl (by first | assumption | omega) ?_ | refine aJ tabOk rfl rfl rfl (nb rfl) rfl rfl rfl rfl (by first | rfl | omega) (by first | omega | simp) ?_ | refine aC tabOk rfl rfl rfl (nb rfl) rfl rfl rfl (by assumption) ?_ | refine aC tabOk rfl rfl rfl (nb rfl) rfl rfl rfl (bS _ _ (by first | assumption | omega)) ?_ | refine aE rfl rfl rfl (nb rfl) rfl rfl (by omega) ?_ | ((fail_if_success (refine aG (b := true) rfl rfl rfl ?_)); (fail_if_success (refine aG (b := false) rfl rfl rfl ?_)); refine aW rfl rfl rfl (fun hq => ?_) (fun hq => ?_) <;> first | subst hq | (first | (simp only [sD, sE, sB, sC, sN, sM, sT, sF] at hq; try (exfalso; omega)) | skip)) | fail) | (refine bW ?_; first | refine bN ?_ | refine bT ?_ | refine aQ ?_ | refine bD ?_ | refine bU ?_ | refine bL ?_ | refine bK ?_ | refine aA (b := true) rfl (fun _ => ?_) nTf | refine aA (b := false) rfl nFt (fun _ => ?_) | refine bE ?_ | refine bC ?_ | refine bA mixed (by kernel_rfl) ?_ | refine aD mixed (by kernel_rfl) ?_ | (refine aA rfl (fun hq => ?_) (fun hq => ?_) <;> first | subst hq | (first | (simp only [sD, sE, sB, sC, sN, sM, sT, sF] at hq; try (exfalso; omega)) | skip)) | fail) | (refine bQ ?_; first | refine bZ ?_ | refine aK ?_ | refine aT ?_ | fail) | (refine bG ?_; first | refine bV ?_ | refine aH ?_ | refine aI (by decide) ?_ | refine aM ?_ | fail) | refine bR (bB (by kernel_rfl)) ?_ | fail)
      have hlen : (c.kids.map fun x => growT l f x.toNat).length = c.kids.length := by simp
      rw [List.take_length]
      refine dR ((Imp.of_le (σ' := S.f ⟨[(4, .obj 22 0)], [(500, .arr 25 1 c.kids.length (Tree.ivs (c.kids.map fun x => growT l f x.toNat))), (22, .cells [.imm (.lit (.int .i64 c.k)), .imm (.lit (.int .i64 c.n)), .imm (.lit (.string c.a)), .imm (.lit (.string c.b)), .ref 500 c.kids.length])]⟩) (cF (by repeat' first | exact trivial | refine ⟨rfl, ?_⟩) (by repeat' first | exact trivial | refine ⟨rfl, ?_⟩))).trans ((cW (g := 500) rfl (by repeat' first | exact trivial | exact fun _ => rfl | refine ⟨?_, ?_⟩) (by repeat' first | exact trivial | exact fun _ => rfl | refine ⟨?_, ?_⟩)).trans (dE (g := 22) rfl rfl))) ?_
      refine cA (by first | exact .inl rfl | exact .inr rfl) (cB rfl (aY rfl)) rfl ?_
      show AV.imm _ = AV.imm _
      rw [Tree.iv, hlen]
      rfl
end Go.Proofs.Ytlbemgokilhdnaa.Ab
namespace Go.Proofs.Ytlbemgokilhdnaa.Ab
set_option linter.unusedVariables false
set_option linter.unusedSimpArgs false
open Go.RowKit
attribute [local irreducible] AWP AOps AExit AThen ABlock ANoGoto FeetOk
def allK : List CellD → List Int
  | [] => []
  | c :: l => c.kids ++ allK l
theorem rN : ∀ l m : List CellD, allK (l ++ m) = allK l ++ allK m
  | [], m => rfl
  | c :: l, m => by rw [List.cons_append, allK, allK, rN l m, List.append_assoc]
theorem oT (l : List CellD) (i : Nat) (h : i < l.length) : allK (l.take (i + 1)) = allK (l.take i) ++ l[i].kids := by
  rw [List.take_succ_eq_append_getElem h, rN]
  simp [allK]
theorem rO (K : Nat) : ∀ l : List CellD, (∀ c ∈ l, c.kids.length ≤ K) → (allK l).length ≤ l.length * K
  | [], _ => by simp [allK]
  | c :: l, h => by
    have h1 := h c List.mem_cons_self
    have h2 := rO K l (fun d hd => h d (List.mem_cons_of_mem _ hd))
    rw [allK, List.length_append, List.length_cons, Nat.add_mul]
    omega
def cntIVs (n : Nat) (l : List Int) : List IV := (List.range n).map fun (j : Nat) => .lit (.int .i64 ((l.count (j : Int) : Nat) : Int))
theorem yH (n : Nat) : List.replicate n (IV.lit (.int .i64 0)) = cntIVs n [] := by
  apply List.ext_getElem
  · simp [cntIVs]
  · intro i h1 h2
    simp [cntIVs]
theorem uY (n : Nat) (l : List Int) (x : Int) (h0 : 0 ≤ x) (h : x < (n : Int)) : (cntIVs n l)[x.toNat * 1]? = some (.lit (.int .i64 ((l.count x : Nat) : Int))) := by
  unfold cntIVs
  rw [Nat.mul_one, List.getElem?_map, List.getElem?_range (by omega)]
  rw [Option.map_some, Int.toNat_of_nonneg h0]
theorem zN (n : Nat) (l : List Int) (x : Int) (h0 : 0 ≤ x) (h : x < (n : Int)) : (cntIVs n l).set (x.toNat * 1) (.lit (.int .i64 ((l.count x + 1 : Nat) : Int))) = cntIVs n (l ++ [x]) := by
  rw [Nat.mul_one]
  apply List.ext_getElem
  · simp [cntIVs]
  · intro i h1 h2
    rw [List.getElem_set]
    by_cases e : x.toNat = i
    · rw [if_pos e]
      have ex : x = (i : Int) := by omega
      subst ex
      simp [cntIVs, List.count_append]
    · rw [if_neg e]
      have ne : ¬ x = (i : Int) := by omega
      simp [cntIVs, List.count_append, List.count_singleton, ne]
def once (l : List CellD) : Prop := ∀ j : Nat, j < l.length - 1 → (allK l).count (j : Int) = 1
open Classical in
/-- What is made of a row of cells; what is told of it. -/
noncomputable def openR (l : List CellD) : Tree × Int :=
  if l.length = 0 then (.nil, 1) else if 8192 < l.length then (.nil, 3) else if below l ∧ once l then (growT l l.length (l.length - 1), 0) else (.nil, 16)
theorem zO {l : List CellD} {i k : Nat} (hi : i < l.length) (hk : k < l[i].kids.length) (h : l[i].kids[k] < 0 ∨ (i : Int) ≤ l[i].kids[k]) : ¬ below l := fun hb => by
  have := hb i hi _ (List.getElem_mem hk)
  omega
theorem wM {l : List CellD} {i : Nat} (hi : i < l.length) : (cellIVs l)[i * 5 + 4]? = some (.sl l[i].f l[i].kids.length (intIVs l[i].kids)) := by
  rw [tU l i 4 hi (by omega)]; rfl
set_option maxHeartbeats 16000000 in
set_option maxRecDepth 10000 in
theorem aAm (l : List CellD) (hk : ∀ c ∈ l, c.kids.length ≤ 8192) :
    ACalls Try.prog 26 [.imm (.agg [.sl false l.length (cellIVs l)])] [] (.imm (.tup [(openR l).1.iv, .lit (.int .i64 (openR l).2)])) [] := by
  have hR : openR l = openR l := rfl
  conv at hR => rhs; unfold openR
  generalize openR l = R at *
  by_cases h0 : l.length = 0
  · rw [if_pos h0] at hR
    subst hR
    refine bY Try.func26 rfl rfl (nb rfl) rfl ?_
    repeat' (first | refine bM ?_ | (refine bP ?_; first | refine aX tabOk rfl rfl rfl (nb rfl) rfl ?_ | refine bF rfl rfl (nb rfl) ?_ | (refine bO rfl rfl rfl (nb rfl) rfl rfl rfl (fun hq => ?_) (fun hq => ?_) <;> (first | (simp only [sD, sE, sB, sC, sN, sM, sT, sF] at hq; try (exfalso; omega)) | skip)) | refine aE rfl rfl rfl (nb rfl) rfl rfl (by omega) ?_ | refine bI rfl rfl rfl (nb rfl) rfl rfl rfl (by omega) (by omega) ?_ | refine bJ rfl rfl rfl (nb rfl) rfl rfl rfl (by omega) (by omega) ?_ | refine bH tabOk rfl rfl rfl (nb rfl) rfl rfl rfl rfl rfl rfl rfl rfl rfl ?_ | refine aZ tabOk rfl rfl (nb rfl) rfl ?_ | refine aU tabOk rfl rfl rfl (nb rfl) rfl rfl rfl rfl rfl rfl ?_ | refine aV tabOk rfl rfl rfl (nb rfl) rfl rfl rfl rfl ?_ | refine aN tabOk rfl rfl rfl rfl rfl rfl rfl rfl rfl rfl rfl ?_ | refine aR tabOk rfl rfl rfl (nb rfl) rfl rfl rfl rfl (by first | assumption | omega) ?_ | refine aJ tabOk rfl rfl rfl (nb rfl) rfl rfl rfl rfl (by first | rfl | omega) (by first | omega | simp) ?_ | refine aC tabOk rfl rfl rfl (nb rfl) rfl rfl rfl (by assumption) ?_ | refine aC tabOk rfl rfl rfl (nb rfl) rfl rfl rfl (bS _ _ (by first | assumption | omega)) ?_ | refine aE rfl rfl rfl (nb rfl) rfl rfl (by omega) ?_ | ((fail_if_success (refine aG (b := true) rfl rfl rfl ?_)); (fail_if_success (refine aG (b := false) rfl rfl rfl ?_)); refine aW rfl rfl rfl (fun hq => ?_) (fun hq => ?_) <;> first | subst hq | (first | (simp only [sD, sE, sB, sC, sN, sM, sT, sF] at hq; try (exfalso; omega)) | skip)) | fail) | (refine bW ?_; first | refine bN ?_ | refine bT ?_ | refine aQ ?_ | refine bD ?_ | refine bU ?_ | refine bL ?_ | refine bK ?_ | refine aA (b := true) rfl (fun _ => ?_) nTf | refine aA (b := false) rfl nFt (fun _ => ?_) | refine bE ?_ | refine bC ?_ | refine bA mixed (by kernel_rfl) ?_ | refine aD mixed (by kernel_rfl) ?_ | (refine aA rfl (fun hq => ?_) (fun hq => ?_) <;> first | subst hq | (first | (simp only [sD, sE, sB, sC, sN, sM, sT, sF] at hq; try (exfalso; omega)) | skip)) | fail) | (refine bQ ?_; first | refine bZ ?_ | refine aK ?_ | refine aT ?_ | fail) | (refine bG ?_; first | refine bV ?_ | refine aH ?_ | refine aI (by decide) ?_ | refine aM ?_ | fail) | refine bR (bB (by kernel_rfl)) ?_ | fail)
    all_goals first
      | (exfalso; omega)
      | (refine cA (by first | exact .inl rfl | exact .inr rfl) (cC rfl (aY rfl) (aY rfl)) rfl ?_; rfl)
  · rw [if_neg h0] at hR
    by_cases h1 : 8192 < l.length
    · rw [if_pos h1] at hR
      subst hR
      refine bY Try.func26 rfl rfl (nb rfl) rfl ?_
      repeat' (first | refine bM ?_ | (refine bP ?_; first | refine aX tabOk rfl rfl rfl (nb rfl) rfl ?_ | refine bF rfl rfl (nb rfl) ?_ | (refine bO rfl rfl rfl (nb rfl) rfl rfl rfl (fun hq => ?_) (fun hq => ?_) <;> (first | (simp only [sD, sE, sB, sC, sN, sM, sT, sF] at hq; try (exfalso; omega)) | skip)) | refine aE rfl rfl rfl (nb rfl) rfl rfl (by omega) ?_ | refine bI rfl rfl rfl (nb rfl) rfl rfl rfl (by omega) (by omega) ?_ | refine bJ rfl rfl rfl (nb rfl) rfl rfl rfl (by omega) (by omega) ?_ | refine bH tabOk rfl rfl rfl (nb rfl) rfl rfl rfl rfl rfl rfl rfl rfl rfl ?_ | refine aZ tabOk rfl rfl (nb rfl) rfl ?_ | refine aU tabOk rfl rfl rfl (nb rfl) rfl rfl rfl rfl rfl rfl ?_ | refine aV tabOk rfl rfl rfl (nb rfl) rfl rfl rfl rfl ?_ | refine aN tabOk rfl rfl rfl rfl rfl rfl rfl rfl rfl rfl rfl ?_ | refine aR tabOk rfl rfl rfl (nb rfl) rfl rfl rfl rfl (by first | assumption | omega) ?_ | refine aJ tabOk rfl rfl rfl (nb rfl) rfl rfl rfl rfl (by first | rfl | omega) (by first | omega | simp) ?_ | refine aC tabOk rfl rfl rfl (nb rfl) rfl rfl rfl (by assumption) ?_ | refine aC tabOk rfl rfl rfl (nb rfl) rfl rfl rfl (bS _ _ (by first | assumption | omega)) ?_ | refine aE rfl rfl rfl (nb rfl) rfl rfl (by omega) ?_ | ((fail_if_success (refine aG (b := true) rfl rfl rfl ?_)); (fail_if_success (refine aG (b := false) rfl rfl rfl ?_)); refine aW rfl rfl rfl (fun hq => ?_) (fun hq => ?_) <;> first | subst hq | (first | (simp only [sD, sE, sB, sC, sN, sM, sT, sF] at hq; try (exfalso; omega)) | skip)) | fail) | (refine bW ?_; first | refine bN ?_ | refine bT ?_ | refine aQ ?_ | refine bD ?_ | refine bU ?_ | refine bL ?_ | refine bK ?_ | refine aA (b := true) rfl (fun _ => ?_) nTf | refine aA (b := false) rfl nFt (fun _ => ?_) | refine bE ?_ | refine bC ?_ | refine bA mixed (by kernel_rfl) ?_ | refine aD mixed (by kernel_rfl) ?_ | (refine aA rfl (fun hq => ?_) (fun hq => ?_) <;> first | subst hq | (first | (simp only [sD, sE, sB, sC, sN, sM, sT, sF] at hq; try (exfalso; omega)) | skip)) | fail) | (refine bQ ?_; first | refine bZ ?_ | refine aK ?_ | refine aT ?_ | fail) | (refine bG ?_; first | refine bV ?_ | refine aH ?_ | refine aI (by decide) ?_ | refine aM ?_ | fail) | refine bR (bB (by kernel_rfl)) ?_ | fail)
      all_goals first
        | (exfalso; omega)
        | (refine cA (by first | exact .inl rfl | exact .inr rfl) (cC rfl (aY rfl) (aY rfl)) rfl ?_; rfl)
    · rw [if_neg h1] at hR
      have hbad : ¬ (below l ∧ once l) → R = (.nil, 16) := fun h => by rw [hR, if_neg h]
      have hgood : below l ∧ once l → R = (growT l l.length (l.length - 1), 0) := fun h => by rw [hR, if_pos h]
      clear hR
      have hcz := yH l.length
      have hlimit : ∀ m : List Int, m.length ≤ 67108864 → ∀ x, m.count x < 9223372036854775807 := fun m hm x => by
        have := List.count_le_length (l := m) (a := x)
        omega
      have hpre : ∀ i, (allK (l.take i)).length ≤ l.length * 8192 := fun i => Nat.le_trans (rO 8192 _ (fun c hc => hk c (List.mem_of_mem_take hc))) (Nat.mul_le_mul_right _ (by rw [List.length_take]; omega))
      refine bY Try.func26 rfl rfl (nb rfl) rfl ?_
      repeat' (first | refine bM ?_ | (refine bP ?_; first | refine aX tabOk rfl rfl rfl (nb rfl) rfl ?_ | refine bF rfl rfl (nb rfl) ?_ | (refine bO rfl rfl rfl (nb rfl) rfl rfl rfl (fun hq => ?_) (fun hq => ?_) <;> (first | (simp only [sD, sE, sB, sC, sN, sM, sT, sF] at hq; try (exfalso; omega)) | skip))| refine mI 600 tabOk rfl rfl rfl (nb rfl) rfl rfl rfl rfl rfl rfl rfl (by simp only [slMax]; omega) (by dsimp only; omega) (by simp) rfl rfl ?_ | refine aE rfl rfl rfl (nb rfl) rfl rfl (by omega) ?_ | refine bI rfl rfl rfl (nb rfl) rfl rfl rfl (by omega) (by omega) ?_ | refine bJ rfl rfl rfl (nb rfl) rfl rfl rfl (by omega) (by omega) ?_ | refine bH tabOk rfl rfl rfl (nb rfl) rfl rfl rfl rfl rfl rfl rfl rfl rfl ?_ | refine aZ tabOk rfl rfl (nb rfl) rfl ?_ | refine aU tabOk rfl rfl rfl (nb rfl) rfl rfl rfl rfl rfl rfl ?_ | refine aV tabOk rfl rfl rfl (nb rfl) rfl rfl rfl rfl ?_ | refine aN tabOk rfl rfl rfl rfl rfl rfl rfl rfl rfl rfl rfl ?_ | refine aR tabOk rfl rfl rfl (nb rfl) rfl rfl rfl rfl (by first | assumption | omega) ?_ | refine aJ tabOk rfl rfl rfl (nb rfl) rfl rfl rfl rfl (by first | rfl | omega) (by first | omega | simp) ?_ | refine aC tabOk rfl rfl rfl (nb rfl) rfl rfl rfl (by assumption) ?_ | refine aC tabOk rfl rfl rfl (nb rfl) rfl rfl rfl (bS _ _ (by first | assumption | omega)) ?_ | refine aE rfl rfl rfl (nb rfl) rfl rfl (by omega) ?_ | ((fail_if_success (refine aG (b := true) rfl rfl rfl ?_)); (fail_if_success (refine aG (b := false) rfl rfl rfl ?_)); refine aW rfl rfl rfl (fun hq => ?_) (fun hq => ?_) <;> first | subst hq | (first | (simp only [sD, sE, sB, sC, sN, sM, sT, sF] at hq; try (exfalso; omega)) | skip)) | fail) | (refine bW ?_; first | refine bN ?_ | refine bT ?_ | refine aQ ?_ | refine bD ?_ | refine bU ?_ | refine bL ?_ | refine bK ?_ | refine aA (b := true) rfl (fun _ => ?_) nTf | refine aA (b := false) rfl nFt (fun _ => ?_) | refine bE ?_ | refine bC ?_ | refine bA mixed (by kernel_rfl) ?_ | refine aD mixed (by kernel_rfl) ?_ | (refine aA rfl (fun hq => ?_) (fun hq => ?_) <;> first | subst hq | (first | (simp only [sD, sE, sB, sC, sN, sM, sT, sF] at hq; try (exfalso; omega)) | skip)) | fail) | (refine bQ ?_; first | refine bZ ?_ | refine aK ?_ | refine aT ?_ | fail) | (refine bG ?_; first | refine bV ?_ | refine aH ?_ | refine aI (by decide) ?_ | refine aM ?_ | fail) | refine bR (bB (by kernel_rfl)) ?_ | fail)
      all_goals first | (exfalso; omega) | skip
      rw [hcz]
      refine cH (ι := {i : Nat // i ≤ l.length ∧ ∀ j (h : j < l.length), j < i → ∀ x ∈ l[j].kids, 0 ≤ x ∧ x < (j : Int)}) (fun i => S.f ⟨[(6, .imm (.lit (.int .i64 (i.1 : Int)))), (5, .ref 600 l.length), (4, .imm (.lit (.int .i64 (l.length : Int)))), (1, .imm (.ptr [.sl false l.length (cellIVs l)] 0))], [(600, .arr 3 1 l.length (cntIVs l.length (allK (l.take i.1))))]⟩) (fun i => l.length - i.1) ⟨0, Nat.zero_le _, fun j h h2 => by omega⟩ (cF (by repeat' first | exact trivial | refine ⟨rfl, ?_⟩) (by repeat' first | exact trivial | refine ⟨rfl, ?_⟩)) ?_
      rintro ⟨i, hi, hpr⟩
      dsimp only
      by_cases hil : i < l.length
      · have hck := wM hil
        have hki := hk _ (List.getElem_mem hil)
        have hstep := oT l i hil
        repeat' (first | refine bM ?_ | (refine bP ?_; first | refine aX tabOk rfl rfl rfl (nb rfl) rfl ?_ | refine bF rfl rfl (nb rfl) ?_ | (refine bO rfl rfl rfl (nb rfl) rfl rfl rfl (fun hq => ?_) (fun hq => ?_) <;> (first | (simp only [sD, sE, sB, sC, sN, sM, sT, sF] at hq; try (exfalso; omega)) | skip)) | refine aE rfl rfl rfl (nb rfl) rfl rfl (by omega) ?_ | refine bI rfl rfl rfl (nb rfl) rfl rfl rfl (by omega) (by omega) ?_ | refine bJ rfl rfl rfl (nb rfl) rfl rfl rfl (by omega) (by omega) ?_ | refine bH tabOk rfl rfl rfl (nb rfl) rfl rfl rfl rfl rfl rfl rfl rfl rfl ?_ | refine aZ tabOk rfl rfl (nb rfl) rfl ?_ | refine aU tabOk rfl rfl rfl (nb rfl) rfl rfl rfl rfl rfl rfl ?_ | refine aV tabOk rfl rfl rfl (nb rfl) rfl rfl rfl rfl ?_ | refine aN tabOk rfl rfl rfl rfl rfl rfl rfl rfl rfl rfl rfl ?_ | refine aR tabOk rfl rfl rfl (nb rfl) rfl rfl rfl rfl (by first | assumption | omega) ?_ | refine aJ tabOk rfl rfl rfl (nb rfl) rfl rfl rfl rfl (by first | rfl | omega) (by first | omega | simp) ?_ | refine aC tabOk rfl rfl rfl (nb rfl) rfl rfl rfl (by assumption) ?_ | refine aC tabOk rfl rfl rfl (nb rfl) rfl rfl rfl (bS _ _ (by first | assumption | omega)) ?_ | refine aE rfl rfl rfl (nb rfl) rfl rfl (by omega) ?_ | ((fail_if_success (refine aG (b := true) rfl rfl rfl ?_)); (fail_if_success (refine aG (b := false) rfl rfl rfl ?_)); refine aW rfl rfl rfl (fun hq => ?_) (fun hq => ?_) <;> first | subst hq | (first | (simp only [sD, sE, sB, sC, sN, sM, sT, sF] at hq; try (exfalso; omega)) | skip)) | fail) | (refine bW ?_; first | refine bN ?_ | refine bT ?_ | refine aQ ?_ | refine bD ?_ | refine bU ?_ | refine bL ?_ | refine bK ?_ | refine aA (b := true) rfl (fun _ => ?_) nTf | refine aA (b := false) rfl nFt (fun _ => ?_) | refine bE ?_ | refine bC ?_ | refine bA mixed (by kernel_rfl) ?_ | refine aD mixed (by kernel_rfl) ?_ | (refine aA rfl (fun hq => ?_) (fun hq => ?_) <;> first | subst hq | (first | (simp only [sD, sE, sB, sC, sN, sM, sT, sF] at hq; try (exfalso; omega)) | skip)) | fail) | (refine bQ ?_; first | refine bZ ?_ | refine aK ?_ | refine aT ?_ | fail) | (refine bG ?_; first | refine bV ?_ | refine aH ?_ | refine aI (by decide) ?_ | refine aM ?_ | fail) | refine bR (bB (by kernel_rfl)) ?_ | fail)
        have e0 : cntIVs l.length (allK (l.take i)) = cntIVs l.length (allK (l.take i) ++ l[i].kids.take 0) := by rw [List.take_zero, List.append_nil]
        rw [e0]
        refine cH (ι := {k : Nat // k ≤ l[i].kids.length ∧ ∀ x ∈ l[i].kids.take k, 0 ≤ x ∧ x < (i : Int)}) (fun k => S.f ⟨[(7, .imm (.lit (.int .i64 (k.1 : Int)))), (6, .imm (.lit (.int .i64 (i : Int)))), (5, .ref 600 l.length), (4, .imm (.lit (.int .i64 (l.length : Int)))), (1, .imm (.ptr [.sl false l.length (cellIVs l)] 0))], [(600, .arr 3 1 l.length (cntIVs l.length (allK (l.take i) ++ l[i].kids.take k.1)))]⟩) (fun k => l[i].kids.length - k.1) ⟨0, Nat.zero_le _, fun x hx => by rw [List.take_zero] at hx; cases hx⟩ (cF (by repeat' first | exact trivial | refine ⟨rfl, ?_⟩) (by repeat' first | exact trivial | refine ⟨rfl, ?_⟩)) ?_
        rintro ⟨k, hkk, hkr⟩
        dsimp only
        by_cases hkl : k < l[i].kids.length
        · have hix := mT l[i].kids k hkl
          have hbk := @zO l i k hil hkl
          have hnx : l[i].kids.take (k + 1) = l[i].kids.take k ++ [l[i].kids[k]] := List.take_succ_eq_append_getElem hkl
          have hpk : (allK (l.take i) ++ l[i].kids.take k).length ≤ 67108864 := by
            have := hpre i
            have h2 : l.length * 8192 ≤ 8192 * 8192 := Nat.mul_le_mul_right _ (by omega)
            have h3 : allK (l.take (i + 1)) = allK (l.take i) ++ l[i].kids := hstep
            have h4 := hpre (i + 1)
            rw [h3, List.length_append] at h4
            rw [List.length_append, List.length_take]
            omega
          have hcl := hlimit _ hpk l[i].kids[k]
          by_cases hx : 0 ≤ l[i].kids[k] ∧ l[i].kids[k] < (i : Int)
          · have hg1 := uY l.length (allK (l.take i) ++ l[i].kids.take k) l[i].kids[k] hx.1 (by omega)
            have hs1 := zN l.length (allK (l.take i) ++ l[i].kids.take k) l[i].kids[k] hx.1 (by omega)
            have hxe : l[i].kids[k] = ((l[i].kids[k]).toNat : Int) := (Int.toNat_of_nonneg hx.1).symm
            have hxl : (l[i].kids[k]).toNat < l.length := by omega
            have hkr2 : ∀ x ∈ l[i].kids.take (k + 1), 0 ≤ x ∧ x < (i : Int) := fun x hm => by
              rw [hnx, List.mem_append] at hm
              rcases hm with hm | hm
              · exact hkr x hm
              · rw [List.mem_singleton.1 hm]; exact hx
            rw [List.append_assoc, ← hnx] at hs1
            generalize (allK (l.take i) ++ l[i].kids.take k).count l[i].kids[k] = cn at *
            repeat' (first | refine bM ?_ | (refine bP ?_; first | refine aX tabOk rfl rfl rfl (nb rfl) rfl ?_ | refine bF rfl rfl (nb rfl) ?_ | (refine bO rfl rfl rfl (nb rfl) rfl rfl rfl (fun hq => ?_) (fun hq => ?_) <;> (first | (simp only [sD, sE, sB, sC, sN, sM, sT, sF] at hq; try (exfalso; omega)) | skip))| refine aC tabOk rfl rfl rfl (nb rfl) rfl rfl rfl hck ?_ | refine aC tabOk rfl rfl rfl (nb rfl) rfl rfl rfl hix ?_ | refine eM tabOk rfl rfl rfl (nb rfl) rfl rfl rfl rfl rfl rfl hxe hxl ?_ | refine hI tabOk rfl rfl rfl (nb rfl) rfl rfl rfl rfl (by omega) hg1 ?_ | refine aE rfl rfl rfl (nb rfl) rfl rfl hcl ?_ | refine kA tabOk rfl rfl rfl rfl rfl rfl rfl rfl rfl rfl (by omega) (by show (l[i].kids[k]).toNat * 1 < l.length * 1; omega) ?_ | refine aE rfl rfl rfl (nb rfl) rfl rfl (by omega) ?_ | refine bI rfl rfl rfl (nb rfl) rfl rfl rfl (by omega) (by omega) ?_ | refine bJ rfl rfl rfl (nb rfl) rfl rfl rfl (by omega) (by omega) ?_ | refine bH tabOk rfl rfl rfl (nb rfl) rfl rfl rfl rfl rfl rfl rfl rfl rfl ?_ | refine aZ tabOk rfl rfl (nb rfl) rfl ?_ | refine aU tabOk rfl rfl rfl (nb rfl) rfl rfl rfl rfl rfl rfl ?_ | refine aV tabOk rfl rfl rfl (nb rfl) rfl rfl rfl rfl ?_ | refine aN tabOk rfl rfl rfl rfl rfl rfl rfl rfl rfl rfl rfl ?_ | refine aR tabOk rfl rfl rfl (nb rfl) rfl rfl rfl rfl (by first | assumption | omega) ?_ | refine aJ tabOk rfl rfl rfl (nb rfl) rfl rfl rfl rfl (by first | rfl | omega) (by first | omega | simp) ?_ | refine aC tabOk rfl rfl rfl (nb rfl) rfl rfl rfl (by assumption) ?_ | refine aC tabOk rfl rfl rfl (nb rfl) rfl rfl rfl (bS _ _ (by first | assumption | omega)) ?_ | refine aE rfl rfl rfl (nb rfl) rfl rfl (by omega) ?_ | ((fail_if_success (refine aG (b := true) rfl rfl rfl ?_)); (fail_if_success (refine aG (b := false) rfl rfl rfl ?_)); refine aW rfl rfl rfl (fun hq => ?_) (fun hq => ?_) <;> first | subst hq | (first | (simp only [sD, sE, sB, sC, sN, sM, sT, sF] at hq; try (exfalso; omega)) | skip)) | fail) | (refine bW ?_; first | refine bN ?_ | refine bT ?_ | refine aQ ?_ | refine bD ?_ | refine bU ?_ | refine bL ?_ | refine bK ?_ | refine aA (b := true) rfl (fun _ => ?_) nTf | refine aA (b := false) rfl nFt (fun _ => ?_) | refine bE ?_ | refine bC ?_ | refine bA mixed (by kernel_rfl) ?_ | refine aD mixed (by kernel_rfl) ?_ | (refine aA rfl (fun hq => ?_) (fun hq => ?_) <;> first | subst hq | (first | (simp only [sD, sE, sB, sC, sN, sM, sT, sF] at hq; try (exfalso; omega)) | skip)) | fail) | (refine bQ ?_; first | refine bZ ?_ | refine aK ?_ | refine aT ?_ | fail) | (refine bG ?_; first | refine bV ?_ | refine aH ?_ | refine aI (by decide) ?_ | refine aM ?_ | fail) | refine bR (bB (by kernel_rfl)) ?_ | fail)
            all_goals first | (exfalso; omega) | skip
            refine ⟨⟨k + 1, hkl, hkr2⟩, (by show l[i].kids.length - (k + 1) < l[i].kids.length - k; omega), ?_⟩
            dsimp only
            rw [← hs1]
            exact (cF (by repeat' first | exact trivial | refine ⟨rfl, ?_⟩) (by repeat' first | exact trivial | refine ⟨rfl, ?_⟩))
          · have e := hbad (fun h => hbk (by omega) h.1)
            subst e
            repeat' (first | refine bM ?_ | (refine bP ?_; first | refine aX tabOk rfl rfl rfl (nb rfl) rfl ?_ | refine bF rfl rfl (nb rfl) ?_ | (refine bO rfl rfl rfl (nb rfl) rfl rfl rfl (fun hq => ?_) (fun hq => ?_) <;> (first | (simp only [sD, sE, sB, sC, sN, sM, sT, sF] at hq; try (exfalso; omega)) | skip))| refine aC tabOk rfl rfl rfl (nb rfl) rfl rfl rfl hck ?_ | refine aC tabOk rfl rfl rfl (nb rfl) rfl rfl rfl hix ?_ | refine aE rfl rfl rfl (nb rfl) rfl rfl (by omega) ?_ | refine bI rfl rfl rfl (nb rfl) rfl rfl rfl (by omega) (by omega) ?_ | refine bJ rfl rfl rfl (nb rfl) rfl rfl rfl (by omega) (by omega) ?_ | refine bH tabOk rfl rfl rfl (nb rfl) rfl rfl rfl rfl rfl rfl rfl rfl rfl ?_ | refine aZ tabOk rfl rfl (nb rfl) rfl ?_ | refine aU tabOk rfl rfl rfl (nb rfl) rfl rfl rfl rfl rfl rfl ?_ | refine aV tabOk rfl rfl rfl (nb rfl) rfl rfl rfl rfl ?_ | refine aN tabOk rfl rfl rfl rfl rfl rfl rfl rfl rfl rfl rfl ?_ | refine aR tabOk rfl rfl rfl (nb rfl) rfl rfl rfl rfl (by first | assumption | omega) ?_ | refine aJ tabOk rfl rfl rfl (nb rfl) rfl rfl rfl rfl (by first | rfl | omega) (by first | omega | simp) ?_ | refine aC tabOk rfl rfl rfl (nb rfl) rfl rfl rfl (by assumption) ?_ | refine aC tabOk rfl rfl rfl (nb rfl) rfl rfl rfl (bS _ _ (by first | assumption | omega)) ?_ | refine aE rfl rfl rfl (nb rfl) rfl rfl (by omega) ?_ | ((fail_if_success (refine aG (b := true) rfl rfl rfl ?_)); (fail_if_success (refine aG (b := false) rfl rfl rfl ?_)); refine aW rfl rfl rfl (fun hq => ?_) (fun hq => ?_) <;> first | subst hq | (first | (simp only [sD, sE, sB, sC, sN, sM, sT, sF] at hq; try (exfalso; omega)) | skip)) | fail) | (refine bW ?_; first | refine bN ?_ | refine bT ?_ | refine aQ ?_ | refine bD ?_ | refine bU ?_ | refine bL ?_ | refine bK ?_ | refine aA (b := true) rfl (fun _ => ?_) nTf | refine aA (b := false) rfl nFt (fun _ => ?_) | refine bE ?_ | refine bC ?_ | refine bA mixed (by kernel_rfl) ?_ | refine aD mixed (by kernel_rfl) ?_ | (refine aA rfl (fun hq => ?_) (fun hq => ?_) <;> first | subst hq | (first | (simp only [sD, sE, sB, sC, sN, sM, sT, sF] at hq; try (exfalso; omega)) | skip)) | fail) | (refine bQ ?_; first | refine bZ ?_ | refine aK ?_ | refine aT ?_ | fail) | (refine bG ?_; first | refine bV ?_ | refine aH ?_ | refine aI (by decide) ?_ | refine aM ?_ | fail) | refine bR (bB (by kernel_rfl)) ?_ | fail)
            all_goals first
              | (exfalso; omega)
              | (refine cA (by first | exact .inl rfl | exact .inr rfl) (cC rfl (aY rfl) (aY rfl)) rfl ?_; rfl)
        · have ek : k = l[i].kids.length := by omega
          subst ek
          rw [List.take_length] at *
          rw [← hstep]
          have hpr2 : ∀ j (h : j < l.length), j < i + 1 → ∀ x ∈ l[j].kids, 0 ≤ x ∧ x < (j : Int) := fun j h hj x hx => by
            rcases Nat.lt_or_ge j i with h2 | h2
            · exact hpr j h h2 x hx
            · have e : j = i := by omega
              subst e
              exact hkr x hx
          repeat' (first | refine bM ?_ | (refine bP ?_; first | refine aX tabOk rfl rfl rfl (nb rfl) rfl ?_ | refine bF rfl rfl (nb rfl) ?_ | (refine bO rfl rfl rfl (nb rfl) rfl rfl rfl (fun hq => ?_) (fun hq => ?_) <;> (first | (simp only [sD, sE, sB, sC, sN, sM, sT, sF] at hq; try (exfalso; omega)) | skip))| refine aC tabOk rfl rfl rfl (nb rfl) rfl rfl rfl hck ?_ | refine aE rfl rfl rfl (nb rfl) rfl rfl (by omega) ?_ | refine bI rfl rfl rfl (nb rfl) rfl rfl rfl (by omega) (by omega) ?_ | refine bJ rfl rfl rfl (nb rfl) rfl rfl rfl (by omega) (by omega) ?_ | refine bH tabOk rfl rfl rfl (nb rfl) rfl rfl rfl rfl rfl rfl rfl rfl rfl ?_ | refine aZ tabOk rfl rfl (nb rfl) rfl ?_ | refine aU tabOk rfl rfl rfl (nb rfl) rfl rfl rfl rfl rfl rfl ?_ | refine aV tabOk rfl rfl rfl (nb rfl) rfl rfl rfl rfl ?_ | refine aN tabOk rfl rfl rfl rfl rfl rfl rfl rfl rfl rfl rfl ?_ | refine aR tabOk rfl rfl rfl (nb rfl) rfl rfl rfl rfl (by first | assumption | omega) ?_ | refine aJ tabOk rfl rfl rfl (nb rfl) rfl rfl rfl rfl (by first | rfl | omega) (by first | omega | simp) ?_ | refine aC tabOk rfl rfl rfl (nb rfl) rfl rfl rfl (by assumption) ?_ | refine aC tabOk rfl rfl rfl (nb rfl) rfl rfl rfl (bS _ _ (by first | assumption | omega)) ?_ | refine aE rfl rfl rfl (nb rfl) rfl rfl (by omega) ?_ | ((fail_if_success (refine aG (b := true) rfl rfl rfl ?_)); (fail_if_success (refine aG (b := false) rfl rfl rfl ?_)); refine aW rfl rfl rfl (fun hq => ?_) (fun hq => ?_) <;> first | subst hq | (first | (simp only [sD, sE, sB, sC, sN, sM, sT, sF] at hq; try (exfalso; omega)) | skip)) | fail) | (refine bW ?_; first | refine bN ?_ | refine bT ?_ | refine aQ ?_ | refine bD ?_ | refine bU ?_ | refine bL ?_ | refine bK ?_ | refine aA (b := true) rfl (fun _ => ?_) nTf | refine aA (b := false) rfl nFt (fun _ => ?_) | refine bE ?_ | refine bC ?_ | refine bA mixed (by kernel_rfl) ?_ | refine aD mixed (by kernel_rfl) ?_ | (refine aA rfl (fun hq => ?_) (fun hq => ?_) <;> first | subst hq | (first | (simp only [sD, sE, sB, sC, sN, sM, sT, sF] at hq; try (exfalso; omega)) | skip)) | fail) | (refine bQ ?_; first | refine bZ ?_ | refine aK ?_ | refine aT ?_ | fail) | (refine bG ?_; first | refine bV ?_ | refine aH ?_ | refine aI (by decide) ?_ | refine aM ?_ | fail) | refine bR (bB (by kernel_rfl)) ?_ | fail)
          all_goals first
            | (exfalso; omega)
            | exact ⟨⟨i + 1, hil, hpr2⟩, (by show l.length - (i + 1) < l.length - i; omega), (cF (by repeat' first | exact trivial | refine ⟨rfl, ?_⟩) (by repeat' first | exact trivial | refine ⟨rfl, ?_⟩))⟩
      · have ei : i = l.length := by omega
        subst ei
        have hbl : below l := fun j h x hx => hpr j h h x hx
        rw [List.take_length]
        repeat' (first | refine bM ?_ | (refine bP ?_; first | refine aX tabOk rfl rfl rfl (nb rfl) rfl ?_ | refine bF rfl rfl (nb rfl) ?_ | (refine bO rfl rfl rfl (nb rfl) rfl rfl rfl (fun hq => ?_) (fun hq => ?_) <;> (first | (simp only [sD, sE, sB, sC, sN, sM, sT, sF] at hq; try (exfalso; omega)) | skip)) | refine aE rfl rfl rfl (nb rfl) rfl rfl (by omega) ?_ | refine bI rfl rfl rfl (nb rfl) rfl rfl rfl (by omega) (by omega) ?_ | refine bJ rfl rfl rfl (nb rfl) rfl rfl rfl (by omega) (by omega) ?_ | refine bH tabOk rfl rfl rfl (nb rfl) rfl rfl rfl rfl rfl rfl rfl rfl rfl ?_ | refine aZ tabOk rfl rfl (nb rfl) rfl ?_ | refine aU tabOk rfl rfl rfl (nb rfl) rfl rfl rfl rfl rfl rfl ?_ | refine aV tabOk rfl rfl rfl (nb rfl) rfl rfl rfl rfl ?_ | refine aN tabOk rfl rfl rfl rfl rfl rfl rfl rfl rfl rfl rfl ?_ | refine aR tabOk rfl rfl rfl (nb rfl) rfl rfl rfl rfl (by first | assumption | omega) ?_ | refine aJ tabOk rfl rfl rfl (nb rfl) rfl rfl rfl rfl (by first | rfl | omega) (by first | omega | simp) ?_ | refine aC tabOk rfl rfl rfl (nb rfl) rfl rfl rfl (by assumption) ?_ | refine aC tabOk rfl rfl rfl (nb rfl) rfl rfl rfl (bS _ _ (by first | assumption | omega)) ?_ | refine aE rfl rfl rfl (nb rfl) rfl rfl (by omega) ?_ | ((fail_if_success (refine aG (b := true) rfl rfl rfl ?_)); (fail_if_success (refine aG (b := false) rfl rfl rfl ?_)); refine aW rfl rfl rfl (fun hq => ?_) (fun hq => ?_) <;> first | subst hq | (first | (simp only [sD, sE, sB, sC, sN, sM, sT, sF] at hq; try (exfalso; omega)) | skip)) | fail) | (refine bW ?_; first | refine bN ?_ | refine bT ?_ | refine aQ ?_ | refine bD ?_ | refine bU ?_ | refine bL ?_ | refine bK ?_ | refine aA (b := true) rfl (fun _ => ?_) nTf | refine aA (b := false) rfl nFt (fun _ => ?_) | refine bE ?_ | refine bC ?_ | refine bA mixed (by kernel_rfl) ?_ | refine aD mixed (by kernel_rfl) ?_ | (refine aA rfl (fun hq => ?_) (fun hq => ?_) <;> first | subst hq | (first | (simp only [sD, sE, sB, sC, sN, sM, sT, sF] at hq; try (exfalso; omega)) | skip)) | fail) | (refine bQ ?_; first | refine bZ ?_ | refine aK ?_ | refine aT ?_ | fail) | (refine bG ?_; first | refine bV ?_ | refine aH ?_ | refine aI (by decide) ?_ | refine aM ?_ | fail) | refine bR (bB (by kernel_rfl)) ?_ | fail)
        refine cH (ι := {j : Nat // j ≤ l.length - 1 ∧ ∀ q : Nat, q < j → (allK l).count (q : Int) = 1}) (fun j => S.f ⟨[(9, .imm (.lit (.int .i64 (j.1 : Int)))), (5, .ref 600 l.length), (4, .imm (.lit (.int .i64 (l.length : Int)))), (1, .imm (.ptr [.sl false l.length (cellIVs l)] 0))], [(600, .arr 3 1 l.length (cntIVs l.length (allK l)))]⟩) (fun j => l.length - j.1) ⟨0, Nat.zero_le _, fun q h => by omega⟩ (cF (by repeat' first | exact trivial | refine ⟨rfl, ?_⟩) (by repeat' first | exact trivial | refine ⟨rfl, ?_⟩)) ?_
        rintro ⟨j, hj, hone⟩
        dsimp only
        by_cases hjl : j < l.length - 1
        · have hg1 : (cntIVs l.length (allK l))[j * 1]? = some (.lit (.int .i64 (((allK l).count (j : Int) : Nat) : Int))) := uY l.length (allK l) (j : Int) (by omega) (by omega)
          by_cases hc1 : (allK l).count (j : Int) = 1
          · rw [hc1] at hg1
            have hone2 : ∀ q : Nat, q < j + 1 → (allK l).count (q : Int) = 1 := fun q hq => by
              rcases Nat.lt_or_ge q j with h2 | h2
              · exact hone q h2
              · have e : q = j := by omega
                subst e
                exact hc1
            repeat' (first | refine bM ?_ | (refine bP ?_; first | refine aX tabOk rfl rfl rfl (nb rfl) rfl ?_ | refine bF rfl rfl (nb rfl) ?_ | (refine bO rfl rfl rfl (nb rfl) rfl rfl rfl (fun hq => ?_) (fun hq => ?_) <;> (first | (simp only [sD, sE, sB, sC, sN, sM, sT, sF] at hq; try (exfalso; omega)) | skip))| refine eM tabOk rfl rfl rfl (nb rfl) rfl rfl rfl rfl rfl rfl rfl (by omega) ?_ | refine hI tabOk rfl rfl rfl (nb rfl) rfl rfl rfl rfl (by omega) hg1 ?_ | refine aE rfl rfl rfl (nb rfl) rfl rfl (by omega) ?_ | refine bI rfl rfl rfl (nb rfl) rfl rfl rfl (by omega) (by omega) ?_ | refine bJ rfl rfl rfl (nb rfl) rfl rfl rfl (by omega) (by omega) ?_ | refine bH tabOk rfl rfl rfl (nb rfl) rfl rfl rfl rfl rfl rfl rfl rfl rfl ?_ | refine aZ tabOk rfl rfl (nb rfl) rfl ?_ | refine aU tabOk rfl rfl rfl (nb rfl) rfl rfl rfl rfl rfl rfl ?_ | refine aV tabOk rfl rfl rfl (nb rfl) rfl rfl rfl rfl ?_ | refine aN tabOk rfl rfl rfl rfl rfl rfl rfl rfl rfl rfl rfl ?_ | refine aR tabOk rfl rfl rfl (nb rfl) rfl rfl rfl rfl (by first | assumption | omega) ?_ | refine aJ tabOk rfl rfl rfl (nb rfl) rfl rfl rfl rfl (by first | rfl | omega) (by first | omega | simp) ?_ | refine aC tabOk rfl rfl rfl (nb rfl) rfl rfl rfl (by assumption) ?_ | refine aC tabOk rfl rfl rfl (nb rfl) rfl rfl rfl (bS _ _ (by first | assumption | omega)) ?_ | refine aE rfl rfl rfl (nb rfl) rfl rfl (by omega) ?_ | ((fail_if_success (refine aG (b := true) rfl rfl rfl ?_)); (fail_if_success (refine aG (b := false) rfl rfl rfl ?_)); refine aW rfl rfl rfl (fun hq => ?_) (fun hq => ?_) <;> first | subst hq | (first | (simp only [sD, sE, sB, sC, sN, sM, sT, sF] at hq; try (exfalso; omega)) | skip)) | fail) | (refine bW ?_; first | refine bN ?_ | refine bT ?_ | refine aQ ?_ | refine bD ?_ | refine bU ?_ | refine bL ?_ | refine bK ?_ | refine aA (b := true) rfl (fun _ => ?_) nTf | refine aA (b := false) rfl nFt (fun _ => ?_) | refine bE ?_ | refine bC ?_ | refine bA mixed (by kernel_rfl) ?_ | refine aD mixed (by kernel_rfl) ?_ | (refine aA rfl (fun hq => ?_) (fun hq => ?_) <;> first | subst hq | (first | (simp only [sD, sE, sB, sC, sN, sM, sT, sF] at hq; try (exfalso; omega)) | skip)) | fail) | (refine bQ ?_; first | refine bZ ?_ | refine aK ?_ | refine aT ?_ | fail) | (refine bG ?_; first | refine bV ?_ | refine aH ?_ | refine aI (by decide) ?_ | refine aM ?_ | fail) | refine bR (bB (by kernel_rfl)) ?_ | fail)
            all_goals first
              | (exfalso; omega)
              | exact absurd rfl (by assumption)
              | exact ⟨⟨j + 1, hjl, hone2⟩, (by show l.length - (j + 1) < l.length - j; omega), (cF (by repeat' first | exact trivial | refine ⟨rfl, ?_⟩) (by repeat' first | exact trivial | refine ⟨rfl, ?_⟩))⟩
          · have e := hbad (fun h => hc1 (h.2 j hjl))
            subst e
            repeat' (first | refine bM ?_ | (refine bP ?_; first | refine aX tabOk rfl rfl rfl (nb rfl) rfl ?_ | refine bF rfl rfl (nb rfl) ?_ | (refine bO rfl rfl rfl (nb rfl) rfl rfl rfl (fun hq => ?_) (fun hq => ?_) <;> (first | (simp only [sD, sE, sB, sC, sN, sM, sT, sF] at hq; try (exfalso; omega)) | skip))| refine eM tabOk rfl rfl rfl (nb rfl) rfl rfl rfl rfl rfl rfl rfl (by omega) ?_ | refine hI tabOk rfl rfl rfl (nb rfl) rfl rfl rfl rfl (by omega) hg1 ?_ | refine aE rfl rfl rfl (nb rfl) rfl rfl (by omega) ?_ | refine bI rfl rfl rfl (nb rfl) rfl rfl rfl (by omega) (by omega) ?_ | refine bJ rfl rfl rfl (nb rfl) rfl rfl rfl (by omega) (by omega) ?_ | refine bH tabOk rfl rfl rfl (nb rfl) rfl rfl rfl rfl rfl rfl rfl rfl rfl ?_ | refine aZ tabOk rfl rfl (nb rfl) rfl ?_ | refine aU tabOk rfl rfl rfl (nb rfl) rfl rfl rfl rfl rfl rfl ?_ | refine aV tabOk rfl rfl rfl (nb rfl) rfl rfl rfl rfl ?_ | refine aN tabOk rfl rfl rfl rfl rfl rfl rfl rfl rfl rfl rfl ?_ | refine aR tabOk rfl rfl rfl (nb rfl) rfl rfl rfl rfl (by first | assumption | omega) ?_ | refine aJ tabOk rfl rfl rfl (nb rfl) rfl rfl rfl rfl (by first | rfl | omega) (by first | omega | simp) ?_ | refine aC tabOk rfl rfl rfl (nb rfl) rfl rfl rfl (by assumption) ?_ | refine aC tabOk rfl rfl rfl (nb rfl) rfl rfl rfl (bS _ _ (by first | assumption | omega)) ?_ | refine aE rfl rfl rfl (nb rfl) rfl rfl (by omega) ?_ | ((fail_if_success (refine aG (b := true) rfl rfl rfl ?_)); (fail_if_success (refine aG (b := false) rfl rfl rfl ?_)); refine aW rfl rfl rfl (fun hq => ?_) (fun hq => ?_) <;> first | subst hq | (first | (simp only [sD, sE, sB, sC, sN, sM, sT, sF] at hq; try (exfalso; omega)) | skip)) | fail) | (refine bW ?_; first | refine bN ?_ | refine bT ?_ | refine aQ ?_ | refine bD ?_ | refine bU ?_ | refine bL ?_ | refine bK ?_ | refine aA (b := true) rfl (fun _ => ?_) nTf | refine aA (b := false) rfl nFt (fun _ => ?_) | refine bE ?_ | refine bC ?_ | refine bA mixed (by kernel_rfl) ?_ | refine aD mixed (by kernel_rfl) ?_ | (refine aA rfl (fun hq => ?_) (fun hq => ?_) <;> first | subst hq | (first | (simp only [sD, sE, sB, sC, sN, sM, sT, sF] at hq; try (exfalso; omega)) | skip)) | fail) | (refine bQ ?_; first | refine bZ ?_ | refine aK ?_ | refine aT ?_ | fail) | (refine bG ?_; first | refine bV ?_ | refine aH ?_ | refine aI (by decide) ?_ | refine aM ?_ | fail) | refine bR (bB (by kernel_rfl)) ?_ | fail)
            all_goals first
              | (exfalso; omega)
              | (refine cA (by first | exact .inl rfl | exact .inr rfl) (cC rfl (aY rfl) (aY rfl)) rfl ?_; rfl)
        · have ej : j = l.length - 1 := by omega
          subst ej
          have e := hgood ⟨hbl, hone⟩
          subst e
          have hcall := aAl l hbl (by omega) hk l.length (l.length - 1) (by omega) (by omega)
          repeat' (first | refine bM ?_ | (refine bP ?_; first | refine aX tabOk rfl rfl rfl (nb rfl) rfl ?_ | refine bF rfl rfl (nb rfl) ?_ | (refine bO rfl rfl rfl (nb rfl) rfl rfl rfl (fun hq => ?_) (fun hq => ?_) <;> (first | (simp only [sD, sE, sB, sC, sN, sM, sT, sF] at hq; try (exfalso; omega)) | skip))| refine bJ (z := ((l.length - 1 : Nat) : Int)) rfl rfl rfl (nb rfl) rfl rfl (by omega) (by omega) (by omega) ?_ | refine bX rfl rfl (nb rfl) rfl rfl rfl rfl (hcall) ?_ | refine aE rfl rfl rfl (nb rfl) rfl rfl (by omega) ?_ | refine bI rfl rfl rfl (nb rfl) rfl rfl rfl (by omega) (by omega) ?_ | refine bJ rfl rfl rfl (nb rfl) rfl rfl rfl (by omega) (by omega) ?_ | refine bH tabOk rfl rfl rfl (nb rfl) rfl rfl rfl rfl rfl rfl rfl rfl rfl ?_ | refine aZ tabOk rfl rfl (nb rfl) rfl ?_ | refine aU tabOk rfl rfl rfl (nb rfl) rfl rfl rfl rfl rfl rfl ?_ | refine aV tabOk rfl rfl rfl (nb rfl) rfl rfl rfl rfl ?_ | refine aN tabOk rfl rfl rfl rfl rfl rfl rfl rfl rfl rfl rfl ?_ | refine aR tabOk rfl rfl rfl (nb rfl) rfl rfl rfl rfl (by first | assumption | omega) ?_ | refine aJ tabOk rfl rfl rfl (nb rfl) rfl rfl rfl rfl (by first | rfl | omega) (by first | omega | simp) ?_ | refine aC tabOk rfl rfl rfl (nb rfl) rfl rfl rfl (by assumption) ?_ | refine aC tabOk rfl rfl rfl (nb rfl) rfl rfl rfl (bS _ _ (by first | assumption | omega)) ?_ | refine aE rfl rfl rfl (nb rfl) rfl rfl (by omega) ?_ | ((fail_if_success (refine aG (b := true) rfl rfl rfl ?_)); (fail_if_success (refine aG (b := false) rfl rfl rfl ?_)); refine aW rfl rfl rfl (fun hq => ?_) (fun hq => ?_) <;> first | subst hq | (first | (simp only [sD, sE, sB, sC, sN, sM, sT, sF] at hq; try (exfalso; omega)) | skip)) | fail) | (refine bW ?_; first | refine bN ?_ | refine bT ?_ | refine aQ ?_ | refine bD ?_ | refine bU ?_ | refine bL ?_ | refine bK ?_ | refine aA (b := true) rfl (fun _ => ?_) nTf | refine aA (b := false) rfl nFt (fun _ => ?_) | refine bE ?_ | refine bC ?_ | refine bA mixed (by kernel_rfl) ?_ | refine aD mixed (by kernel_rfl) ?_ | (refine aA rfl (fun hq => ?_) (fun hq => ?_) <;> first | subst hq | (first | (simp only [sD, sE, sB, sC, sN, sM, sT, sF] at hq; try (exfalso; omega)) | skip)) | fail) | (refine bQ ?_; first | refine bZ ?_ | refine aK ?_ | refine aT ?_ | fail) | (refine bG ?_; first | refine bV ?_ | refine aH ?_ | refine aI (by decide) ?_ | refine aM ?_ | fail) | refine bR (bB (by kernel_rfl)) ?_ | fail)
          all_goals first
            | (exfalso; omega)
            | (refine cA (by first | exact .inl rfl | exact .inr rfl) (cC rfl (aY rfl) (aY rfl)) rfl ?_; rfl)
end Go.Proofs.Ytlbemgokilhdnaa.Ab
namespace Go.Proofs.Ytlbemgokilhdnaa.Ab
set_option linter.unusedVariables false
set_option linter.unusedSimpArgs false
open Go.RowKit
attribute [local irreducible] AWP AOps AExit AThen ABlock ANoGoto FeetOk
theorem iD (n K : Nat) : (if (K : Int) < (n : Int) then (K : Int) else (n : Int)) = ((min n K : Nat) : Int) := by split <;> omega
def cutB (K : Nat) (s : ByteArray) : ByteArray := s.extract 0 (min s.size K)
theorem oU (K : Nat) (s : ByteArray) : (cutB K s).size ≤ K := by unfold cutB; rw [ByteArray.size_extract]; omega
def fewCell (c : CellD) : CellD := ⟨decide (c.kids.length = 0), c.k, c.n, cutB 165 c.a, cutB 20 c.b, c.kids.take 12⟩
theorem yI (l : List Int) : IV.sl false (min l.length 12 - 0) (((intIVs l).drop (0 * 1)).take ((min l.length 12 - 0) * 1)) = .sl false (l.take 12).length (intIVs (l.take 12)) := by
  unfold intIVs
  rw [Nat.zero_mul, List.drop_zero, Nat.sub_zero, Nat.mul_one, List.length_take, List.map_take, Nat.min_comm]
  congr 1
  conv => rhs; rw [List.take_eq_take_min, List.length_map]
theorem pZ (l : List CellD) (c : CellD) : cellIVs (l ++ [c]) = cellIVs l ++ cellIV c := by
  rw [kW]
  show _ ++ (cellIV c ++ []) = _
  rw [List.append_nil]
def fewCells10 (l : List CellD) : List CellD := (l.take 60).map fewCell
set_option maxHeartbeats 16000000 in
set_option maxRecDepth 10000 in
theorem rP (l : List CellD) (hff : ∀ c ∈ l, c.f = false) : ACalls Try.prog 15 [.imm (.agg [.sl false l.length (cellIVs l)])] [] (.imm (openR (fewCells10 l)).1.iv) [] := by
  have hkids : ∀ c ∈ fewCells10 l, c.kids.length ≤ 8192 := fun c hc => by
    unfold fewCells10 at hc
    obtain ⟨d, _, rfl⟩ := List.mem_map.1 hc
    show (d.kids.take 12).length ≤ 8192
    rw [List.length_take]; omega
  have hopen := aAm (fewCells10 l) hkids
  refine bY Try.func15 rfl rfl (nb rfl) rfl ?_
  repeat' (first | refine bM ?_ | (refine bP ?_; first | refine aX tabOk rfl rfl rfl (nb rfl) rfl ?_ | refine bF rfl rfl (nb rfl) ?_ | (refine bO rfl rfl rfl (nb rfl) rfl rfl rfl (fun hq => ?_) (fun hq => ?_) <;> (first | (simp only [sD, sE, sB, sC, sN, sM, sT, sF] at hq; try (exfalso; omega)) | skip)) | refine aE rfl rfl rfl (nb rfl) rfl rfl (by omega) ?_ | refine bI rfl rfl rfl (nb rfl) rfl rfl rfl (by omega) (by omega) ?_ | refine bJ rfl rfl rfl (nb rfl) rfl rfl rfl (by omega) (by omega) ?_ | refine bH tabOk rfl rfl rfl (nb rfl) rfl rfl rfl rfl rfl rfl rfl rfl rfl ?_ | refine aZ tabOk rfl rfl (nb rfl) rfl ?_ | refine aU tabOk rfl rfl rfl (nb rfl) rfl rfl rfl rfl rfl rfl ?_ | refine aV tabOk rfl rfl rfl (nb rfl) rfl rfl rfl rfl ?_ | refine aN tabOk rfl rfl rfl rfl rfl rfl rfl rfl rfl rfl rfl ?_ | refine aR tabOk rfl rfl rfl (nb rfl) rfl rfl rfl rfl (by first | assumption | omega) ?_ | refine aJ tabOk rfl rfl rfl (nb rfl) rfl rfl rfl rfl (by first | rfl | omega) (by first | omega | simp) ?_ | refine aC tabOk rfl rfl rfl (nb rfl) rfl rfl rfl (by assumption) ?_ | refine aC tabOk rfl rfl rfl (nb rfl) rfl rfl rfl (bS _ _ (by first | assumption | omega)) ?_ | refine aE rfl rfl rfl (nb rfl) rfl rfl (by omega) ?_ | ((fail_if_success (refine aG (b := true) rfl rfl rfl ?_)); (fail_if_success (refine aG (b := false) rfl rfl rfl ?_)); refine aW rfl rfl rfl (fun hq => ?_) (fun hq => ?_) <;> first | subst hq | (first | (simp only [sD, sE, sB, sC, sN, sM, sT, sF] at hq; try (exfalso; omega)) | skip)) | fail) | (refine bW ?_; first | refine bN ?_ | refine bT ?_ | refine aQ ?_ | refine bD ?_ | refine bU ?_ | refine bL ?_ | refine bK ?_ | refine aA (b := true) rfl (fun _ => ?_) nTf | refine aA (b := false) rfl nFt (fun _ => ?_) | refine bE ?_ | refine bC ?_ | refine bA mixed (by kernel_rfl) ?_ | refine aD mixed (by kernel_rfl) ?_ | (refine aA rfl (fun hq => ?_) (fun hq => ?_) <;> first | subst hq | (first | (simp only [sD, sE, sB, sC, sN, sM, sT, sF] at hq; try (exfalso; omega)) | skip)) | fail) | (refine bQ ?_; first | refine bZ ?_ | refine aK ?_ | refine aT ?_ | fail) | (refine bG ?_; first | refine bV ?_ | refine aH ?_ | refine aI (by decide) ?_ | refine aM ?_ | fail) | refine bR (bB (by kernel_rfl)) ?_ | fail)
  refine cY (dU (h0 := 3) (k0 := 0) 500 50 5 rfl rfl (by simp) rfl rfl) ?_
  refine cH (ι := {i : Nat // i ≤ l.length ∧ i ≤ 60}) (fun i => S.f ⟨[(4, .imm (.lit (.int .i64 (i.1 : Int)))), (3, .obj 3 0), (1, .imm (.ptr [.sl false l.length (cellIVs l)] 0))], [(500, .arr 50 5 i.1 (cellIVs ((l.take i.1).map fewCell))), (3, .cells [.ref 500 i.1])]⟩) (fun i => l.length - i.1) ⟨0, Nat.zero_le _, Nat.zero_le _⟩ (cF (by repeat' first | exact trivial | refine ⟨rfl, ?_⟩) (by repeat' first | exact trivial | refine ⟨rfl, ?_⟩)) ?_
  rintro ⟨i, hi, hiK⟩
  dsimp only
  by_cases hgo : i < l.length ∧ i < 60
  · obtain ⟨hil, hik⟩ := hgo
    have hrow := fM l i hil
    have hcf := hff l[i] (List.getElem_mem hil)
    have hnx : cellIVs ((l.take (i + 1)).map fewCell) = cellIVs ((l.take i).map fewCell) ++ cellIV (fewCell l[i]) := by
      rw [List.take_succ_eq_append_getElem hil, List.map_append, List.map_singleton, pZ]
    generalize l[i] = c at *
    change _ = [IV.lit (.int .i64 c.k), .lit (.int .i64 c.n), .lit (.string c.a), .lit (.string c.b), .sl c.f c.kids.length (intIVs c.kids)] at hrow
    rw [hcf] at hrow
    have hkc := yI c.kids
    by_cases hz : c.kids.length = 0
    · have hk0 : c.kids = [] := List.eq_nil_of_length_eq_zero hz
      have hfc : cellIV (fewCell c) = [IV.lit (.int .i64 c.k), .lit (.int .i64 c.n), .lit (.string (cutB 165 c.a)), .lit (.string (cutB 20 c.b)), .sl true 0 []] := by
        unfold fewCell cellIV
        rw [hk0]
        rfl
      rw [hk0] at hrow hkc
      rw [hfc] at hnx
      repeat' (first | refine bM ?_ | (refine bP ?_; first | refine aX tabOk rfl rfl rfl (nb rfl) rfl ?_ | refine bF rfl rfl (nb rfl) ?_ | (refine bO rfl rfl rfl (nb rfl) rfl rfl rfl (fun hq => ?_) (fun hq => ?_) <;> (first | (simp only [sD, sE, sB, sC, sN, sM, sT, sF] at hq; try (exfalso; omega)) | skip))| refine jH tabOk rfl rfl rfl (nb rfl) rfl rfl rfl hrow rfl ?_ | refine gB rfl rfl rfl (nb rfl) rfl rfl (iD c.a.size 165) ?_ | refine gB rfl rfl rfl (nb rfl) rfl rfl (iD c.b.size 20) ?_ | refine gB (r := 0) rfl rfl rfl (nb rfl) rfl rfl rfl ?_ | refine jX (l := 0) (h := min c.a.size 165) (r := cutB 165 c.a) tabOk rfl rfl rfl (nb rfl) rfl rfl rfl rfl (by omega) (by omega) rfl ?_ | refine jX (l := 0) (h := min c.b.size 20) (r := cutB 20 c.b) tabOk rfl rfl rfl (nb rfl) rfl rfl rfl rfl (by omega) (by omega) rfl ?_ | refine gG (l := 0) (h := 0) tabOk rfl rfl rfl (nb rfl) rfl rfl rfl rfl rfl (Nat.le_refl _) (Nat.zero_le _) rfl ?_ | refine jZ tabOk rfl rfl rfl (nb rfl) rfl rfl rfl rfl ?_ | refine dF tabOk rfl rfl rfl (nb rfl) rfl rfl rfl rfl rfl rfl rfl (by first | omega | decide) rfl (by first | omega | (dsimp only; omega)) (by first | omega | (dsimp only; omega)) ?_ | refine aE rfl rfl rfl (nb rfl) rfl rfl (by omega) ?_ | refine bI rfl rfl rfl (nb rfl) rfl rfl rfl (by omega) (by omega) ?_ | refine bJ rfl rfl rfl (nb rfl) rfl rfl rfl (by omega) (by omega) ?_ | refine bH tabOk rfl rfl rfl (nb rfl) rfl rfl rfl rfl rfl rfl rfl rfl rfl ?_ | refine aZ tabOk rfl rfl (nb rfl) rfl ?_ | refine aU tabOk rfl rfl rfl (nb rfl) rfl rfl rfl rfl rfl rfl ?_ | refine aV tabOk rfl rfl rfl (nb rfl) rfl rfl rfl rfl ?_ | refine aN tabOk rfl rfl rfl rfl rfl rfl rfl rfl rfl rfl rfl ?_ | refine aR tabOk rfl rfl rfl (nb rfl) rfl rfl rfl rfl (by first | assumption | omega) ?_ | refine aJ tabOk rfl rfl rfl (nb rfl) rfl rfl rfl rfl (by first | rfl | omega) (by first | omega | simp) ?_ | refine aC tabOk rfl rfl rfl (nb rfl) rfl rfl rfl (by assumption) ?_ | refine aC tabOk rfl rfl rfl (nb rfl) rfl rfl rfl (bS _ _ (by first | assumption | omega)) ?_ | refine aE rfl rfl rfl (nb rfl) rfl rfl (by omega) ?_ | ((fail_if_success (refine aG (b := true) rfl rfl rfl ?_)); (fail_if_success (refine aG (b := false) rfl rfl rfl ?_)); refine aW rfl rfl rfl (fun hq => ?_) (fun hq => ?_) <;> first | subst hq | (first | (simp only [sD, sE, sB, sC, sN, sM, sT, sF] at hq; try (exfalso; omega)) | skip)) | fail) | (refine bW ?_; first | refine bN ?_ | refine bT ?_ | refine aQ ?_ | refine bD ?_ | refine bU ?_ | refine bL ?_ | refine bK ?_ | refine aA (b := true) rfl (fun _ => ?_) nTf | refine aA (b := false) rfl nFt (fun _ => ?_) | refine bE ?_ | refine bC ?_ | refine bA mixed (by kernel_rfl) ?_ | refine aD mixed (by kernel_rfl) ?_ | (refine aA rfl (fun hq => ?_) (fun hq => ?_) <;> first | subst hq | (first | (simp only [sD, sE, sB, sC, sN, sM, sT, sF] at hq; try (exfalso; omega)) | skip)) | fail) | (refine bQ ?_; first | refine bZ ?_ | refine aK ?_ | refine aT ?_ | fail) | (refine bG ?_; first | refine bV ?_ | refine aH ?_ | refine aI (by decide) ?_ | refine aM ?_ | fail) | refine bR (bB (by kernel_rfl)) ?_ | fail)
      refine ⟨⟨i + 1, hil, hik⟩, (by show l.length - (i + 1) < l.length - i; omega), ?_⟩
      dsimp only
      rw [hnx]
      exact (cF (by repeat' first | exact trivial | refine ⟨rfl, ?_⟩) (by repeat' first | exact trivial | refine ⟨rfl, ?_⟩))
    · have hfc : cellIV (fewCell c) = [IV.lit (.int .i64 c.k), .lit (.int .i64 c.n), .lit (.string (cutB 165 c.a)), .lit (.string (cutB 20 c.b)), .sl false (0 + (c.kids.take 12).length) (intIVs (c.kids.take 12))] := by
        unfold fewCell cellIV
        dsimp only
        rw [decide_eq_false hz, Nat.zero_add]
      have hkl : 0 < (c.kids.take 12).length := by rw [List.length_take]; omega
      have hkl2 : (c.kids.take 12).length ≤ 12 := by rw [List.length_take]; omega
      have hil2 := tT (c.kids.take 12)
      rw [hfc] at hnx
      repeat' (first | refine bM ?_ | (refine bP ?_; first | refine aX tabOk rfl rfl rfl (nb rfl) rfl ?_ | refine bF rfl rfl (nb rfl) ?_ | (refine bO rfl rfl rfl (nb rfl) rfl rfl rfl (fun hq => ?_) (fun hq => ?_) <;> (first | (simp only [sD, sE, sB, sC, sN, sM, sT, sF] at hq; try (exfalso; omega)) | skip))| refine jH tabOk rfl rfl rfl (nb rfl) rfl rfl rfl hrow rfl ?_ | refine gB rfl rfl rfl (nb rfl) rfl rfl (iD c.a.size 165) ?_ | refine gB rfl rfl rfl (nb rfl) rfl rfl (iD c.b.size 20) ?_ | refine jX (l := 0) (h := min c.a.size 165) (r := cutB 165 c.a) tabOk rfl rfl rfl (nb rfl) rfl rfl rfl rfl (by omega) (by omega) rfl ?_ | refine jX (l := 0) (h := min c.b.size 20) (r := cutB 20 c.b) tabOk rfl rfl rfl (nb rfl) rfl rfl rfl rfl (by omega) (by omega) rfl ?_ | refine gB rfl rfl rfl (nb rfl) rfl rfl (iD c.kids.length 12) ?_ | refine gG (l := 0) (h := min c.kids.length 12) tabOk rfl rfl rfl (nb rfl) rfl rfl rfl rfl rfl (Nat.zero_le _) (by omega) hkc ?_ | refine gU (zs := intIVs (c.kids.take 12)) tabOk rfl rfl rfl (nb rfl) rfl rfl rfl rfl (.inl rfl) rfl rfl hkl (by rw [hil2]; exact (Nat.mul_one _).symm) (by omega) (by dsimp only; omega) rfl ?_ | refine dF tabOk rfl rfl rfl (nb rfl) rfl rfl rfl rfl rfl rfl rfl (by first | omega | decide) rfl (by first | omega | (dsimp only; omega)) (by first | omega | (dsimp only; omega)) ?_ | refine aE rfl rfl rfl (nb rfl) rfl rfl (by omega) ?_ | refine bI rfl rfl rfl (nb rfl) rfl rfl rfl (by omega) (by omega) ?_ | refine bJ rfl rfl rfl (nb rfl) rfl rfl rfl (by omega) (by omega) ?_ | refine bH tabOk rfl rfl rfl (nb rfl) rfl rfl rfl rfl rfl rfl rfl rfl rfl ?_ | refine aZ tabOk rfl rfl (nb rfl) rfl ?_ | refine aU tabOk rfl rfl rfl (nb rfl) rfl rfl rfl rfl rfl rfl ?_ | refine aV tabOk rfl rfl rfl (nb rfl) rfl rfl rfl rfl ?_ | refine aN tabOk rfl rfl rfl rfl rfl rfl rfl rfl rfl rfl rfl ?_ | refine aR tabOk rfl rfl rfl (nb rfl) rfl rfl rfl rfl (by first | assumption | omega) ?_ | refine aJ tabOk rfl rfl rfl (nb rfl) rfl rfl rfl rfl (by first | rfl | omega) (by first | omega | simp) ?_ | refine aC tabOk rfl rfl rfl (nb rfl) rfl rfl rfl (by assumption) ?_ | refine aC tabOk rfl rfl rfl (nb rfl) rfl rfl rfl (bS _ _ (by first | assumption | omega)) ?_ | refine aE rfl rfl rfl (nb rfl) rfl rfl (by omega) ?_ | ((fail_if_success (refine aG (b := true) rfl rfl rfl ?_)); (fail_if_success (refine aG (b := false) rfl rfl rfl ?_)); refine aW rfl rfl rfl (fun hq => ?_) (fun hq => ?_) <;> first | subst hq | (first | (simp only [sD, sE, sB, sC, sN, sM, sT, sF] at hq; try (exfalso; omega)) | skip)) | fail) | (refine bW ?_; first | refine bN ?_ | refine bT ?_ | refine aQ ?_ | refine bD ?_ | refine bU ?_ | refine bL ?_ | refine bK ?_ | refine aA (b := true) rfl (fun _ => ?_) nTf | refine aA (b := false) rfl nFt (fun _ => ?_) | refine bE ?_ | refine bC ?_ | refine bA mixed (by kernel_rfl) ?_ | refine aD mixed (by kernel_rfl) ?_ | (refine aA rfl (fun hq => ?_) (fun hq => ?_) <;> first | subst hq | (first | (simp only [sD, sE, sB, sC, sN, sM, sT, sF] at hq; try (exfalso; omega)) | skip)) | fail) | (refine bQ ?_; first | refine bZ ?_ | refine aK ?_ | refine aT ?_ | fail) | (refine bG ?_; first | refine bV ?_ | refine aH ?_ | refine aI (by decide) ?_ | refine aM ?_ | fail) | refine bR (bB (by kernel_rfl)) ?_ | fail)
      refine ⟨⟨i + 1, hil, hik⟩, (by show l.length - (i + 1) < l.length - i; omega), ?_⟩
      dsimp only
      rw [hnx]
      exact (cF (by repeat' first | exact trivial | refine ⟨rfl, ?_⟩) (by repeat' first | exact trivial | refine ⟨rfl, ?_⟩))
  · have htk : (l.take i).map fewCell = fewCells10 l := by
      unfold fewCells10
      congr 1
      by_cases hK : i = 60
      · rw [hK]
      · rw [List.take_of_length_le (by omega), List.take_of_length_le (by omega)]
    have hfl : i = (fewCells10 l).length := by rw [← htk, List.length_map, List.length_take]; omega
    rw [htk]
    refine cY ((Imp.of_le (σ' := S.f ⟨[(4, .imm (.lit (.int .i64 (i : Int)))), (3, .obj 3 0), (1, .imm (.ptr [.sl false l.length (cellIVs l)] 0))], [(500, .arr 50 5 (fewCells10 l).length (cellIVs (fewCells10 l))), (3, .cells [.ref 500 (fewCells10 l).length])]⟩) (by rw [← hfl]; exact (cF (by repeat' first | exact trivial | refine ⟨rfl, ?_⟩) (by repeat' first | exact trivial | refine ⟨rfl, ?_⟩)))).trans (cW (g := 500) rfl (by repeat' first | exact trivial | exact fun _ => rfl | refine ⟨?_, ?_⟩) (by repeat' first | exact trivial | exact fun _ => rfl | refine ⟨?_, ?_⟩))) ?_
    generalize fewCells10 l = L at *
    generalize openR L = R at *
    obtain ⟨R1, R2⟩ := R
    dsimp only at *
    repeat' (first | refine bM ?_ | (refine bP ?_; first | refine aX tabOk rfl rfl rfl (nb rfl) rfl ?_ | refine bF rfl rfl (nb rfl) ?_ | (refine bO rfl rfl rfl (nb rfl) rfl rfl rfl (fun hq => ?_) (fun hq => ?_) <;> (first | (simp only [sD, sE, sB, sC, sN, sM, sT, sF] at hq; try (exfalso; omega)) | skip))| refine bX rfl rfl (nb rfl) rfl rfl rfl rfl (hopen) ?_ | refine aE rfl rfl rfl (nb rfl) rfl rfl (by omega) ?_ | refine bI rfl rfl rfl (nb rfl) rfl rfl rfl (by omega) (by omega) ?_ | refine bJ rfl rfl rfl (nb rfl) rfl rfl rfl (by omega) (by omega) ?_ | refine bH tabOk rfl rfl rfl (nb rfl) rfl rfl rfl rfl rfl rfl rfl rfl rfl ?_ | refine aZ tabOk rfl rfl (nb rfl) rfl ?_ | refine aU tabOk rfl rfl rfl (nb rfl) rfl rfl rfl rfl rfl rfl ?_ | refine aV tabOk rfl rfl rfl (nb rfl) rfl rfl rfl rfl ?_ | refine aN tabOk rfl rfl rfl rfl rfl rfl rfl rfl rfl rfl rfl ?_ | refine aR tabOk rfl rfl rfl (nb rfl) rfl rfl rfl rfl (by first | assumption | omega) ?_ | refine aJ tabOk rfl rfl rfl (nb rfl) rfl rfl rfl rfl (by first | rfl | omega) (by first | omega | simp) ?_ | refine aC tabOk rfl rfl rfl (nb rfl) rfl rfl rfl (by assumption) ?_ | refine aC tabOk rfl rfl rfl (nb rfl) rfl rfl rfl (bS _ _ (by first | assumption | omega)) ?_ | refine aE rfl rfl rfl (nb rfl) rfl rfl (by omega) ?_ | ((fail_if_success (refine aG (b := true) rfl rfl rfl ?_)); (fail_if_success (refine aG (b := false) rfl rfl rfl ?_)); refine aW rfl rfl rfl (fun hq => ?_) (fun hq => ?_) <;> first | subst hq | (first | (simp only [sD, sE, sB, sC, sN, sM, sT, sF] at hq; try (exfalso; omega)) | skip)) | fail) | (refine bW ?_; first | refine bN ?_ | refine bT ?_ | refine aQ ?_ | refine bD ?_ | refine bU ?_ | refine bL ?_ | refine bK ?_ | refine aA (b := true) rfl (fun _ => ?_) nTf | refine aA (b := false) rfl nFt (fun _ => ?_) | refine bE ?_ | refine bC ?_ | refine bA mixed (by kernel_rfl) ?_ | refine aD mixed (by kernel_rfl) ?_ | (refine aA rfl (fun hq => ?_) (fun hq => ?_) <;> first | subst hq | (first | (simp only [sD, sE, sB, sC, sN, sM, sT, sF] at hq; try (exfalso; omega)) | skip)) | fail) | (refine bQ ?_; first | refine bZ ?_ | refine aK ?_ | refine aT ?_ | fail) | (refine bG ?_; first | refine bV ?_ | refine aH ?_ | refine aI (by decide) ?_ | refine aM ?_ | fail) | refine bR (bB (by kernel_rfl)) ?_ | fail)
    all_goals first
      | exact dJ (by first | exact .inl rfl | exact .inr rfl) (cB rfl (aY rfl)) rfl
      | (exfalso; omega)
end Go.Proofs.Ytlbemgokilhdnaa.Ab
namespace Go.Proofs.Ytlbemgokilhdnaa.Ab
set_option linter.unusedVariables false
set_option linter.unusedSimpArgs false
open Go.RowKit
theorem mU (l : List CellD) (hb : below l) : ∀ (f f' i : Nat), i < f → i < f' → i < l.length → growT l f i = growT l f' i
  | 0, _, _, h, _, _ => by omega
  | f + 1, 0, _, _, h, _ => by omega
  | f + 1, f' + 1, i, h, h', hi => by
    rw [growT, growT, List.getElem?_eq_getElem hi]
    dsimp only
    congr 1
    refine List.map_congr_left fun x hx => ?_
    have := hb i hi x hx
    exact mU l hb f f' x.toNat (by omega) (by omega) (by omega)
theorem kX (l : List CellD) (hb : below l) : ∀ (f i : Nat), i < f → i < l.length → (growT l f i).whole = true
  | 0, _, h, _ => by omega
  | f + 1, i, h, hi => by
    rw [growT, List.getElem?_eq_getElem hi]
    show Tree.wholes (List.map _ _) = true
    have key : ∀ ks : List Int, (∀ x ∈ ks, 0 ≤ x ∧ x < (i : Int)) → Tree.wholes (ks.map fun x => growT l f x.toNat) = true := by
      intro ks
      induction ks with
      | nil => intro _; rfl
      | cons x ks ih =>
        intro hk
        have hx := hk x List.mem_cons_self
        rw [List.map_cons, Tree.wholes, kX l hb f x.toNat (by omega) (by omega), ih (fun y hy => hk y (List.mem_cons_of_mem _ hy))]
        rfl
    exact key _ (hb i hi)
theorem oV : ∀ ts : List Tree, Tree.sizes ts = (ts.map Tree.size).sum
  | [] => rfl
  | t :: ts => by rw [Tree.sizes, oV ts]; simp
theorem tV (l : List CellD) (hb : below l) (i : Nat) (hi : i < l.length) : (growT l l.length i).size = 1 + (l[i].kids.map fun x => (growT l l.length x.toNat).size).sum := by
  obtain ⟨f, hf⟩ : ∃ f, l.length = f + 1 := ⟨l.length - 1, by omega⟩
  conv => lhs; rw [hf]
  rw [growT, List.getElem?_eq_getElem hi]
  show 1 + Tree.sizes (List.map _ _) = _
  rw [oV, List.map_map]
  congr 2
  refine List.map_congr_left fun x hx => ?_
  have := hb i hi x hx
  show (growT l f x.toNat).size = _
  rw [mU l hb f l.length x.toNat (by omega) (by omega) (by omega)]
theorem uZ (l : List CellD) (hb : below l) : ∀ n, n ≤ l.length → ((List.range n).map fun i => (growT l l.length i).size).sum = n + ((allK (l.take n)).map fun x => (growT l l.length x.toNat).size).sum
  | 0, _ => by simp [allK]
  | n + 1, h => by
    rw [List.range_succ, List.map_append, List.sum_append, uZ l hb n (by omega), oT l n (by omega), List.map_append, List.sum_append, List.map_singleton, List.sum_singleton, tV l hb n (by omega)]
    omega
theorem yJ (l : List CellD) (x : Int) (h : x ∈ allK l) : ∃ i, ∃ hi : i < l.length, x ∈ l[i].kids := by
  induction l with
  | nil => cases h
  | cons c l ih =>
    rw [allK, List.mem_append] at h
    rcases h with h | h
    · exact ⟨0, by simp, h⟩
    · obtain ⟨i, hi, hx⟩ := ih h
      exact ⟨i + 1, by simpa using hi, by simpa using hx⟩
theorem wN (l : List CellD) (hb : below l) (ho : once l) : List.Perm (allK l) ((List.range (l.length - 1)).map fun (j : Nat) => (j : Int)) := by
  rw [List.perm_iff_count]
  intro a
  by_cases h : 0 ≤ a ∧ a < ((l.length - 1 : Nat) : Int)
  · obtain ⟨j, rfl⟩ : ∃ j : Nat, a = (j : Int) := ⟨a.toNat, by omega⟩
    rw [ho j (by omega)]
    have hn : ((List.range (l.length - 1)).map fun (j : Nat) => (j : Int)).Nodup := by
      rw [List.nodup_iff_pairwise_ne, List.pairwise_map]
      exact List.nodup_range.imp (fun h1 h2 => h1 (by omega))
    rw [hn.count, if_pos]
    exact List.mem_map.2 ⟨j, List.mem_range.2 (by omega), rfl⟩
  · rw [List.count_eq_zero.2, List.count_eq_zero.2]
    · intro hm
      obtain ⟨j, hj, rfl⟩ := List.mem_map.1 hm
      rw [List.mem_range] at hj
      exact h ⟨by omega, by omega⟩
    · intro hm
      obtain ⟨i, hi, hx⟩ := yJ l a hm
      have := hb i hi a hx
      exact h ⟨this.1, by omega⟩
theorem wO (l : List CellD) (hb : below l) (ho : once l) (h0 : 0 < l.length) : (growT l l.length (l.length - 1)).size = l.length := by
  have h1 := uZ l hb l.length (Nat.le_refl _)
  rw [List.take_length] at h1
  have h2 := ((wN l hb ho).map (fun x => (growT l l.length x.toNat).size)).sum_nat
  rw [h2, List.map_map] at h1
  obtain ⟨n, hn⟩ : ∃ n, l.length = n + 1 := ⟨l.length - 1, by omega⟩
  have e : l.length - 1 = n := by omega
  rw [e] at h1 ⊢
  have h3 : (List.range l.length) = List.range n ++ [n] := by rw [hn, List.range_succ]
  rw [h3, List.map_append, List.sum_append, List.map_singleton, List.sum_singleton] at h1
  have h4 : ((fun x : Int => (growT l l.length x.toNat).size) ∘ fun (j : Nat) => (j : Int)) = fun i => (growT l l.length i).size := rfl
  rw [h4] at h1
  omega
theorem rQ (l : List CellD) (A B : Nat) (hb : below l) (hc : ∀ c ∈ l, c.a.size ≤ A ∧ c.b.size ≤ B) : ∀ (f i : Nat), i < f → i < l.length → (growT l f i).wt ≤ (1 + A + B) * (growT l f i).size
  | 0, _, h, _ => by omega
  | f + 1, i, h, hi => by
    rw [growT, List.getElem?_eq_getElem hi]
    dsimp only
    have h1 := hc l[i] (List.getElem_mem hi)
    have key : ∀ ks : List Int, (∀ x ∈ ks, 0 ≤ x ∧ x < (i : Int)) → Tree.wts (ks.map fun x => growT l f x.toNat) ≤ (1 + A + B) * Tree.sizes (ks.map fun x => growT l f x.toNat) := by
      intro ks
      induction ks with
      | nil => intro _; exact Nat.zero_le _
      | cons x ks ih =>
        intro hk
        have hx := hk x List.mem_cons_self
        have h2 := rQ l A B hb hc f x.toNat (by omega) (by omega)
        have h3 := ih (fun y hy => hk y (List.mem_cons_of_mem _ hy))
        rw [List.map_cons, Tree.wts, Tree.sizes, Nat.mul_add]
        omega
    have h4 := key _ (hb i hi)
    rw [Tree.wt, Tree.size, Nat.mul_add]
    omega
theorem tW (L : List CellD) (A B : Nat) (hc : ∀ c ∈ L, c.a.size ≤ A ∧ c.b.size ≤ B) : (openR L).1 = .nil ∨ ((openR L).1.whole = true ∧ (openR L).1.size ≤ L.length ∧ (openR L).1.wt ≤ (1 + A + B) * L.length) := by
  unfold openR
  split
  · exact .inl rfl
  · split
    · exact .inl rfl
    · split
      · rename_i h0 h1 h
        obtain ⟨hb, ho⟩ := h
        have hs := wO L hb ho (by omega)
        have hw := rQ L A B hb hc L.length (L.length - 1) (by omega) (by omega)
        rw [hs] at hw
        exact .inr ⟨kX L hb _ _ (by omega) (by omega), by rw [hs]; exact Nat.le_refl _, hw⟩
      · exact .inl rfl
theorem yK (K : Nat) (l : List CellD) : ∀ c ∈ (l.take K).map fewCell, c.a.size ≤ 165 ∧ c.b.size ≤ 20 := fun c hc => by
  obtain ⟨d, _, rfl⟩ := List.mem_map.1 hc
  exact ⟨oU _ _, oU _ _⟩
theorem tX (l : List CellD) (hff : ∀ c ∈ l, c.f = false) : ∃ t : Tree, (t = .nil ∨ (t.whole = true ∧ t.size ≤ 60 ∧ t.wt ≤ 11160)) ∧ ACalls Try.prog 15 [.imm (.agg [.sl false l.length (cellIVs l)])] [] (.imm t.iv) [] := by
  refine ⟨_, ?_, rP l hff⟩
  rcases tW (fewCells10 l) 165 20 (yK 60 l) with h | ⟨h1, h2, h3⟩
  · exact .inl h
  · have hl : (fewCells10 l).length ≤ 60 := by unfold fewCells10; rw [List.length_map, List.length_take]; omega
    exact .inr ⟨h1, by omega, by omega⟩
abbrev tyCell : Ty := .struct [.int .i64, .int .i64, .string, .string, .slice (.int .i64)]
abbrev tyTree : Ty := .struct [.slice tyCell]
theorem oW : ∀ (xs : List (List IV)), (∀ x ∈ xs, Fits (.int .i64) x) → ∃ l : List Int, l.length = xs.length ∧ xs.flatten = intIVs l
  | [], h => ⟨[], rfl, rfl⟩
  | x :: xs, h => by
    obtain ⟨l, h1, h2⟩ := oW xs (fun y hy => h y (List.mem_cons_of_mem _ hy))
    cases h x List.mem_cons_self with
    | int k n hn => exact ⟨n :: l, by simp [h1], by rw [List.flatten_cons, h2]; rfl⟩
theorem wP {x : List IV} (h : Fits tyCell x) : ∃ c : CellD, c.f = false ∧ x = cellIV c := by
  cases h with
  | struct fs xs h =>
    cases h with
    | cons t ts x xs h1 h =>
      cases h1 with
      | int k n hn =>
        cases h with
        | cons t ts x xs h2 h =>
          cases h2 with
          | int k n2 hn2 =>
            cases h with
            | cons t ts x xs h3 h =>
              cases h3 with
              | string a ha =>
                cases h with
                | cons t ts x xs h4 h =>
                  cases h4 with
                  | string b hb =>
                    cases h with
                    | cons t ts x xs h5 h =>
                      cases h
                      cases h5 with
                      | slice e ys hy hys =>
                        obtain ⟨l, hl1, hl2⟩ := oW ys hys
                        refine ⟨⟨false, n, n2, a, b, l⟩, rfl, ?_⟩
                        rw [hl2, ← hl1]
                        rfl
theorem mV : ∀ (xs : List (List IV)), (∀ x ∈ xs, Fits tyCell x) → ∃ l : List CellD, l.length = xs.length ∧ xs.flatten = cellIVs l ∧ ∀ c ∈ l, c.f = false
  | [], h => ⟨[], rfl, rfl, fun c hc => by cases hc⟩
  | x :: xs, h => by
    obtain ⟨l, h1, h2, h3⟩ := mV xs (fun y hy => h y (List.mem_cons_of_mem _ hy))
    obtain ⟨c, hc, rfl⟩ := wP (h x List.mem_cons_self)
    refine ⟨c :: l, by simp [h1], by rw [List.flatten_cons, h2]; rfl, fun d hd => ?_⟩
    rcases List.mem_cons.1 hd with rfl | hd
    · exact hc
    · exact h3 d hd
theorem wQ {x : IV} (h : FitsV tyTree x) : ∃ l : List CellD, x = .agg [.sl false l.length (cellIVs l)] ∧ ∀ c ∈ l, c.f = false := by
  obtain ⟨xs, rfl, h⟩ := h
  cases h with
  | struct fs xs h =>
    cases h with
    | cons t ts x xs h1 h =>
      cases h
      cases h1 with
      | slice e ys hy hys =>
        obtain ⟨l, h1, h2, h3⟩ := mV ys hys
        exact ⟨l, by rw [h2, ← h1]; rfl, h3⟩
end Go.Proofs.Ytlbemgokilhdnaa.Ab
namespace Go.Proofs.Ytlbemgokilhdnaa.Ab
set_option linter.unusedVariables false
set_option linter.unusedSimpArgs false
open Go.RowKit Go.Lib Go.Proofs.Ytlbemgokilhdnaa.RP
attribute [local irreducible] AWP AOps AExit AThen ABlock ANoGoto FeetOk
abbrev tOpen : ByteArray := ⟨#[32, 40, 32]⟩
abbrev tShut : ByteArray := ⟨#[32, 41]⟩
abbrev tIs : ByteArray := ⟨#[32, 61, 32]⟩
abbrev tSep : ByteArray := ⟨#[32, 44, 32]⟩
abbrev tTrue : ByteArray := ⟨#[116, 114, 117, 101]⟩
abbrev tFalse : ByteArray := ⟨#[102, 97, 108, 115, 101]⟩
abbrev tUnit : ByteArray := ⟨#[40, 32, 41]⟩
abbrev tRec0 : ByteArray := ⟨#[123, 32, 125]⟩
abbrev tRec1 : ByteArray := ⟨#[123, 32]⟩
abbrev tRec2 : ByteArray := ⟨#[32, 125]⟩
def txRec (r : List ByteArray × Bool) : ByteArray × Bool := if r.2 = true then (if r.1.length = 0 then tRec0 else tRec1 ++ joinS tSep r.1 ++ tRec2, true) else (⟨#[]⟩, false)
mutual
def txP : Tree → ByteArray × Bool
  | .nil => (⟨#[]⟩, false)
  | .node k n a b ks => if k = 131 then (numP n, true) else if k = 132 then (if n = 1 then tTrue else tFalse, true) else if k = 133 then (tUnit, true)
    else if k = 146 then tx2 a ks else if k = 136 then txRec (txKs ks) else (⟨#[]⟩, false)
def tx2 (a : ByteArray) : List Tree → ByteArray × Bool
  | [_, y] => (a ++ tOpen ++ (txP y).1 ++ tShut, (txP y).2)
  | _ => (⟨#[]⟩, false)
def txKs : List Tree → List ByteArray × Bool
  | [] => ([], true)
  | t :: ts => ((txK t).1 :: (txKs ts).1, (txK t).2 && (txKs ts).2)
def txK : Tree → ByteArray × Bool
  | .nil => (⟨#[]⟩, false)
  | .node _ _ a _ ks => tx1 a ks
def tx1 (a : ByteArray) : List Tree → ByteArray × Bool
  | [c] => (a ++ tIs ++ (txP c).1, (txP c).2)
  | _ => (⟨#[]⟩, false)
end
theorem eE : ∀ l : List Tree, (txKs l).1 = l.map (fun t => (txK t).1) ∧ (txKs l).2 = l.all (fun t => (txK t).2)
  | [] => by simp [txKs]
  | t :: ts => by simp [txKs, (eE ts).1, (eE ts).2]
/-- What a term's form gives for the kinds that have a text. -/
theorem mW {n : Int} {a b : ByteArray} {ks : List Tree} (h : isTermP (.node 146 n a b ks) = true) : ∃ x y, ks = [x, y] ∧ isTermP y = true := by
  rw [isTermP] at h
  simp only [Bool.and_eq_true] at h
  have h2 := h.2
  match ks, h2 with
  | [x, y], h2 =>
    have h3 : isT_ct [x, y] = true := by simpa using h2
    rw [isT_ct, Bool.and_eq_true] at h3
    exact ⟨x, y, rfl, h3.2⟩
  | [], h2 => simp [isT_ct] at h2
  | [x], h2 => simp [isT_ct] at h2
  | x :: y :: z :: r, h2 => simp [isT_ct] at h2
theorem mX {n : Int} {a b : ByteArray} {ks : List Tree} (h : isTermP (.node 136 n a b ks) = true) : ∀ t ∈ ks, ∃ k n a b c, t = .node k n a b [c] ∧ isTermP c = true := by
  rw [isTermP] at h
  simp only [Bool.and_eq_true] at h
  have h2 := h.2
  have h3 : fieldsP ks 137 = true := by
    simp at h2
    exact h2.1.1
  rw [iC, List.all_eq_true] at h3
  intro t ht
  have h4 := h3 t ht
  cases t with
  | nil => simp [okField] at h4
  | node k n a b q =>
    simp only [okField, Bool.and_eq_true] at h4
    have h5 := h4.2
    match q, h5 with
    | [c], h5 => exact ⟨k, n, a, b, c, rfl, by simpa [isT_t] using h5⟩
    | [], h5 => simp [isT_t] at h5
    | x :: y :: r, h5 => simp [isT_t] at h5
theorem yL {n : Int} {k : Int} {a b : ByteArray} {ks : List Tree} (h : isTermP (.node k n a b ks) = true) : numberP k n = true := by
  rw [isTermP] at h
  simp only [Bool.and_eq_true, headP] at h
  exact h.1.2
/-- How long a text is. -/
theorem qA : ∀ t : Tree, isTermP t = true → (txP t).1.size ≤ 30 * t.wt := by
  intro t
  induction t using Tree.sind with
  | h t ih =>
    intro ht
    cases t with
    | nil => simp [isTermP] at ht
    | node k n a b ks =>
      rw [txP, Tree.wt]
      have e1 : tTrue.size = 4 := rfl
      have e2 : tFalse.size = 5 := rfl
      have e3 : tUnit.size = 3 := rfl
      have e4 : (⟨#[]⟩ : ByteArray).size = 0 := rfl
      have e5 : tOpen.size = 3 := rfl
      have e6 : tShut.size = 2 := rfl
      have e7 : tRec0.size = 3 := rfl
      have e8 : tRec1.size = 2 := rfl
      have e9 : tRec2.size = 2 := rfl
      have e10 : tIs.size = 3 := rfl
      have e11 : tSep.size = 3 := rfl
      split
      · have := wC n
        dsimp only; omega
      · split
        · dsimp only; split <;> omega
        · split
          · dsimp only; omega
          · split
            · rename_i h146
              subst h146
              obtain ⟨x, y, rfl, hy⟩ := mW ht
              have hw := ih y (cG (by simp)) hy
              rw [tx2]
              dsimp only
              rw [cN, cN, cN]
              simp only [Tree.wts]
              omega
            · split
              · rename_i h136
                subst h136
                have hr := mX ht
                have hsum : ((txKs ks).1.map fun s => s.size + tSep.size).sum ≤ 30 * Tree.wts ks := by
                  rw [(eE ks).1, List.map_map]
                  have key : ∀ l : List Tree, (∀ t ∈ l, t ∈ ks) → (l.map ((fun s : ByteArray => s.size + tSep.size) ∘ fun t => (txK t).1)).sum ≤ 30 * Tree.wts l := by
                    intro l
                    induction l with
                    | nil => intro _; exact Nat.zero_le _
                    | cons u l ihl =>
                      intro hm
                      have h1 := ihl (fun t h => hm t (List.mem_cons_of_mem _ h))
                      have hu := hm u List.mem_cons_self
                      obtain ⟨k1, n1, a1, b1, c, rfl, hc⟩ := hr u hu
                      have s1 := cG (k := 136) (n := n) (a := a) (b := b) hu
                      have s2 := cG (k := k1) (n := n1) (a := a1) (b := b1) (kids := [c]) (t := c) (by simp)
                      have hw := ih c (by omega) hc
                      rw [List.map_cons, List.sum_cons, Tree.wts]
                      have e : ((fun s : ByteArray => s.size + tSep.size) ∘ fun t => (txK t).1) (.node k1 n1 a1 b1 [c]) = a1.size + 3 + (txP c).1.size + 3 := by
                        show (txK _).1.size + tSep.size = _
                        rw [txK, tx1]
                        dsimp only
                        rw [cN, cN, e10, e11]
                      rw [e]
                      simp only [Tree.wt, Tree.wts]
                      omega
                  exact key ks (fun t h => h)
                have hj := tP tSep (txKs ks).1
                unfold txRec
                split
                · dsimp only
                  split
                  · omega
                  · rw [cN, cN]; omega
                · dsimp only; omega
              · dsimp only; omega
end Go.Proofs.Ytlbemgokilhdnaa.Ab
namespace Go.Proofs.Ytlbemgokilhdnaa.Ab
set_option linter.unusedVariables false
set_option linter.unusedSimpArgs false
open Go.RowKit Go.Lib Go.Proofs.Ytlbemgokilhdnaa.RP
attribute [local irreducible] AWP AOps AExit AThen ABlock ANoGoto FeetOk
theorem wR (l : List Tree) (j : Nat) (h : j < l.length) : (txKs (l.take (j + 1))).1 = (txKs (l.take j)).1 ++ [(txK l[j]).1] := by
  rw [(eE _).1, (eE _).1, List.take_succ_eq_append_getElem h, List.map_append, List.map_singleton]
theorem qB {n : Int} (h : numberP 131 n = true) : -9223372036854775808 ≤ n ∧ n ≤ 9223372036854775807 := by
  unfold numberP at h
  simp at h
  omega
theorem qC {k n : Int} {a b : ByteArray} {kids : List Tree} {t : Tree} (h : t ∈ kids) : t.wt ≤ (Tree.node k n a b kids).wt := by
  have := uV h
  rw [Tree.wt]; omega
set_option maxHeartbeats 16000000 in
set_option maxRecDepth 10000 in
theorem yM (t : Tree) : isTermP t = true → t.whole = true → t.size ≤ 1000000 → t.wt ≤ 1000000 →
    ACalls Try.prog 28 [.imm t.iv] [] (.imm (.tup [.lit (.string (txP t).1), .lit (.bool (txP t).2)])) [] := by
  induction t using Tree.sind with
  | h t ih =>
    intro ht hw hs hwt
    obtain ⟨k, n, a, b, ks, rfl⟩ := cZ hw
    have hl : ks.length < 1000000 := by have := cI ks hw; simp only [Tree.size] at hs; omega
    have hsz := qA _ ht
    have haz : a.size ≤ 1000000 := by rw [Tree.wt] at hwt; omega
    rw [txP] at hsz ⊢
    by_cases h131 : k = 131
    · subst h131
      have hr := qB (yL ht)
      have c1 := xX n hr.1 hr.2
      rw [if_pos rfl]
      refine bY Try.func28 rfl rfl (nb rfl) rfl ?_
      repeat' (first | refine bM ?_ | (refine bP ?_; first | refine aX tabOk rfl rfl rfl (nb rfl) rfl ?_ | refine bF rfl rfl (nb rfl) ?_ | (refine bO rfl rfl rfl (nb rfl) rfl rfl rfl (fun hq => ?_) (fun hq => ?_) <;> (first | (simp only [sD, sE, sB, sC, sN, sM, sT, sF] at hq; try (exfalso; omega)) | skip))| refine bX rfl rfl (nb rfl) rfl rfl rfl rfl (c1) ?_ | refine aE rfl rfl rfl (nb rfl) rfl rfl (by omega) ?_ | refine bI rfl rfl rfl (nb rfl) rfl rfl rfl (by omega) (by omega) ?_ | refine bJ rfl rfl rfl (nb rfl) rfl rfl rfl (by omega) (by omega) ?_ | refine bH tabOk rfl rfl rfl (nb rfl) rfl rfl rfl rfl rfl rfl rfl rfl rfl ?_ | refine aZ tabOk rfl rfl (nb rfl) rfl ?_ | refine aU tabOk rfl rfl rfl (nb rfl) rfl rfl rfl rfl rfl rfl ?_ | refine aV tabOk rfl rfl rfl (nb rfl) rfl rfl rfl rfl ?_ | refine aN tabOk rfl rfl rfl rfl rfl rfl rfl rfl rfl rfl rfl ?_ | refine aR tabOk rfl rfl rfl (nb rfl) rfl rfl rfl rfl (by first | assumption | omega) ?_ | refine aJ tabOk rfl rfl rfl (nb rfl) rfl rfl rfl rfl (by first | rfl | omega) (by first | omega | simp) ?_ | refine aC tabOk rfl rfl rfl (nb rfl) rfl rfl rfl (by assumption) ?_ | refine aC tabOk rfl rfl rfl (nb rfl) rfl rfl rfl (bS _ _ (by first | assumption | omega)) ?_ | refine aE rfl rfl rfl (nb rfl) rfl rfl (by omega) ?_ | ((fail_if_success (refine aG (b := true) rfl rfl rfl ?_)); (fail_if_success (refine aG (b := false) rfl rfl rfl ?_)); refine aW rfl rfl rfl (fun hq => ?_) (fun hq => ?_) <;> first | subst hq | (first | (simp only [sD, sE, sB, sC, sN, sM, sT, sF] at hq; try (exfalso; omega)) | skip)) | fail) | (refine bW ?_; first | refine bN ?_ | refine bT ?_ | refine aQ ?_ | refine bD ?_ | refine bU ?_ | refine bL ?_ | refine bK ?_ | refine aA (b := true) rfl (fun _ => ?_) nTf | refine aA (b := false) rfl nFt (fun _ => ?_) | refine bE ?_ | refine bC ?_ | refine bA mixed (by kernel_rfl) ?_ | refine aD mixed (by kernel_rfl) ?_ | (refine aA rfl (fun hq => ?_) (fun hq => ?_) <;> first | subst hq | (first | (simp only [sD, sE, sB, sC, sN, sM, sT, sF] at hq; try (exfalso; omega)) | skip)) | fail) | (refine bQ ?_; first | refine bZ ?_ | refine aK ?_ | refine aT ?_ | fail) | (refine bG ?_; first | refine bV ?_ | refine aH ?_ | refine aI (by decide) ?_ | refine aM ?_ | fail) | refine bR (bB (by kernel_rfl)) ?_ | fail)
      all_goals first
        | (refine cA (by first | exact .inl rfl | exact .inr rfl) (cC rfl (aY rfl) (aY rfl)) rfl ?_; rfl)
        | exact absurd rfl (by assumption)
    · rw [if_neg h131] at hsz ⊢
      by_cases h132 : k = 132
      · subst h132
        rw [if_pos rfl]
        by_cases hn : n = 1
        · subst hn
          refine bY Try.func28 rfl rfl (nb rfl) rfl ?_
          repeat' (first | refine bM ?_ | (refine bP ?_; first | refine aX tabOk rfl rfl rfl (nb rfl) rfl ?_ | refine bF rfl rfl (nb rfl) ?_ | (refine bO rfl rfl rfl (nb rfl) rfl rfl rfl (fun hq => ?_) (fun hq => ?_) <;> (first | (simp only [sD, sE, sB, sC, sN, sM, sT, sF] at hq; try (exfalso; omega)) | skip)) | refine aE rfl rfl rfl (nb rfl) rfl rfl (by omega) ?_ | refine bI rfl rfl rfl (nb rfl) rfl rfl rfl (by omega) (by omega) ?_ | refine bJ rfl rfl rfl (nb rfl) rfl rfl rfl (by omega) (by omega) ?_ | refine bH tabOk rfl rfl rfl (nb rfl) rfl rfl rfl rfl rfl rfl rfl rfl rfl ?_ | refine aZ tabOk rfl rfl (nb rfl) rfl ?_ | refine aU tabOk rfl rfl rfl (nb rfl) rfl rfl rfl rfl rfl rfl ?_ | refine aV tabOk rfl rfl rfl (nb rfl) rfl rfl rfl rfl ?_ | refine aN tabOk rfl rfl rfl rfl rfl rfl rfl rfl rfl rfl rfl ?_ | refine aR tabOk rfl rfl rfl (nb rfl) rfl rfl rfl rfl (by first | assumption | omega) ?_ | refine aJ tabOk rfl rfl rfl (nb rfl) rfl rfl rfl rfl (by first | rfl | omega) (by first | omega | simp) ?_ | refine aC tabOk rfl rfl rfl (nb rfl) rfl rfl rfl (by assumption) ?_ | refine aC tabOk rfl rfl rfl (nb rfl) rfl rfl rfl (bS _ _ (by first | assumption | omega)) ?_ | refine aE rfl rfl rfl (nb rfl) rfl rfl (by omega) ?_ | ((fail_if_success (refine aG (b := true) rfl rfl rfl ?_)); (fail_if_success (refine aG (b := false) rfl rfl rfl ?_)); refine aW rfl rfl rfl (fun hq => ?_) (fun hq => ?_) <;> first | subst hq | (first | (simp only [sD, sE, sB, sC, sN, sM, sT, sF] at hq; try (exfalso; omega)) | skip)) | fail) | (refine bW ?_; first | refine bN ?_ | refine bT ?_ | refine aQ ?_ | refine bD ?_ | refine bU ?_ | refine bL ?_ | refine bK ?_ | refine aA (b := true) rfl (fun _ => ?_) nTf | refine aA (b := false) rfl nFt (fun _ => ?_) | refine bE ?_ | refine bC ?_ | refine bA mixed (by kernel_rfl) ?_ | refine aD mixed (by kernel_rfl) ?_ | (refine aA rfl (fun hq => ?_) (fun hq => ?_) <;> first | subst hq | (first | (simp only [sD, sE, sB, sC, sN, sM, sT, sF] at hq; try (exfalso; omega)) | skip)) | fail) | (refine bQ ?_; first | refine bZ ?_ | refine aK ?_ | refine aT ?_ | fail) | (refine bG ?_; first | refine bV ?_ | refine aH ?_ | refine aI (by decide) ?_ | refine aM ?_ | fail) | refine bR (bB (by kernel_rfl)) ?_ | fail)
          all_goals first
            | (refine cA (by first | exact .inl rfl | exact .inr rfl) (cC rfl (aY rfl) (aY rfl)) rfl ?_; rfl)
            | exact absurd rfl (by assumption)
        · rw [if_neg hn]
          refine bY Try.func28 rfl rfl (nb rfl) rfl ?_
          repeat' (first | refine bM ?_ | (refine bP ?_; first | refine aX tabOk rfl rfl rfl (nb rfl) rfl ?_ | refine bF rfl rfl (nb rfl) ?_ | (refine bO rfl rfl rfl (nb rfl) rfl rfl rfl (fun hq => ?_) (fun hq => ?_) <;> (first | (simp only [sD, sE, sB, sC, sN, sM, sT, sF] at hq; try (exfalso; omega)) | skip)) | refine aE rfl rfl rfl (nb rfl) rfl rfl (by omega) ?_ | refine bI rfl rfl rfl (nb rfl) rfl rfl rfl (by omega) (by omega) ?_ | refine bJ rfl rfl rfl (nb rfl) rfl rfl rfl (by omega) (by omega) ?_ | refine bH tabOk rfl rfl rfl (nb rfl) rfl rfl rfl rfl rfl rfl rfl rfl rfl ?_ | refine aZ tabOk rfl rfl (nb rfl) rfl ?_ | refine aU tabOk rfl rfl rfl (nb rfl) rfl rfl rfl rfl rfl rfl ?_ | refine aV tabOk rfl rfl rfl (nb rfl) rfl rfl rfl rfl ?_ | refine aN tabOk rfl rfl rfl rfl rfl rfl rfl rfl rfl rfl rfl ?_ | refine aR tabOk rfl rfl rfl (nb rfl) rfl rfl rfl rfl (by first | assumption | omega) ?_ | refine aJ tabOk rfl rfl rfl (nb rfl) rfl rfl rfl rfl (by first | rfl | omega) (by first | omega | simp) ?_ | refine aC tabOk rfl rfl rfl (nb rfl) rfl rfl rfl (by assumption) ?_ | refine aC tabOk rfl rfl rfl (nb rfl) rfl rfl rfl (bS _ _ (by first | assumption | omega)) ?_ | refine aE rfl rfl rfl (nb rfl) rfl rfl (by omega) ?_ | ((fail_if_success (refine aG (b := true) rfl rfl rfl ?_)); (fail_if_success (refine aG (b := false) rfl rfl rfl ?_)); refine aW rfl rfl rfl (fun hq => ?_) (fun hq => ?_) <;> first | subst hq | (first | (simp only [sD, sE, sB, sC, sN, sM, sT, sF] at hq; try (exfalso; omega)) | skip)) | fail) | (refine bW ?_; first | refine bN ?_ | refine bT ?_ | refine aQ ?_ | refine bD ?_ | refine bU ?_ | refine bL ?_ | refine bK ?_ | refine aA (b := true) rfl (fun _ => ?_) nTf | refine aA (b := false) rfl nFt (fun _ => ?_) | refine bE ?_ | refine bC ?_ | refine bA mixed (by kernel_rfl) ?_ | refine aD mixed (by kernel_rfl) ?_ | (refine aA rfl (fun hq => ?_) (fun hq => ?_) <;> first | subst hq | (first | (simp only [sD, sE, sB, sC, sN, sM, sT, sF] at hq; try (exfalso; omega)) | skip)) | fail) | (refine bQ ?_; first | refine bZ ?_ | refine aK ?_ | refine aT ?_ | fail) | (refine bG ?_; first | refine bV ?_ | refine aH ?_ | refine aI (by decide) ?_ | refine aM ?_ | fail) | refine bR (bB (by kernel_rfl)) ?_ | fail)
          all_goals first
            | (refine cA (by first | exact .inl rfl | exact .inr rfl) (cC rfl (aY rfl) (aY rfl)) rfl ?_; rfl)
            | exact absurd rfl (by assumption)
            | exact absurd (by assumption) hn
      · rw [if_neg h132] at hsz ⊢
        by_cases h133 : k = 133
        · subst h133
          rw [if_pos rfl]
          refine bY Try.func28 rfl rfl (nb rfl) rfl ?_
          repeat' (first | refine bM ?_ | (refine bP ?_; first | refine aX tabOk rfl rfl rfl (nb rfl) rfl ?_ | refine bF rfl rfl (nb rfl) ?_ | (refine bO rfl rfl rfl (nb rfl) rfl rfl rfl (fun hq => ?_) (fun hq => ?_) <;> (first | (simp only [sD, sE, sB, sC, sN, sM, sT, sF] at hq; try (exfalso; omega)) | skip)) | refine aE rfl rfl rfl (nb rfl) rfl rfl (by omega) ?_ | refine bI rfl rfl rfl (nb rfl) rfl rfl rfl (by omega) (by omega) ?_ | refine bJ rfl rfl rfl (nb rfl) rfl rfl rfl (by omega) (by omega) ?_ | refine bH tabOk rfl rfl rfl (nb rfl) rfl rfl rfl rfl rfl rfl rfl rfl rfl ?_ | refine aZ tabOk rfl rfl (nb rfl) rfl ?_ | refine aU tabOk rfl rfl rfl (nb rfl) rfl rfl rfl rfl rfl rfl ?_ | refine aV tabOk rfl rfl rfl (nb rfl) rfl rfl rfl rfl ?_ | refine aN tabOk rfl rfl rfl rfl rfl rfl rfl rfl rfl rfl rfl ?_ | refine aR tabOk rfl rfl rfl (nb rfl) rfl rfl rfl rfl (by first | assumption | omega) ?_ | refine aJ tabOk rfl rfl rfl (nb rfl) rfl rfl rfl rfl (by first | rfl | omega) (by first | omega | simp) ?_ | refine aC tabOk rfl rfl rfl (nb rfl) rfl rfl rfl (by assumption) ?_ | refine aC tabOk rfl rfl rfl (nb rfl) rfl rfl rfl (bS _ _ (by first | assumption | omega)) ?_ | refine aE rfl rfl rfl (nb rfl) rfl rfl (by omega) ?_ | ((fail_if_success (refine aG (b := true) rfl rfl rfl ?_)); (fail_if_success (refine aG (b := false) rfl rfl rfl ?_)); refine aW rfl rfl rfl (fun hq => ?_) (fun hq => ?_) <;> first | subst hq | (first | (simp only [sD, sE, sB, sC, sN, sM, sT, sF] at hq; try (exfalso; omega)) | skip)) | fail) | (refine bW ?_; first | refine bN ?_ | refine bT ?_ | refine aQ ?_ | refine bD ?_ | refine bU ?_ | refine bL ?_ | refine bK ?_ | refine aA (b := true) rfl (fun _ => ?_) nTf | refine aA (b := false) rfl nFt (fun _ => ?_) | refine bE ?_ | refine bC ?_ | refine bA mixed (by kernel_rfl) ?_ | refine aD mixed (by kernel_rfl) ?_ | (refine aA rfl (fun hq => ?_) (fun hq => ?_) <;> first | subst hq | (first | (simp only [sD, sE, sB, sC, sN, sM, sT, sF] at hq; try (exfalso; omega)) | skip)) | fail) | (refine bQ ?_; first | refine bZ ?_ | refine aK ?_ | refine aT ?_ | fail) | (refine bG ?_; first | refine bV ?_ | refine aH ?_ | refine aI (by decide) ?_ | refine aM ?_ | fail) | refine bR (bB (by kernel_rfl)) ?_ | fail)
          all_goals first
            | (refine cA (by first | exact .inl rfl | exact .inr rfl) (cC rfl (aY rfl) (aY rfl)) rfl ?_; rfl)
            | exact absurd rfl (by assumption)
        · rw [if_neg h133] at hsz ⊢
          by_cases h146 : k = 146
          · subst h146
            rw [if_pos rfl] at hsz ⊢
            obtain ⟨x, y, rfl, hy⟩ := mW ht
            have c1 := ih y (cG (by simp)) hy (cD hw (by simp)) (by have := cG (k := 146) (n := n) (a := a) (b := b) (kids := [x, y]) (t := y) (by simp); omega) (Nat.le_trans (qC (by simp)) hwt)
            have hyz := qA y hy
            have hyw := qC (k := 146) (n := n) (a := a) (b := b) (kids := [x, y]) (t := y) (by simp)
            rw [tx2]
            dsimp only
            have e5 : (⟨#[32, 40, 32]⟩ : ByteArray).size = 3 := rfl
            have e6 : (⟨#[32, 41]⟩ : ByteArray).size = 2 := rfl
            generalize txP y = R at *
            obtain ⟨R1, R2⟩ := R
            dsimp only at *
            refine bY Try.func28 rfl rfl (nb rfl) rfl ?_
            repeat' (first | refine bM ?_ | (refine bP ?_; first | refine aX tabOk rfl rfl rfl (nb rfl) rfl ?_ | refine bF rfl rfl (nb rfl) ?_ | (refine bO rfl rfl rfl (nb rfl) rfl rfl rfl (fun hq => ?_) (fun hq => ?_) <;> (first | (simp only [sD, sE, sB, sC, sN, sM, sT, sF] at hq; try (exfalso; omega)) | skip))| refine bX rfl rfl (nb rfl) rfl rfl rfl rfl (c1) ?_ | refine hH rfl rfl rfl (nb rfl) rfl rfl (by first | omega | (simp only [cN]; omega)) ?_ | refine aE rfl rfl rfl (nb rfl) rfl rfl (by omega) ?_ | refine bI rfl rfl rfl (nb rfl) rfl rfl rfl (by omega) (by omega) ?_ | refine bJ rfl rfl rfl (nb rfl) rfl rfl rfl (by omega) (by omega) ?_ | refine bH tabOk rfl rfl rfl (nb rfl) rfl rfl rfl rfl rfl rfl rfl rfl rfl ?_ | refine aZ tabOk rfl rfl (nb rfl) rfl ?_ | refine aU tabOk rfl rfl rfl (nb rfl) rfl rfl rfl rfl rfl rfl ?_ | refine aV tabOk rfl rfl rfl (nb rfl) rfl rfl rfl rfl ?_ | refine aN tabOk rfl rfl rfl rfl rfl rfl rfl rfl rfl rfl rfl ?_ | refine aR tabOk rfl rfl rfl (nb rfl) rfl rfl rfl rfl (by first | assumption | omega) ?_ | refine aJ tabOk rfl rfl rfl (nb rfl) rfl rfl rfl rfl (by first | rfl | omega) (by first | omega | simp) ?_ | refine aC tabOk rfl rfl rfl (nb rfl) rfl rfl rfl (by assumption) ?_ | refine aC tabOk rfl rfl rfl (nb rfl) rfl rfl rfl (bS _ _ (by first | assumption | omega)) ?_ | refine aE rfl rfl rfl (nb rfl) rfl rfl (by omega) ?_ | ((fail_if_success (refine aG (b := true) rfl rfl rfl ?_)); (fail_if_success (refine aG (b := false) rfl rfl rfl ?_)); refine aW rfl rfl rfl (fun hq => ?_) (fun hq => ?_) <;> first | subst hq | (first | (simp only [sD, sE, sB, sC, sN, sM, sT, sF] at hq; try (exfalso; omega)) | skip)) | fail) | (refine bW ?_; first | refine bN ?_ | refine bT ?_ | refine aQ ?_ | refine bD ?_ | refine bU ?_ | refine bL ?_ | refine bK ?_ | refine aA (b := true) rfl (fun _ => ?_) nTf | refine aA (b := false) rfl nFt (fun _ => ?_) | refine bE ?_ | refine bC ?_ | refine bA mixed (by kernel_rfl) ?_ | refine aD mixed (by kernel_rfl) ?_ | (refine aA rfl (fun hq => ?_) (fun hq => ?_) <;> first | subst hq | (first | (simp only [sD, sE, sB, sC, sN, sM, sT, sF] at hq; try (exfalso; omega)) | skip)) | fail) | (refine bQ ?_; first | refine bZ ?_ | refine aK ?_ | refine aT ?_ | fail) | (refine bG ?_; first | refine bV ?_ | refine aH ?_ | refine aI (by decide) ?_ | refine aM ?_ | fail) | refine bR (bB (by kernel_rfl)) ?_ | fail)
            all_goals first
              | (refine cA (by first | exact .inl rfl | exact .inr rfl) (cC rfl (aY rfl) (aY rfl)) rfl ?_; rfl)
              | exact absurd rfl (by assumption)
          · rw [if_neg h146] at hsz ⊢
            by_cases h136 : k = 136
            · subst h136
              rw [if_pos rfl] at hsz ⊢
              have hr := mX ht
              refine cS Try.func28 rfl rfl (nb rfl) rfl ?_
              repeat' (first | refine bM ?_ | (refine bP ?_; first | refine aX tabOk rfl rfl rfl (nb rfl) rfl ?_ | refine bF rfl rfl (nb rfl) ?_ | (refine bO rfl rfl rfl (nb rfl) rfl rfl rfl (fun hq => ?_) (fun hq => ?_) <;> (first | (simp only [sD, sE, sB, sC, sN, sM, sT, sF] at hq; try (exfalso; omega)) | skip)) | refine aE rfl rfl rfl (nb rfl) rfl rfl (by omega) ?_ | refine bI rfl rfl rfl (nb rfl) rfl rfl rfl (by omega) (by omega) ?_ | refine bJ rfl rfl rfl (nb rfl) rfl rfl rfl (by omega) (by omega) ?_ | refine bH tabOk rfl rfl rfl (nb rfl) rfl rfl rfl rfl rfl rfl rfl rfl rfl ?_ | refine aZ tabOk rfl rfl (nb rfl) rfl ?_ | refine aU tabOk rfl rfl rfl (nb rfl) rfl rfl rfl rfl rfl rfl ?_ | refine aV tabOk rfl rfl rfl (nb rfl) rfl rfl rfl rfl ?_ | refine aN tabOk rfl rfl rfl rfl rfl rfl rfl rfl rfl rfl rfl ?_ | refine aR tabOk rfl rfl rfl (nb rfl) rfl rfl rfl rfl (by first | assumption | omega) ?_ | refine aJ tabOk rfl rfl rfl (nb rfl) rfl rfl rfl rfl (by first | rfl | omega) (by first | omega | simp) ?_ | refine aC tabOk rfl rfl rfl (nb rfl) rfl rfl rfl (by assumption) ?_ | refine aC tabOk rfl rfl rfl (nb rfl) rfl rfl rfl (bS _ _ (by first | assumption | omega)) ?_ | refine aE rfl rfl rfl (nb rfl) rfl rfl (by omega) ?_ | ((fail_if_success (refine aG (b := true) rfl rfl rfl ?_)); (fail_if_success (refine aG (b := false) rfl rfl rfl ?_)); refine aW rfl rfl rfl (fun hq => ?_) (fun hq => ?_) <;> first | subst hq | (first | (simp only [sD, sE, sB, sC, sN, sM, sT, sF] at hq; try (exfalso; omega)) | skip)) | fail) | (refine bW ?_; first | refine bN ?_ | refine bT ?_ | refine aQ ?_ | refine bD ?_ | refine bU ?_ | refine bL ?_ | refine bK ?_ | refine aA (b := true) rfl (fun _ => ?_) nTf | refine aA (b := false) rfl nFt (fun _ => ?_) | refine bE ?_ | refine bC ?_ | refine bA mixed (by kernel_rfl) ?_ | refine aD mixed (by kernel_rfl) ?_ | (refine aA rfl (fun hq => ?_) (fun hq => ?_) <;> first | subst hq | (first | (simp only [sD, sE, sB, sC, sN, sM, sT, sF] at hq; try (exfalso; omega)) | skip)) | fail) | (refine bQ ?_; first | refine bZ ?_ | refine aK ?_ | refine aT ?_ | fail) | (refine bG ?_; first | refine bV ?_ | refine aH ?_ | refine aI (by decide) ?_ | refine aM ?_ | fail) | refine bR (bB (by kernel_rfl)) ?_ | fail)
              all_goals first | exact absurd rfl (by assumption) | skip
              have hwk : (Tree.node 136 n a b ks).wt = 1 + a.size + b.size + Tree.wts ks := by rw [Tree.wt]
              refine cY (zA (t := 6) 500 9 1 rfl (by simp) rfl rfl) ?_
              refine cH (ι := {j : Nat // j ≤ ks.length ∧ ∀ t ∈ ks.take j, (txK t).2 = true}) (fun j => S.f ⟨[(59, .imm (.lit (.int .i64 (j.1 : Int)))), (58, .imm (.lit (.int .i64 (ks.length : Int)))), (57, .imm (.sl false ks.length (Tree.ivs ks))), (6, .ref 500 j.1)], [(500, .arr 9 1 j.1 (strs (txKs (ks.take j.1)).1))]⟩) (fun j => ks.length - j.1) ⟨0, Nat.zero_le _, fun t h => by rw [List.take_zero] at h; cases h⟩ (cF (by repeat' first | exact trivial | refine ⟨rfl, ?_⟩) (by repeat' first | exact trivial | refine ⟨rfl, ?_⟩)) ?_
              rintro ⟨j, hj, hall⟩
              dsimp only
              by_cases hlt : j < ks.length
              · have hmem := List.getElem_mem hlt
                have hiv := bS ks j hlt
                obtain ⟨k1, n1, a1, b1, c, e1, hc⟩ := hr _ hmem
                have hsn := wR ks j hlt
                have s1 := cG (k := 136) (n := n) (a := a) (b := b) hmem
                have w1 := qC (k := 136) (n := n) (a := a) (b := b) hmem
                have hwh := cD hw hmem
                have hall2 : (txK ks[j]).2 = true → ∀ t ∈ ks.take (j + 1), (txK t).2 = true := fun h t ht2 => by
                  rw [List.take_succ_eq_append_getElem hlt, List.mem_append] at ht2
                  rcases ht2 with ht2 | ht2
                  · exact hall t ht2
                  · rw [List.mem_singleton.1 ht2]; exact h
                have hbadk : (txK ks[j]).2 = false → txRec (txKs ks) = (⟨#[]⟩, false) := fun h => by
                  unfold txRec
                  rw [if_neg]
                  rw [(eE ks).2, List.all_eq_true]
                  intro hc2
                  have := hc2 _ hmem
                  rw [h] at this
                  cases this
                rw [e1] at hiv hsn s1 w1 hwh hall2 hbadk
                have s2 := cG (k := k1) (n := n1) (a := a1) (b := b1) (kids := [c]) (t := c) (by simp)
                have w2 := qC (k := k1) (n := n1) (a := a1) (b := b1) (kids := [c]) (t := c) (by simp)
                have c1 := ih c (by omega) hc (cD hwh (by simp)) (by omega) (by omega)
                have hcz := qA c hc
                have ha1 : a1.size ≤ (Tree.node k1 n1 a1 b1 [c]).wt := by rw [Tree.wt]; omega
                have e10 : (⟨#[32, 61, 32]⟩ : ByteArray).size = 3 := rfl
                rw [txK, tx1] at hsn hall2 hbadk
                dsimp only at hsn hall2 hbadk
                have hD := wD (txKs (ks.take j)).1 (a1 ++ tIs ++ (txP c).1)
                rw [← hsn] at hD
                change (Tree.ivs ks)[j * 1]? = some (.ptr [.lit (.int .i64 k1), .lit (.int .i64 n1), .lit (.string a1), .lit (.string b1), .sl false 1 [c.iv]] 0) at hiv
                generalize txP c = R at *
                obtain ⟨R1, R2⟩ := R
                dsimp only at *
                cases R2 with
                | false =>
                  rw [hbadk rfl]
                  repeat' (first | refine bM ?_ | (refine bP ?_; first | refine aX tabOk rfl rfl rfl (nb rfl) rfl ?_ | refine bF rfl rfl (nb rfl) ?_ | (refine bO rfl rfl rfl (nb rfl) rfl rfl rfl (fun hq => ?_) (fun hq => ?_) <;> (first | (simp only [sD, sE, sB, sC, sN, sM, sT, sF] at hq; try (exfalso; omega)) | skip))| refine bX rfl rfl (nb rfl) rfl rfl rfl rfl (c1) ?_ | refine aC tabOk rfl rfl rfl (nb rfl) rfl rfl rfl hiv ?_ | refine aC (y := c.iv) tabOk rfl rfl rfl (nb rfl) rfl rfl rfl rfl ?_ | refine aE rfl rfl rfl (nb rfl) rfl rfl (by omega) ?_ | refine bI rfl rfl rfl (nb rfl) rfl rfl rfl (by omega) (by omega) ?_ | refine bJ rfl rfl rfl (nb rfl) rfl rfl rfl (by omega) (by omega) ?_ | refine bH tabOk rfl rfl rfl (nb rfl) rfl rfl rfl rfl rfl rfl rfl rfl rfl ?_ | refine aZ tabOk rfl rfl (nb rfl) rfl ?_ | refine aU tabOk rfl rfl rfl (nb rfl) rfl rfl rfl rfl rfl rfl ?_ | refine aV tabOk rfl rfl rfl (nb rfl) rfl rfl rfl rfl ?_ | refine aN tabOk rfl rfl rfl rfl rfl rfl rfl rfl rfl rfl rfl ?_ | refine aR tabOk rfl rfl rfl (nb rfl) rfl rfl rfl rfl (by first | assumption | omega) ?_ | refine aJ tabOk rfl rfl rfl (nb rfl) rfl rfl rfl rfl (by first | rfl | omega) (by first | omega | simp) ?_ | refine aC tabOk rfl rfl rfl (nb rfl) rfl rfl rfl (by assumption) ?_ | refine aC tabOk rfl rfl rfl (nb rfl) rfl rfl rfl (bS _ _ (by first | assumption | omega)) ?_ | refine aE rfl rfl rfl (nb rfl) rfl rfl (by omega) ?_ | ((fail_if_success (refine aG (b := true) rfl rfl rfl ?_)); (fail_if_success (refine aG (b := false) rfl rfl rfl ?_)); refine aW rfl rfl rfl (fun hq => ?_) (fun hq => ?_) <;> first | subst hq | (first | (simp only [sD, sE, sB, sC, sN, sM, sT, sF] at hq; try (exfalso; omega)) | skip)) | fail) | (refine bW ?_; first | refine bN ?_ | refine bT ?_ | refine aQ ?_ | refine bD ?_ | refine bU ?_ | refine bL ?_ | refine bK ?_ | refine aA (b := true) rfl (fun _ => ?_) nTf | refine aA (b := false) rfl nFt (fun _ => ?_) | refine bE ?_ | refine bC ?_ | refine bA mixed (by kernel_rfl) ?_ | refine aD mixed (by kernel_rfl) ?_ | (refine aA rfl (fun hq => ?_) (fun hq => ?_) <;> first | subst hq | (first | (simp only [sD, sE, sB, sC, sN, sM, sT, sF] at hq; try (exfalso; omega)) | skip)) | fail) | (refine bQ ?_; first | refine bZ ?_ | refine aK ?_ | refine aT ?_ | fail) | (refine bG ?_; first | refine bV ?_ | refine aH ?_ | refine aI (by decide) ?_ | refine aM ?_ | fail) | refine bR (bB (by kernel_rfl)) ?_ | fail)
                  all_goals first
                    | (refine dI ?_; refine cA (by first | exact .inl rfl | exact .inr rfl) (cC rfl (aY rfl) (aY rfl)) rfl ?_; rfl)
                    | (exfalso; omega)
                | true =>
                  repeat' (first | refine bM ?_ | (refine bP ?_; first | refine aX tabOk rfl rfl rfl (nb rfl) rfl ?_ | refine bF rfl rfl (nb rfl) ?_ | (refine bO rfl rfl rfl (nb rfl) rfl rfl rfl (fun hq => ?_) (fun hq => ?_) <;> (first | (simp only [sD, sE, sB, sC, sN, sM, sT, sF] at hq; try (exfalso; omega)) | skip))| refine bX rfl rfl (nb rfl) rfl rfl rfl rfl (c1) ?_ | refine aC tabOk rfl rfl rfl (nb rfl) rfl rfl rfl hiv ?_ | refine aC (y := c.iv) tabOk rfl rfl rfl (nb rfl) rfl rfl rfl rfl ?_ | refine hH rfl rfl rfl (nb rfl) rfl rfl (by first | omega | (simp only [cN]; omega)) ?_ | refine dF tabOk rfl rfl rfl (nb rfl) rfl rfl rfl rfl rfl rfl rfl (by first | omega | decide) rfl (by first | omega | (dsimp only; omega)) (by first | omega | (dsimp only; omega)) ?_ | refine aE rfl rfl rfl (nb rfl) rfl rfl (by omega) ?_ | refine bI rfl rfl rfl (nb rfl) rfl rfl rfl (by omega) (by omega) ?_ | refine bJ rfl rfl rfl (nb rfl) rfl rfl rfl (by omega) (by omega) ?_ | refine bH tabOk rfl rfl rfl (nb rfl) rfl rfl rfl rfl rfl rfl rfl rfl rfl ?_ | refine aZ tabOk rfl rfl (nb rfl) rfl ?_ | refine aU tabOk rfl rfl rfl (nb rfl) rfl rfl rfl rfl rfl rfl ?_ | refine aV tabOk rfl rfl rfl (nb rfl) rfl rfl rfl rfl ?_ | refine aN tabOk rfl rfl rfl rfl rfl rfl rfl rfl rfl rfl rfl ?_ | refine aR tabOk rfl rfl rfl (nb rfl) rfl rfl rfl rfl (by first | assumption | omega) ?_ | refine aJ tabOk rfl rfl rfl (nb rfl) rfl rfl rfl rfl (by first | rfl | omega) (by first | omega | simp) ?_ | refine aC tabOk rfl rfl rfl (nb rfl) rfl rfl rfl (by assumption) ?_ | refine aC tabOk rfl rfl rfl (nb rfl) rfl rfl rfl (bS _ _ (by first | assumption | omega)) ?_ | refine aE rfl rfl rfl (nb rfl) rfl rfl (by omega) ?_ | ((fail_if_success (refine aG (b := true) rfl rfl rfl ?_)); (fail_if_success (refine aG (b := false) rfl rfl rfl ?_)); refine aW rfl rfl rfl (fun hq => ?_) (fun hq => ?_) <;> first | subst hq | (first | (simp only [sD, sE, sB, sC, sN, sM, sT, sF] at hq; try (exfalso; omega)) | skip)) | fail) | (refine bW ?_; first | refine bN ?_ | refine bT ?_ | refine aQ ?_ | refine bD ?_ | refine bU ?_ | refine bL ?_ | refine bK ?_ | refine aA (b := true) rfl (fun _ => ?_) nTf | refine aA (b := false) rfl nFt (fun _ => ?_) | refine bE ?_ | refine bC ?_ | refine bA mixed (by kernel_rfl) ?_ | refine aD mixed (by kernel_rfl) ?_ | (refine aA rfl (fun hq => ?_) (fun hq => ?_) <;> first | subst hq | (first | (simp only [sD, sE, sB, sC, sN, sM, sT, sF] at hq; try (exfalso; omega)) | skip)) | fail) | (refine bQ ?_; first | refine bZ ?_ | refine aK ?_ | refine aT ?_ | fail) | (refine bG ?_; first | refine bV ?_ | refine aH ?_ | refine aI (by decide) ?_ | refine aM ?_ | fail) | refine bR (bB (by kernel_rfl)) ?_ | fail)
                  all_goals first
                    | (exfalso; omega)
                    | (refine ⟨⟨j + 1, hlt, hall2 rfl⟩, (by show ks.length - (j + 1) < ks.length - j; omega), ?_⟩; dsimp only; rw [hD]; exact (cF (by repeat' first | exact trivial | refine ⟨rfl, ?_⟩) (by repeat' first | exact trivial | refine ⟨rfl, ?_⟩)))
              · have ej : j = ks.length := by omega
                subst ej
                rw [List.take_length] at hall ⊢
                have hok : (txKs ks).2 = true := by rw [(eE ks).2, List.all_eq_true]; exact hall
                have hpl : (txKs ks).1.length = ks.length := by rw [(eE ks).1, List.length_map]
                have hT : txRec (txKs ks) = (if (txKs ks).1.length = 0 then tRec0 else tRec1 ++ joinS tSep (txKs ks).1 ++ tRec2, true) := by
                  unfold txRec; rw [if_pos hok]
                rw [hT] at hsz ⊢
                dsimp only at hsz ⊢
                generalize (txKs ks).1 = L at *
                refine cY ((Imp.of_le (σ' := S.f ⟨[(6, .ref 500 ks.length), (59, .imm (.lit (.int .i64 (ks.length : Int)))), (58, .imm (.lit (.int .i64 (ks.length : Int))))], [(500, .arr 9 1 ks.length (strs L))]⟩) (cF (by repeat' first | exact trivial | refine ⟨rfl, ?_⟩) (by repeat' first | exact trivial | refine ⟨rfl, ?_⟩))).trans (cW (g := 500) rfl (by repeat' first | exact trivial | exact fun _ => rfl | refine ⟨?_, ?_⟩) (by repeat' first | exact trivial | exact fun _ => rfl | refine ⟨?_, ?_⟩))) ?_
                rw [← hpl] at hl ⊢
                by_cases h0 : L.length = 0
                · rw [if_pos h0]
                  repeat' (first | refine bM ?_ | (refine bP ?_; first | refine aX tabOk rfl rfl rfl (nb rfl) rfl ?_ | refine bF rfl rfl (nb rfl) ?_ | (refine bO rfl rfl rfl (nb rfl) rfl rfl rfl (fun hq => ?_) (fun hq => ?_) <;> (first | (simp only [sD, sE, sB, sC, sN, sM, sT, sF] at hq; try (exfalso; omega)) | skip)) | refine aE rfl rfl rfl (nb rfl) rfl rfl (by omega) ?_ | refine bI rfl rfl rfl (nb rfl) rfl rfl rfl (by omega) (by omega) ?_ | refine bJ rfl rfl rfl (nb rfl) rfl rfl rfl (by omega) (by omega) ?_ | refine bH tabOk rfl rfl rfl (nb rfl) rfl rfl rfl rfl rfl rfl rfl rfl rfl ?_ | refine aZ tabOk rfl rfl (nb rfl) rfl ?_ | refine aU tabOk rfl rfl rfl (nb rfl) rfl rfl rfl rfl rfl rfl ?_ | refine aV tabOk rfl rfl rfl (nb rfl) rfl rfl rfl rfl ?_ | refine aN tabOk rfl rfl rfl rfl rfl rfl rfl rfl rfl rfl rfl ?_ | refine aR tabOk rfl rfl rfl (nb rfl) rfl rfl rfl rfl (by first | assumption | omega) ?_ | refine aJ tabOk rfl rfl rfl (nb rfl) rfl rfl rfl rfl (by first | rfl | omega) (by first | omega | simp) ?_ | refine aC tabOk rfl rfl rfl (nb rfl) rfl rfl rfl (by assumption) ?_ | refine aC tabOk rfl rfl rfl (nb rfl) rfl rfl rfl (bS _ _ (by first | assumption | omega)) ?_ | refine aE rfl rfl rfl (nb rfl) rfl rfl (by omega) ?_ | ((fail_if_success (refine aG (b := true) rfl rfl rfl ?_)); (fail_if_success (refine aG (b := false) rfl rfl rfl ?_)); refine aW rfl rfl rfl (fun hq => ?_) (fun hq => ?_) <;> first | subst hq | (first | (simp only [sD, sE, sB, sC, sN, sM, sT, sF] at hq; try (exfalso; omega)) | skip)) | fail) | (refine bW ?_; first | refine bN ?_ | refine bT ?_ | refine aQ ?_ | refine bD ?_ | refine bU ?_ | refine bL ?_ | refine bK ?_ | refine aA (b := true) rfl (fun _ => ?_) nTf | refine aA (b := false) rfl nFt (fun _ => ?_) | refine bE ?_ | refine bC ?_ | refine bA mixed (by kernel_rfl) ?_ | refine aD mixed (by kernel_rfl) ?_ | (refine aA rfl (fun hq => ?_) (fun hq => ?_) <;> first | subst hq | (first | (simp only [sD, sE, sB, sC, sN, sM, sT, sF] at hq; try (exfalso; omega)) | skip)) | fail) | (refine bQ ?_; first | refine bZ ?_ | refine aK ?_ | refine aT ?_ | fail) | (refine bG ?_; first | refine bV ?_ | refine aH ?_ | refine aI (by decide) ?_ | refine aM ?_ | fail) | refine bR (bB (by kernel_rfl)) ?_ | fail)
                  all_goals first
                    | (exfalso; omega)
                    | (refine dI ?_; refine cA (by first | exact .inl rfl | exact .inr rfl) (cC rfl (aY rfl) (aY rfl)) rfl ?_; rfl)
                · rw [if_neg h0] at hsz ⊢
                  have e8 : tRec1.size = 2 := rfl
                  have e9 : tRec2.size = 2 := rfl
                  have e8' : (⟨#[123, 32]⟩ : ByteArray).size = 2 := rfl
                  have e9' : (⟨#[32, 125]⟩ : ByteArray).size = 2 := rfl
                  rw [cN, cN] at hsz
                  have c1 := zM false L tSep (by omega) (by omega)
                  repeat' (first | refine bM ?_ | (refine bP ?_; first | refine aX tabOk rfl rfl rfl (nb rfl) rfl ?_ | refine bF rfl rfl (nb rfl) ?_ | (refine bO rfl rfl rfl (nb rfl) rfl rfl rfl (fun hq => ?_) (fun hq => ?_) <;> (first | (simp only [sD, sE, sB, sC, sN, sM, sT, sF] at hq; try (exfalso; omega)) | skip))| refine bX rfl rfl (nb rfl) rfl rfl rfl rfl (c1) ?_ | refine hH rfl rfl rfl (nb rfl) rfl rfl (by first | omega | (simp only [cN]; omega)) ?_ | refine aE rfl rfl rfl (nb rfl) rfl rfl (by omega) ?_ | refine bI rfl rfl rfl (nb rfl) rfl rfl rfl (by omega) (by omega) ?_ | refine bJ rfl rfl rfl (nb rfl) rfl rfl rfl (by omega) (by omega) ?_ | refine bH tabOk rfl rfl rfl (nb rfl) rfl rfl rfl rfl rfl rfl rfl rfl rfl ?_ | refine aZ tabOk rfl rfl (nb rfl) rfl ?_ | refine aU tabOk rfl rfl rfl (nb rfl) rfl rfl rfl rfl rfl rfl ?_ | refine aV tabOk rfl rfl rfl (nb rfl) rfl rfl rfl rfl ?_ | refine aN tabOk rfl rfl rfl rfl rfl rfl rfl rfl rfl rfl rfl ?_ | refine aR tabOk rfl rfl rfl (nb rfl) rfl rfl rfl rfl (by first | assumption | omega) ?_ | refine aJ tabOk rfl rfl rfl (nb rfl) rfl rfl rfl rfl (by first | rfl | omega) (by first | omega | simp) ?_ | refine aC tabOk rfl rfl rfl (nb rfl) rfl rfl rfl (by assumption) ?_ | refine aC tabOk rfl rfl rfl (nb rfl) rfl rfl rfl (bS _ _ (by first | assumption | omega)) ?_ | refine aE rfl rfl rfl (nb rfl) rfl rfl (by omega) ?_ | ((fail_if_success (refine aG (b := true) rfl rfl rfl ?_)); (fail_if_success (refine aG (b := false) rfl rfl rfl ?_)); refine aW rfl rfl rfl (fun hq => ?_) (fun hq => ?_) <;> first | subst hq | (first | (simp only [sD, sE, sB, sC, sN, sM, sT, sF] at hq; try (exfalso; omega)) | skip)) | fail) | (refine bW ?_; first | refine bN ?_ | refine bT ?_ | refine aQ ?_ | refine bD ?_ | refine bU ?_ | refine bL ?_ | refine bK ?_ | refine aA (b := true) rfl (fun _ => ?_) nTf | refine aA (b := false) rfl nFt (fun _ => ?_) | refine bE ?_ | refine bC ?_ | refine bA mixed (by kernel_rfl) ?_ | refine aD mixed (by kernel_rfl) ?_ | (refine aA rfl (fun hq => ?_) (fun hq => ?_) <;> first | subst hq | (first | (simp only [sD, sE, sB, sC, sN, sM, sT, sF] at hq; try (exfalso; omega)) | skip)) | fail) | (refine bQ ?_; first | refine bZ ?_ | refine aK ?_ | refine aT ?_ | fail) | (refine bG ?_; first | refine bV ?_ | refine aH ?_ | refine aI (by decide) ?_ | refine aM ?_ | fail) | refine bR (bB (by kernel_rfl)) ?_ | fail)
                  all_goals first
                    | (exfalso; omega)
                    | (refine dI ?_; refine cA (by first | exact .inl rfl | exact .inr rfl) (cC rfl (aY rfl) (aY rfl)) rfl ?_; rfl)
            · rw [if_neg h136] at hsz ⊢
              refine bY Try.func28 rfl rfl (nb rfl) rfl ?_
              repeat' (first | refine bM ?_ | (refine bP ?_; first | refine aX tabOk rfl rfl rfl (nb rfl) rfl ?_ | refine bF rfl rfl (nb rfl) ?_ | (refine bO rfl rfl rfl (nb rfl) rfl rfl rfl (fun hq => ?_) (fun hq => ?_) <;> (first | (simp only [sD, sE, sB, sC, sN, sM, sT, sF] at hq; try (exfalso; omega)) | skip)) | refine aE rfl rfl rfl (nb rfl) rfl rfl (by omega) ?_ | refine bI rfl rfl rfl (nb rfl) rfl rfl rfl (by omega) (by omega) ?_ | refine bJ rfl rfl rfl (nb rfl) rfl rfl rfl (by omega) (by omega) ?_ | refine bH tabOk rfl rfl rfl (nb rfl) rfl rfl rfl rfl rfl rfl rfl rfl rfl ?_ | refine aZ tabOk rfl rfl (nb rfl) rfl ?_ | refine aU tabOk rfl rfl rfl (nb rfl) rfl rfl rfl rfl rfl rfl ?_ | refine aV tabOk rfl rfl rfl (nb rfl) rfl rfl rfl rfl ?_ | refine aN tabOk rfl rfl rfl rfl rfl rfl rfl rfl rfl rfl rfl ?_ | refine aR tabOk rfl rfl rfl (nb rfl) rfl rfl rfl rfl (by first | assumption | omega) ?_ | refine aJ tabOk rfl rfl rfl (nb rfl) rfl rfl rfl rfl (by first | rfl | omega) (by first | omega | simp) ?_ | refine aC tabOk rfl rfl rfl (nb rfl) rfl rfl rfl (by assumption) ?_ | refine aC tabOk rfl rfl rfl (nb rfl) rfl rfl rfl (bS _ _ (by first | assumption | omega)) ?_ | refine aE rfl rfl rfl (nb rfl) rfl rfl (by omega) ?_ | ((fail_if_success (refine aG (b := true) rfl rfl rfl ?_)); (fail_if_success (refine aG (b := false) rfl rfl rfl ?_)); refine aW rfl rfl rfl (fun hq => ?_) (fun hq => ?_) <;> first | subst hq | (first | (simp only [sD, sE, sB, sC, sN, sM, sT, sF] at hq; try (exfalso; omega)) | skip)) | fail) | (refine bW ?_; first | refine bN ?_ | refine bT ?_ | refine aQ ?_ | refine bD ?_ | refine bU ?_ | refine bL ?_ | refine bK ?_ | refine aA (b := true) rfl (fun _ => ?_) nTf | refine aA (b := false) rfl nFt (fun _ => ?_) | refine bE ?_ | refine bC ?_ | refine bA mixed (by kernel_rfl) ?_ | refine aD mixed (by kernel_rfl) ?_ | (refine aA rfl (fun hq => ?_) (fun hq => ?_) <;> first | subst hq | (first | (simp only [sD, sE, sB, sC, sN, sM, sT, sF] at hq; try (exfalso; omega)) | skip)) | fail) | (refine bQ ?_; first | refine bZ ?_ | refine aK ?_ | refine aT ?_ | fail) | (refine bG ?_; first | refine bV ?_ | refine aH ?_ | refine aI (by decide) ?_ | refine aM ?_ | fail) | refine bR (bB (by kernel_rfl)) ?_ | fail)
              all_goals first
                | (refine cA (by first | exact .inl rfl | exact .inr rfl) (cC rfl (aY rfl) (aY rfl)) rfl ?_; rfl)
                | exact absurd (by assumption) h131
                | exact absurd (by assumption) h132
                | exact absurd (by assumption) h133
                | exact absurd (by assumption) h146
                | exact absurd (by assumption) h136
end Go.Proofs.Ytlbemgokilhdnaa.Ab
namespace Go.Proofs.Ytlbemgokilhdnaa.Ab
set_option linter.unusedVariables false
set_option linter.unusedSimpArgs false
open Go.RowKit Go.Lib Go.Proofs.Ytlbemgokilhdnaa.RP
attribute [local irreducible] AWP AOps AExit AThen ABlock ANoGoto FeetOk
def gTextP (t : Tree) : ByteArray × Int := if tcheckP t = 0 then (if (txP t).2 = true then ((txP t).1, 0) else (⟨#[]⟩, 25)) else (⟨#[]⟩, tcheckP t)
theorem oX {t : Tree} (h : tcheckP t = 0) : isTermP t = true ∧ t.whole = true := by
  unfold tcheckP checkP at h
  by_cases hw : (wholeP t 65536).1 = 0
  · rw [if_pos hw] at h
    by_cases hf : isTermP t = true
    · exact ⟨hf, eD t _ hw⟩
    · rw [if_neg hf] at h
      exact absurd h (by decide)
  · rw [if_neg hw] at h
    exact absurd h hw
set_option maxHeartbeats 4000000 in
set_option maxRecDepth 10000 in
theorem qD (t : Tree) (hs : t.size ≤ 1000000) (hw : t.wt ≤ 1000000) : ACalls Try.prog 10 [.imm t.iv] [] (.imm (.tup [.lit (.string (gTextP t).1), .lit (.int .i64 (gTextP t).2)])) [] := by
  have c1 := tS t hs
  unfold gTextP
  by_cases h : tcheckP t = 0
  · obtain ⟨ht, hwh⟩ := oX h
    have c2 := yM t ht hwh hs hw
    rw [if_pos h]
    rw [h] at c1
    generalize txP t = R at *
    obtain ⟨R1, R2⟩ := R
    cases R2 <;>
    (refine bY Try.func10 rfl rfl (nb rfl) rfl ?_
     repeat' (first | refine bM ?_ | (refine bP ?_; first | refine aX tabOk rfl rfl rfl (nb rfl) rfl ?_ | refine bF rfl rfl (nb rfl) ?_ | (refine bO rfl rfl rfl (nb rfl) rfl rfl rfl (fun hq => ?_) (fun hq => ?_) <;> (first | (simp only [sD, sE, sB, sC, sN, sM, sT, sF] at hq; try (exfalso; omega)) | skip))| refine bX rfl rfl (nb rfl) rfl rfl rfl rfl (c1) ?_ | refine bX rfl rfl (nb rfl) rfl rfl rfl rfl (c2) ?_ | refine aE rfl rfl rfl (nb rfl) rfl rfl (by omega) ?_ | refine bI rfl rfl rfl (nb rfl) rfl rfl rfl (by omega) (by omega) ?_ | refine bJ rfl rfl rfl (nb rfl) rfl rfl rfl (by omega) (by omega) ?_ | refine bH tabOk rfl rfl rfl (nb rfl) rfl rfl rfl rfl rfl rfl rfl rfl rfl ?_ | refine aZ tabOk rfl rfl (nb rfl) rfl ?_ | refine aU tabOk rfl rfl rfl (nb rfl) rfl rfl rfl rfl rfl rfl ?_ | refine aV tabOk rfl rfl rfl (nb rfl) rfl rfl rfl rfl ?_ | refine aN tabOk rfl rfl rfl rfl rfl rfl rfl rfl rfl rfl rfl ?_ | refine aR tabOk rfl rfl rfl (nb rfl) rfl rfl rfl rfl (by first | assumption | omega) ?_ | refine aJ tabOk rfl rfl rfl (nb rfl) rfl rfl rfl rfl (by first | rfl | omega) (by first | omega | simp) ?_ | refine aC tabOk rfl rfl rfl (nb rfl) rfl rfl rfl (by assumption) ?_ | refine aC tabOk rfl rfl rfl (nb rfl) rfl rfl rfl (bS _ _ (by first | assumption | omega)) ?_ | refine aE rfl rfl rfl (nb rfl) rfl rfl (by omega) ?_ | ((fail_if_success (refine aG (b := true) rfl rfl rfl ?_)); (fail_if_success (refine aG (b := false) rfl rfl rfl ?_)); refine aW rfl rfl rfl (fun hq => ?_) (fun hq => ?_) <;> first | subst hq | (first | (simp only [sD, sE, sB, sC, sN, sM, sT, sF] at hq; try (exfalso; omega)) | skip)) | fail) | (refine bW ?_; first | refine bN ?_ | refine bT ?_ | refine aQ ?_ | refine bD ?_ | refine bU ?_ | refine bL ?_ | refine bK ?_ | refine aA (b := true) rfl (fun _ => ?_) nTf | refine aA (b := false) rfl nFt (fun _ => ?_) | refine bE ?_ | refine bC ?_ | refine bA mixed (by kernel_rfl) ?_ | refine aD mixed (by kernel_rfl) ?_ | (refine aA rfl (fun hq => ?_) (fun hq => ?_) <;> first | subst hq | (first | (simp only [sD, sE, sB, sC, sN, sM, sT, sF] at hq; try (exfalso; omega)) | skip)) | fail) | (refine bQ ?_; first | refine bZ ?_ | refine aK ?_ | refine aT ?_ | fail) | (refine bG ?_; first | refine bV ?_ | refine aH ?_ | refine aI (by decide) ?_ | refine aM ?_ | fail) | refine bR (bB (by kernel_rfl)) ?_ | fail)
     all_goals first
       | (refine cA (by first | exact .inl rfl | exact .inr rfl) (cC rfl (aY rfl) (aY rfl)) rfl ?_; rfl)
       | exact absurd rfl (by assumption))
  · rw [if_neg h]
    refine bY Try.func10 rfl rfl (nb rfl) rfl ?_
    repeat' (first | refine bM ?_ | (refine bP ?_; first | refine aX tabOk rfl rfl rfl (nb rfl) rfl ?_ | refine bF rfl rfl (nb rfl) ?_ | (refine bO rfl rfl rfl (nb rfl) rfl rfl rfl (fun hq => ?_) (fun hq => ?_) <;> (first | (simp only [sD, sE, sB, sC, sN, sM, sT, sF] at hq; try (exfalso; omega)) | skip))| refine bX rfl rfl (nb rfl) rfl rfl rfl rfl (c1) ?_ | refine aE rfl rfl rfl (nb rfl) rfl rfl (by omega) ?_ | refine bI rfl rfl rfl (nb rfl) rfl rfl rfl (by omega) (by omega) ?_ | refine bJ rfl rfl rfl (nb rfl) rfl rfl rfl (by omega) (by omega) ?_ | refine bH tabOk rfl rfl rfl (nb rfl) rfl rfl rfl rfl rfl rfl rfl rfl rfl ?_ | refine aZ tabOk rfl rfl (nb rfl) rfl ?_ | refine aU tabOk rfl rfl rfl (nb rfl) rfl rfl rfl rfl rfl rfl ?_ | refine aV tabOk rfl rfl rfl (nb rfl) rfl rfl rfl rfl ?_ | refine aN tabOk rfl rfl rfl rfl rfl rfl rfl rfl rfl rfl rfl ?_ | refine aR tabOk rfl rfl rfl (nb rfl) rfl rfl rfl rfl (by first | assumption | omega) ?_ | refine aJ tabOk rfl rfl rfl (nb rfl) rfl rfl rfl rfl (by first | rfl | omega) (by first | omega | simp) ?_ | refine aC tabOk rfl rfl rfl (nb rfl) rfl rfl rfl (by assumption) ?_ | refine aC tabOk rfl rfl rfl (nb rfl) rfl rfl rfl (bS _ _ (by first | assumption | omega)) ?_ | refine aE rfl rfl rfl (nb rfl) rfl rfl (by omega) ?_ | ((fail_if_success (refine aG (b := true) rfl rfl rfl ?_)); (fail_if_success (refine aG (b := false) rfl rfl rfl ?_)); refine aW rfl rfl rfl (fun hq => ?_) (fun hq => ?_) <;> first | subst hq | (first | (simp only [sD, sE, sB, sC, sN, sM, sT, sF] at hq; try (exfalso; omega)) | skip)) | fail) | (refine bW ?_; first | refine bN ?_ | refine bT ?_ | refine aQ ?_ | refine bD ?_ | refine bU ?_ | refine bL ?_ | refine bK ?_ | refine aA (b := true) rfl (fun _ => ?_) nTf | refine aA (b := false) rfl nFt (fun _ => ?_) | refine bE ?_ | refine bC ?_ | refine bA mixed (by kernel_rfl) ?_ | refine aD mixed (by kernel_rfl) ?_ | (refine aA rfl (fun hq => ?_) (fun hq => ?_) <;> first | subst hq | (first | (simp only [sD, sE, sB, sC, sN, sM, sT, sF] at hq; try (exfalso; omega)) | skip)) | fail) | (refine bQ ?_; first | refine bZ ?_ | refine aK ?_ | refine aT ?_ | fail) | (refine bG ?_; first | refine bV ?_ | refine aH ?_ | refine aI (by decide) ?_ | refine aM ?_ | fail) | refine bR (bB (by kernel_rfl)) ?_ | fail)
    all_goals first
      | (refine cA (by first | exact .inl rfl | exact .inr rfl) (cC rfl (aY rfl) (aY rfl)) rfl ?_; rfl)
      | exact absurd (by assumption) h
theorem rR : ∀ t : Tree, isTermP t = true → (txP t).2 = true → valP t = true := by
  intro t
  induction t using Tree.sind with
  | h t ih =>
    intro ht hx
    cases t with
    | nil => simp [isTermP] at ht
    | node k n a b ks =>
      rw [txP] at hx
      rw [valP]
      by_cases h1 : k = 131 ∨ k = 132 ∨ k = 133
      · rw [if_pos h1]
        rw [isTermP] at ht
        simp only [Bool.and_eq_true] at ht
        have h2 := ht.2
        rw [if_pos (by omega)] at h2
        exact h2
      · rw [if_neg h1]
        rw [if_neg (fun h => h1 (.inl h)), if_neg (fun h => h1 (.inr (.inl h))), if_neg (fun h => h1 (.inr (.inr h)))] at hx
        by_cases h146 : k = 146
        · rw [if_pos h146] at hx ⊢
          subst h146
          obtain ⟨x, y, rfl, hy⟩ := mW ht
          rw [tx2] at hx
          rw [val2]
          exact ih y (cG (by simp)) hy hx
        · rw [if_neg h146] at hx ⊢
          by_cases h136 : k = 136
          · rw [if_pos h136] at hx ⊢
            subst h136
            have hr := mX ht
            unfold txRec at hx
            split at hx
            · rename_i hok
              rw [(eE ks).2, List.all_eq_true] at hok
              rw [oS, List.all_eq_true]
              intro u hu
              have h3 := hok u hu
              obtain ⟨k1, n1, a1, b1, c, rfl, hc⟩ := hr u hu
              rw [txK, tx1] at h3
              rw [valK, val1]
              have s1 := cG (k := 136) (n := n) (a := a) (b := b) hu
              have s2 := cG (k := k1) (n := n1) (a := a1) (b := b1) (kids := [c]) (t := c) (by simp)
              exact ih c (by omega) hc h3
            · cases hx
          · rw [if_neg h136] at hx
            cases hx
def gLikeP (s t : Tree) : Bool := decide ((gTextP s).2 = 0) && (decide ((gTextP t).2 = 0) && likeP s t)
theorem rS {t : Tree} (h : (gTextP t).2 = 0) : isTermP t = true ∧ t.whole = true ∧ valP t = true ∧ gTextP t = ((txP t).1, 0) := by
  unfold gTextP at h ⊢
  split at h
  · rename_i h0
    rw [if_pos h0]
    obtain ⟨h1, h2⟩ := oX h0
    split at h
    · rename_i h3
      rw [if_pos h3]
      exact ⟨h1, h2, rR t h1 h3, rfl⟩
    · cases h
  · rename_i h0; exact absurd h h0
set_option maxHeartbeats 4000000 in
set_option maxRecDepth 10000 in
theorem zP (s t : Tree) (hs : s.size ≤ 1000000) (hw : s.wt ≤ 1000000) (ht : t.size ≤ 1000000) (hv : t.wt ≤ 1000000) : ACalls Try.prog 12 [.imm s.iv, .imm t.iv] [] (.imm (.lit (.bool (gLikeP s t)))) [] := by
  have c1 := qD s hs hw
  have c2 := qD t ht hv
  unfold gLikeP
  have c3 : (gTextP s).2 = 0 → (gTextP t).2 = 0 → ACalls Try.prog 32 [.imm s.iv, .imm t.iv] [] (.imm (.lit (.bool (likeP s t)))) [] := fun h1 h2 => by
    obtain ⟨_, w1, v1, _⟩ := rS h1
    obtain ⟨_, w2, v2, _⟩ := rS h2
    exact yG s t v1 v2 w1 w2 hs ht
  generalize gTextP s = R at *
  generalize gTextP t = Q at *
  generalize likeP s t = b at *
  obtain ⟨R1, R2⟩ := R
  obtain ⟨Q1, Q2⟩ := Q
  dsimp only at *
  by_cases h1 : R2 = 0
  · by_cases h2 : Q2 = 0
    · have c4 := c3 h1 h2
      rw [decide_eq_true h1, decide_eq_true h2]
      subst h1
      subst h2
      cases b <;>
      (refine bY Try.func12 rfl rfl (nb rfl) rfl ?_
       repeat' (first | refine bM ?_ | (refine bP ?_; first | refine aX tabOk rfl rfl rfl (nb rfl) rfl ?_ | refine bF rfl rfl (nb rfl) ?_ | (refine bO rfl rfl rfl (nb rfl) rfl rfl rfl (fun hq => ?_) (fun hq => ?_) <;> (first | (simp only [sD, sE, sB, sC, sN, sM, sT, sF] at hq; try (exfalso; omega)) | skip))| refine bX rfl rfl (nb rfl) rfl rfl rfl rfl (c1) ?_ | refine bX rfl rfl (nb rfl) rfl rfl rfl rfl (c2) ?_ | refine bX rfl rfl (nb rfl) rfl rfl rfl rfl (c4) ?_ | refine aE rfl rfl rfl (nb rfl) rfl rfl (by omega) ?_ | refine bI rfl rfl rfl (nb rfl) rfl rfl rfl (by omega) (by omega) ?_ | refine bJ rfl rfl rfl (nb rfl) rfl rfl rfl (by omega) (by omega) ?_ | refine bH tabOk rfl rfl rfl (nb rfl) rfl rfl rfl rfl rfl rfl rfl rfl rfl ?_ | refine aZ tabOk rfl rfl (nb rfl) rfl ?_ | refine aU tabOk rfl rfl rfl (nb rfl) rfl rfl rfl rfl rfl rfl ?_ | refine aV tabOk rfl rfl rfl (nb rfl) rfl rfl rfl rfl ?_ | refine aN tabOk rfl rfl rfl rfl rfl rfl rfl rfl rfl rfl rfl ?_ | refine aR tabOk rfl rfl rfl (nb rfl) rfl rfl rfl rfl (by first | assumption | omega) ?_ | refine aJ tabOk rfl rfl rfl (nb rfl) rfl rfl rfl rfl (by first | rfl | omega) (by first | omega | simp) ?_ | refine aC tabOk rfl rfl rfl (nb rfl) rfl rfl rfl (by assumption) ?_ | refine aC tabOk rfl rfl rfl (nb rfl) rfl rfl rfl (bS _ _ (by first | assumption | omega)) ?_ | refine aE rfl rfl rfl (nb rfl) rfl rfl (by omega) ?_ | ((fail_if_success (refine aG (b := true) rfl rfl rfl ?_)); (fail_if_success (refine aG (b := false) rfl rfl rfl ?_)); refine aW rfl rfl rfl (fun hq => ?_) (fun hq => ?_) <;> first | subst hq | (first | (simp only [sD, sE, sB, sC, sN, sM, sT, sF] at hq; try (exfalso; omega)) | skip)) | fail) | (refine bW ?_; first | refine bN ?_ | refine bT ?_ | refine aQ ?_ | refine bD ?_ | refine bU ?_ | refine bL ?_ | refine bK ?_ | refine aA (b := true) rfl (fun _ => ?_) nTf | refine aA (b := false) rfl nFt (fun _ => ?_) | refine bE ?_ | refine bC ?_ | refine bA mixed (by kernel_rfl) ?_ | refine aD mixed (by kernel_rfl) ?_ | (refine aA rfl (fun hq => ?_) (fun hq => ?_) <;> first | subst hq | (first | (simp only [sD, sE, sB, sC, sN, sM, sT, sF] at hq; try (exfalso; omega)) | skip)) | fail) | (refine bQ ?_; first | refine bZ ?_ | refine aK ?_ | refine aT ?_ | fail) | (refine bG ?_; first | refine bV ?_ | refine aH ?_ | refine aI (by decide) ?_ | refine aM ?_ | fail) | refine bR (bB (by kernel_rfl)) ?_ | fail)
       all_goals first
         | (refine cA (by first | exact .inl rfl | exact .inr rfl) (cB rfl (aY rfl)) rfl ?_; rfl)
         | exact absurd rfl (by assumption))
    · rw [decide_eq_true h1, decide_eq_false h2]
      subst h1
      refine bY Try.func12 rfl rfl (nb rfl) rfl ?_
      repeat' (first | refine bM ?_ | (refine bP ?_; first | refine aX tabOk rfl rfl rfl (nb rfl) rfl ?_ | refine bF rfl rfl (nb rfl) ?_ | (refine bO rfl rfl rfl (nb rfl) rfl rfl rfl (fun hq => ?_) (fun hq => ?_) <;> (first | (simp only [sD, sE, sB, sC, sN, sM, sT, sF] at hq; try (exfalso; omega)) | skip))| refine bX rfl rfl (nb rfl) rfl rfl rfl rfl (c1) ?_ | refine bX rfl rfl (nb rfl) rfl rfl rfl rfl (c2) ?_ | refine aE rfl rfl rfl (nb rfl) rfl rfl (by omega) ?_ | refine bI rfl rfl rfl (nb rfl) rfl rfl rfl (by omega) (by omega) ?_ | refine bJ rfl rfl rfl (nb rfl) rfl rfl rfl (by omega) (by omega) ?_ | refine bH tabOk rfl rfl rfl (nb rfl) rfl rfl rfl rfl rfl rfl rfl rfl rfl ?_ | refine aZ tabOk rfl rfl (nb rfl) rfl ?_ | refine aU tabOk rfl rfl rfl (nb rfl) rfl rfl rfl rfl rfl rfl ?_ | refine aV tabOk rfl rfl rfl (nb rfl) rfl rfl rfl rfl ?_ | refine aN tabOk rfl rfl rfl rfl rfl rfl rfl rfl rfl rfl rfl ?_ | refine aR tabOk rfl rfl rfl (nb rfl) rfl rfl rfl rfl (by first | assumption | omega) ?_ | refine aJ tabOk rfl rfl rfl (nb rfl) rfl rfl rfl rfl (by first | rfl | omega) (by first | omega | simp) ?_ | refine aC tabOk rfl rfl rfl (nb rfl) rfl rfl rfl (by assumption) ?_ | refine aC tabOk rfl rfl rfl (nb rfl) rfl rfl rfl (bS _ _ (by first | assumption | omega)) ?_ | refine aE rfl rfl rfl (nb rfl) rfl rfl (by omega) ?_ | ((fail_if_success (refine aG (b := true) rfl rfl rfl ?_)); (fail_if_success (refine aG (b := false) rfl rfl rfl ?_)); refine aW rfl rfl rfl (fun hq => ?_) (fun hq => ?_) <;> first | subst hq | (first | (simp only [sD, sE, sB, sC, sN, sM, sT, sF] at hq; try (exfalso; omega)) | skip)) | fail) | (refine bW ?_; first | refine bN ?_ | refine bT ?_ | refine aQ ?_ | refine bD ?_ | refine bU ?_ | refine bL ?_ | refine bK ?_ | refine aA (b := true) rfl (fun _ => ?_) nTf | refine aA (b := false) rfl nFt (fun _ => ?_) | refine bE ?_ | refine bC ?_ | refine bA mixed (by kernel_rfl) ?_ | refine aD mixed (by kernel_rfl) ?_ | (refine aA rfl (fun hq => ?_) (fun hq => ?_) <;> first | subst hq | (first | (simp only [sD, sE, sB, sC, sN, sM, sT, sF] at hq; try (exfalso; omega)) | skip)) | fail) | (refine bQ ?_; first | refine bZ ?_ | refine aK ?_ | refine aT ?_ | fail) | (refine bG ?_; first | refine bV ?_ | refine aH ?_ | refine aI (by decide) ?_ | refine aM ?_ | fail) | refine bR (bB (by kernel_rfl)) ?_ | fail)
      all_goals first
        | (refine cA (by first | exact .inl rfl | exact .inr rfl) (cB rfl (aY rfl)) rfl ?_; rfl)
        | exact absurd rfl (by assumption)
        | exact absurd (by assumption) h2
  · rw [decide_eq_false h1]
    refine bY Try.func12 rfl rfl (nb rfl) rfl ?_
    repeat' (first | refine bM ?_ | (refine bP ?_; first | refine aX tabOk rfl rfl rfl (nb rfl) rfl ?_ | refine bF rfl rfl (nb rfl) ?_ | (refine bO rfl rfl rfl (nb rfl) rfl rfl rfl (fun hq => ?_) (fun hq => ?_) <;> (first | (simp only [sD, sE, sB, sC, sN, sM, sT, sF] at hq; try (exfalso; omega)) | skip))| refine bX rfl rfl (nb rfl) rfl rfl rfl rfl (c1) ?_ | refine bX rfl rfl (nb rfl) rfl rfl rfl rfl (c2) ?_ | refine aE rfl rfl rfl (nb rfl) rfl rfl (by omega) ?_ | refine bI rfl rfl rfl (nb rfl) rfl rfl rfl (by omega) (by omega) ?_ | refine bJ rfl rfl rfl (nb rfl) rfl rfl rfl (by omega) (by omega) ?_ | refine bH tabOk rfl rfl rfl (nb rfl) rfl rfl rfl rfl rfl rfl rfl rfl rfl ?_ | refine aZ tabOk rfl rfl (nb rfl) rfl ?_ | refine aU tabOk rfl rfl rfl (nb rfl) rfl rfl rfl rfl rfl rfl ?_ | refine aV tabOk rfl rfl rfl (nb rfl) rfl rfl rfl rfl ?_ | refine aN tabOk rfl rfl rfl rfl rfl rfl rfl rfl rfl rfl rfl ?_ | refine aR tabOk rfl rfl rfl (nb rfl) rfl rfl rfl rfl (by first | assumption | omega) ?_ | refine aJ tabOk rfl rfl rfl (nb rfl) rfl rfl rfl rfl (by first | rfl | omega) (by first | omega | simp) ?_ | refine aC tabOk rfl rfl rfl (nb rfl) rfl rfl rfl (by assumption) ?_ | refine aC tabOk rfl rfl rfl (nb rfl) rfl rfl rfl (bS _ _ (by first | assumption | omega)) ?_ | refine aE rfl rfl rfl (nb rfl) rfl rfl (by omega) ?_ | ((fail_if_success (refine aG (b := true) rfl rfl rfl ?_)); (fail_if_success (refine aG (b := false) rfl rfl rfl ?_)); refine aW rfl rfl rfl (fun hq => ?_) (fun hq => ?_) <;> first | subst hq | (first | (simp only [sD, sE, sB, sC, sN, sM, sT, sF] at hq; try (exfalso; omega)) | skip)) | fail) | (refine bW ?_; first | refine bN ?_ | refine bT ?_ | refine aQ ?_ | refine bD ?_ | refine bU ?_ | refine bL ?_ | refine bK ?_ | refine aA (b := true) rfl (fun _ => ?_) nTf | refine aA (b := false) rfl nFt (fun _ => ?_) | refine bE ?_ | refine bC ?_ | refine bA mixed (by kernel_rfl) ?_ | refine aD mixed (by kernel_rfl) ?_ | (refine aA rfl (fun hq => ?_) (fun hq => ?_) <;> first | subst hq | (first | (simp only [sD, sE, sB, sC, sN, sM, sT, sF] at hq; try (exfalso; omega)) | skip)) | fail) | (refine bQ ?_; first | refine bZ ?_ | refine aK ?_ | refine aT ?_ | fail) | (refine bG ?_; first | refine bV ?_ | refine aH ?_ | refine aI (by decide) ?_ | refine aM ?_ | fail) | refine bR (bB (by kernel_rfl)) ?_ | fail)
    all_goals first
      | (refine cA (by first | exact .inl rfl | exact .inr rfl) (cB rfl (aY rfl)) rfl ?_; rfl)
      | exact absurd (by assumption) h1
end Go.Proofs.Ytlbemgokilhdnaa.Ab
namespace Go.Proofs.Ytlbemgokilhdnaa.Ab
set_option linter.unusedVariables false
set_option linter.unusedSimpArgs false
open Go.RowKit Go.Lib Go.Proofs.Ytlbemgokilhdnaa.RP
attribute [local irreducible] AWP AOps AExit AThen ABlock ANoGoto FeetOk
def wT1 : Tree := .node 121 0 ⟨#[]⟩ ⟨#[]⟩ [.node 122 0 ⟨#[67]⟩ ⟨#[]⟩ [.node 111 0 ⟨#[]⟩ ⟨#[]⟩ []]]
def wT2 : Tree := .node 136 0 ⟨#[]⟩ ⟨#[]⟩ [.node 137 0 ⟨#[49]⟩ ⟨#[]⟩ [.node 131 2 ⟨#[]⟩ ⟨#[]⟩ []]]
def wT : Tree := .node 146 0 ⟨#[67]⟩ ⟨#[]⟩ [wT1, wT2]
theorem zQ : gTextP wT = (⟨#[67, 32, 40, 32, 123, 32, 49, 32, 61, 32, 50, 32, 125, 32, 41]⟩, 0) := by decide +kernel
theorem zR : gLikeP wT2 wT2 = true := by decide +kernel
set_option maxHeartbeats 4000000 in
set_option maxRecDepth 10000 in
theorem wS : ACalls Try.prog 14 [] [] (.imm (.lit (.bool true))) [] := by
  have c1 := qD wT (by decide) (by decide)
  have c2 := zP wT2 wT2 (by decide) (by decide) (by decide) (by decide)
  rw [zQ] at c1
  rw [zR] at c2
  refine bY Try.func14 rfl rfl (nb rfl) rfl ?_
  repeat' (first | refine bM ?_ | (refine bP ?_; first | refine aX tabOk rfl rfl rfl (nb rfl) rfl ?_ | refine bF rfl rfl (nb rfl) ?_ | (refine bO rfl rfl rfl (nb rfl) rfl rfl rfl (fun hq => ?_) (fun hq => ?_) <;> (first | (simp only [sD, sE, sB, sC, sN, sM, sT, sF] at hq; try (exfalso; omega)) | skip))| refine bX rfl rfl (nb rfl) rfl rfl rfl rfl (c1) ?_ | refine bX rfl rfl (nb rfl) rfl rfl rfl rfl (c2) ?_ | refine aE rfl rfl rfl (nb rfl) rfl rfl (by omega) ?_ | refine bI rfl rfl rfl (nb rfl) rfl rfl rfl (by omega) (by omega) ?_ | refine bJ rfl rfl rfl (nb rfl) rfl rfl rfl (by omega) (by omega) ?_ | refine bH tabOk rfl rfl rfl (nb rfl) rfl rfl rfl rfl rfl rfl rfl rfl rfl ?_ | refine aZ tabOk rfl rfl (nb rfl) rfl ?_ | refine aU tabOk rfl rfl rfl (nb rfl) rfl rfl rfl rfl rfl rfl ?_ | refine aV tabOk rfl rfl rfl (nb rfl) rfl rfl rfl rfl ?_ | refine aN tabOk rfl rfl rfl rfl rfl rfl rfl rfl rfl rfl rfl ?_ | refine aR tabOk rfl rfl rfl (nb rfl) rfl rfl rfl rfl (by first | assumption | omega) ?_ | refine aJ tabOk rfl rfl rfl (nb rfl) rfl rfl rfl rfl (by first | rfl | omega) (by first | omega | simp) ?_ | refine aC tabOk rfl rfl rfl (nb rfl) rfl rfl rfl (by assumption) ?_ | refine aC tabOk rfl rfl rfl (nb rfl) rfl rfl rfl (bS _ _ (by first | assumption | omega)) ?_ | refine aE rfl rfl rfl (nb rfl) rfl rfl (by omega) ?_ | ((fail_if_success (refine aG (b := true) rfl rfl rfl ?_)); (fail_if_success (refine aG (b := false) rfl rfl rfl ?_)); refine aW rfl rfl rfl (fun hq => ?_) (fun hq => ?_) <;> first | subst hq | (first | (simp only [sD, sE, sB, sC, sN, sM, sT, sF] at hq; try (exfalso; omega)) | skip)) | fail) | (refine bW ?_; first | refine bN ?_ | refine bT ?_ | refine aQ ?_ | refine bD ?_ | refine bU ?_ | refine bL ?_ | refine bK ?_ | refine aA (b := true) rfl (fun _ => ?_) nTf | refine aA (b := false) rfl nFt (fun _ => ?_) | refine bE ?_ | refine bC ?_ | refine bA mixed (by kernel_rfl) ?_ | refine aD mixed (by kernel_rfl) ?_ | (refine aA rfl (fun hq => ?_) (fun hq => ?_) <;> first | subst hq | (first | (simp only [sD, sE, sB, sC, sN, sM, sT, sF] at hq; try (exfalso; omega)) | skip)) | fail) | (refine bQ ?_; first | refine bZ ?_ | refine aK ?_ | refine aT ?_ | fail) | (refine bG ?_; first | refine bV ?_ | refine aH ?_ | refine aI (by decide) ?_ | refine aM ?_ | fail) | refine bR (bB (by kernel_rfl)) ?_ | fail)
  all_goals first
    | exact dJ (by first | exact .inl rfl | exact .inr rfl) (cB rfl (aY rfl)) rfl
    | exact absurd rfl (by assumption)
end Go.Proofs.Ytlbemgokilhdnaa.Ab
namespace Go.Proofs.Ytlbemgokilhdnaa.Ab
set_option linter.unusedVariables false
set_option linter.unusedSimpArgs false
open Go.RowKit Go.Lib Go.Proofs.Ytlbemgokilhdnaa.RP
attribute [local irreducible] AWP AOps AExit AThen ABlock ANoGoto FeetOk
/-- What Type tells. -/
def typeP (t : Tree) : Int := if (normalP 1000 t).2 = 0 then (if groundP (normalP 1000 t).1 0 = true then 0 else 25) else (normalP 1000 t).2
theorem mY {t : Tree} (h : (normalP 1000 t).2 = 0) : (normalP 1000 t).1.whole = true ∧ (normalP 1000 t).1.size ≤ 65536 ∧ isConP (normalP 1000 t).1 = true ∧ (StepP (normalP 1000 t).1).2 = (false, 0) := by
  have h1 := (pU 1000 1000 t h).1
  have h2 := cQ (rF h1)
  exact ⟨h2.1, h2.2.1, h2.2.2, h1⟩
set_option maxHeartbeats 4000000 in
set_option maxRecDepth 10000 in
theorem aAn (t : Tree) (hs : t.size ≤ 1000000) : ACalls Try.prog 19 [.imm t.iv] [] (.imm (.lit (.int .i64 (typeP t)))) [] := by
  have c1 := xT t hs
  unfold typeP
  have hn := @mY t
  generalize normalP 1000 t = N at *
  obtain ⟨m, e⟩ := N
  dsimp only at *
  by_cases he : e = 0
  · subst he
    obtain ⟨h1, h2, h3, _⟩ := hn rfl
    have c2 := xU m h3 h1 0 (Int.le_refl _) (by omega)
    rw [if_pos rfl]
    cases hg : groundP m 0 with
    | true =>
      rw [hg] at c2
      refine bY Try.func19 rfl rfl (nb rfl) rfl ?_
      repeat' (first | refine bM ?_ | (refine bP ?_; first | refine aX tabOk rfl rfl rfl (nb rfl) rfl ?_ | refine bF rfl rfl (nb rfl) ?_ | (refine bO rfl rfl rfl (nb rfl) rfl rfl rfl (fun hq => ?_) (fun hq => ?_) <;> (first | (simp only [sD, sE, sB, sC, sN, sM, sT, sF] at hq; try (exfalso; omega)) | skip))| refine bX rfl rfl (nb rfl) rfl rfl rfl rfl (c1) ?_ | refine bX rfl rfl (nb rfl) rfl rfl rfl rfl (c2) ?_ | refine aE rfl rfl rfl (nb rfl) rfl rfl (by omega) ?_ | refine bI rfl rfl rfl (nb rfl) rfl rfl rfl (by omega) (by omega) ?_ | refine bJ rfl rfl rfl (nb rfl) rfl rfl rfl (by omega) (by omega) ?_ | refine bH tabOk rfl rfl rfl (nb rfl) rfl rfl rfl rfl rfl rfl rfl rfl rfl ?_ | refine aZ tabOk rfl rfl (nb rfl) rfl ?_ | refine aU tabOk rfl rfl rfl (nb rfl) rfl rfl rfl rfl rfl rfl ?_ | refine aV tabOk rfl rfl rfl (nb rfl) rfl rfl rfl rfl ?_ | refine aN tabOk rfl rfl rfl rfl rfl rfl rfl rfl rfl rfl rfl ?_ | refine aR tabOk rfl rfl rfl (nb rfl) rfl rfl rfl rfl (by first | assumption | omega) ?_ | refine aJ tabOk rfl rfl rfl (nb rfl) rfl rfl rfl rfl (by first | rfl | omega) (by first | omega | simp) ?_ | refine aC tabOk rfl rfl rfl (nb rfl) rfl rfl rfl (by assumption) ?_ | refine aC tabOk rfl rfl rfl (nb rfl) rfl rfl rfl (bS _ _ (by first | assumption | omega)) ?_ | refine aE rfl rfl rfl (nb rfl) rfl rfl (by omega) ?_ | ((fail_if_success (refine aG (b := true) rfl rfl rfl ?_)); (fail_if_success (refine aG (b := false) rfl rfl rfl ?_)); refine aW rfl rfl rfl (fun hq => ?_) (fun hq => ?_) <;> first | subst hq | (first | (simp only [sD, sE, sB, sC, sN, sM, sT, sF] at hq; try (exfalso; omega)) | skip)) | fail) | (refine bW ?_; first | refine bN ?_ | refine bT ?_ | refine aQ ?_ | refine bD ?_ | refine bU ?_ | refine bL ?_ | refine bK ?_ | refine aA (b := true) rfl (fun _ => ?_) nTf | refine aA (b := false) rfl nFt (fun _ => ?_) | refine bE ?_ | refine bC ?_ | refine bA mixed (by kernel_rfl) ?_ | refine aD mixed (by kernel_rfl) ?_ | (refine aA rfl (fun hq => ?_) (fun hq => ?_) <;> first | subst hq | (first | (simp only [sD, sE, sB, sC, sN, sM, sT, sF] at hq; try (exfalso; omega)) | skip)) | fail) | (refine bQ ?_; first | refine bZ ?_ | refine aK ?_ | refine aT ?_ | fail) | (refine bG ?_; first | refine bV ?_ | refine aH ?_ | refine aI (by decide) ?_ | refine aM ?_ | fail) | refine bR (bB (by kernel_rfl)) ?_ | fail)
      all_goals first
        | exact absurd rfl (by assumption)
        | (refine cA (by first | exact .inl rfl | exact .inr rfl) (cB rfl (aY rfl)) rfl ?_; rfl)
    | false =>
      rw [hg] at c2
      refine bY Try.func19 rfl rfl (nb rfl) rfl ?_
      repeat' (first | refine bM ?_ | (refine bP ?_; first | refine aX tabOk rfl rfl rfl (nb rfl) rfl ?_ | refine bF rfl rfl (nb rfl) ?_ | (refine bO rfl rfl rfl (nb rfl) rfl rfl rfl (fun hq => ?_) (fun hq => ?_) <;> (first | (simp only [sD, sE, sB, sC, sN, sM, sT, sF] at hq; try (exfalso; omega)) | skip))| refine bX rfl rfl (nb rfl) rfl rfl rfl rfl (c1) ?_ | refine bX rfl rfl (nb rfl) rfl rfl rfl rfl (c2) ?_ | refine aE rfl rfl rfl (nb rfl) rfl rfl (by omega) ?_ | refine bI rfl rfl rfl (nb rfl) rfl rfl rfl (by omega) (by omega) ?_ | refine bJ rfl rfl rfl (nb rfl) rfl rfl rfl (by omega) (by omega) ?_ | refine bH tabOk rfl rfl rfl (nb rfl) rfl rfl rfl rfl rfl rfl rfl rfl rfl ?_ | refine aZ tabOk rfl rfl (nb rfl) rfl ?_ | refine aU tabOk rfl rfl rfl (nb rfl) rfl rfl rfl rfl rfl rfl ?_ | refine aV tabOk rfl rfl rfl (nb rfl) rfl rfl rfl rfl ?_ | refine aN tabOk rfl rfl rfl rfl rfl rfl rfl rfl rfl rfl rfl ?_ | refine aR tabOk rfl rfl rfl (nb rfl) rfl rfl rfl rfl (by first | assumption | omega) ?_ | refine aJ tabOk rfl rfl rfl (nb rfl) rfl rfl rfl rfl (by first | rfl | omega) (by first | omega | simp) ?_ | refine aC tabOk rfl rfl rfl (nb rfl) rfl rfl rfl (by assumption) ?_ | refine aC tabOk rfl rfl rfl (nb rfl) rfl rfl rfl (bS _ _ (by first | assumption | omega)) ?_ | refine aE rfl rfl rfl (nb rfl) rfl rfl (by omega) ?_ | ((fail_if_success (refine aG (b := true) rfl rfl rfl ?_)); (fail_if_success (refine aG (b := false) rfl rfl rfl ?_)); refine aW rfl rfl rfl (fun hq => ?_) (fun hq => ?_) <;> first | subst hq | (first | (simp only [sD, sE, sB, sC, sN, sM, sT, sF] at hq; try (exfalso; omega)) | skip)) | fail) | (refine bW ?_; first | refine bN ?_ | refine bT ?_ | refine aQ ?_ | refine bD ?_ | refine bU ?_ | refine bL ?_ | refine bK ?_ | refine aA (b := true) rfl (fun _ => ?_) nTf | refine aA (b := false) rfl nFt (fun _ => ?_) | refine bE ?_ | refine bC ?_ | refine bA mixed (by kernel_rfl) ?_ | refine aD mixed (by kernel_rfl) ?_ | (refine aA rfl (fun hq => ?_) (fun hq => ?_) <;> first | subst hq | (first | (simp only [sD, sE, sB, sC, sN, sM, sT, sF] at hq; try (exfalso; omega)) | skip)) | fail) | (refine bQ ?_; first | refine bZ ?_ | refine aK ?_ | refine aT ?_ | fail) | (refine bG ?_; first | refine bV ?_ | refine aH ?_ | refine aI (by decide) ?_ | refine aM ?_ | fail) | refine bR (bB (by kernel_rfl)) ?_ | fail)
      all_goals first
        | exact absurd rfl (by assumption)
        | (refine cA (by first | exact .inl rfl | exact .inr rfl) (cB rfl (aY rfl)) rfl ?_; rfl)
  · rw [if_neg he]
    refine bY Try.func19 rfl rfl (nb rfl) rfl ?_
    repeat' (first | refine bM ?_ | (refine bP ?_; first | refine aX tabOk rfl rfl rfl (nb rfl) rfl ?_ | refine bF rfl rfl (nb rfl) ?_ | (refine bO rfl rfl rfl (nb rfl) rfl rfl rfl (fun hq => ?_) (fun hq => ?_) <;> (first | (simp only [sD, sE, sB, sC, sN, sM, sT, sF] at hq; try (exfalso; omega)) | skip))| refine bX rfl rfl (nb rfl) rfl rfl rfl rfl (c1) ?_ | refine aE rfl rfl rfl (nb rfl) rfl rfl (by omega) ?_ | refine bI rfl rfl rfl (nb rfl) rfl rfl rfl (by omega) (by omega) ?_ | refine bJ rfl rfl rfl (nb rfl) rfl rfl rfl (by omega) (by omega) ?_ | refine bH tabOk rfl rfl rfl (nb rfl) rfl rfl rfl rfl rfl rfl rfl rfl rfl ?_ | refine aZ tabOk rfl rfl (nb rfl) rfl ?_ | refine aU tabOk rfl rfl rfl (nb rfl) rfl rfl rfl rfl rfl rfl ?_ | refine aV tabOk rfl rfl rfl (nb rfl) rfl rfl rfl rfl ?_ | refine aN tabOk rfl rfl rfl rfl rfl rfl rfl rfl rfl rfl rfl ?_ | refine aR tabOk rfl rfl rfl (nb rfl) rfl rfl rfl rfl (by first | assumption | omega) ?_ | refine aJ tabOk rfl rfl rfl (nb rfl) rfl rfl rfl rfl (by first | rfl | omega) (by first | omega | simp) ?_ | refine aC tabOk rfl rfl rfl (nb rfl) rfl rfl rfl (by assumption) ?_ | refine aC tabOk rfl rfl rfl (nb rfl) rfl rfl rfl (bS _ _ (by first | assumption | omega)) ?_ | refine aE rfl rfl rfl (nb rfl) rfl rfl (by omega) ?_ | ((fail_if_success (refine aG (b := true) rfl rfl rfl ?_)); (fail_if_success (refine aG (b := false) rfl rfl rfl ?_)); refine aW rfl rfl rfl (fun hq => ?_) (fun hq => ?_) <;> first | subst hq | (first | (simp only [sD, sE, sB, sC, sN, sM, sT, sF] at hq; try (exfalso; omega)) | skip)) | fail) | (refine bW ?_; first | refine bN ?_ | refine bT ?_ | refine aQ ?_ | refine bD ?_ | refine bU ?_ | refine bL ?_ | refine bK ?_ | refine aA (b := true) rfl (fun _ => ?_) nTf | refine aA (b := false) rfl nFt (fun _ => ?_) | refine bE ?_ | refine bC ?_ | refine bA mixed (by kernel_rfl) ?_ | refine aD mixed (by kernel_rfl) ?_ | (refine aA rfl (fun hq => ?_) (fun hq => ?_) <;> first | subst hq | (first | (simp only [sD, sE, sB, sC, sN, sM, sT, sF] at hq; try (exfalso; omega)) | skip)) | fail) | (refine bQ ?_; first | refine bZ ?_ | refine aK ?_ | refine aT ?_ | fail) | (refine bG ?_; first | refine bV ?_ | refine aH ?_ | refine aI (by decide) ?_ | refine aM ?_ | fail) | refine bR (bB (by kernel_rfl)) ?_ | fail)
    all_goals first
      | exact absurd (by assumption) he
      | exact absurd rfl (by assumption)
      | (refine cA (by first | exact .inl rfl | exact .inr rfl) (cB rfl (aY rfl)) rfl ?_; rfl)
theorem rT (l : List CellD) (hff : ∀ c ∈ l, c.f = false) : ∃ t : Tree, t.size ≤ 60 ∧ t.wt ≤ 11160 ∧ (t = .nil ∨ t.whole = true) ∧ ACalls Try.prog 15 [.imm (.agg [.sl false l.length (cellIVs l)])] [] (.imm t.iv) [] := by
  obtain ⟨t, h, c⟩ := tX l hff
  rcases h with rfl | ⟨h1, h2, h3⟩
  · exact ⟨_, by simp [Tree.size], by simp [Tree.wt], .inl rfl, c⟩
  · exact ⟨t, h2, h3, .inr h1, c⟩
end Go.Proofs.Ytlbemgokilhdnaa.Ab
namespace Go.Proofs.Ytlbemgokilhdnaa.Ab
set_option linter.unusedVariables false
set_option linter.unusedSimpArgs false
attribute [local irreducible] AWP AOps AExit AThen ABlock ANoGoto FeetOk
end Go.Proofs.Ytlbemgokilhdnaa.Ab
namespace Go.Proofs.Ytlbemgokilhdnaa.Ab
set_option linter.unusedVariables false
set_option linter.unusedSimpArgs false
attribute [local irreducible] AWP AOps AExit AThen ABlock ANoGoto FeetOk
end Go.Proofs.Ytlbemgokilhdnaa.Ab
namespace Go.Proofs.Ytlbemgokilhdnaa.Ab
set_option linter.unusedVariables false
set_option linter.unusedSimpArgs false
attribute [local irreducible] AWP AOps AExit AThen ABlock ANoGoto FeetOk
mutual
def sameP : Tree → Tree → Bool
  | .nil, .nil => true
  | .node k n a b ks, .node k' n' a' b' ks' => (((k == k' && n == n') && eqB a a') && eqB b b') && samePs ks ks'
  | _, _ => false
def samePs : List Tree → List Tree → Bool
  | [], [] => true
  | x :: xs, y :: ys => sameP x y && samePs xs ys
  | _, _ => false
end
theorem wU (t : Tree) : ∀ u, sameP t u = true ↔ t = u := by
  induction t using Tree.ind with
  | h1 => intro u; cases u <;> simp [sameP]
  | h2 k n a b ks ih =>
    intro u
    cases u with
    | nil => simp [sameP]
    | node k' n' a' b' ks' =>
      have key : ∀ (l l' : List Tree), (∀ t ∈ l, t ∈ ks) → (samePs l l' = true ↔ l = l') := by
        intro l
        induction l with
        | nil => intro l' _; cases l' <;> simp [samePs]
        | cons x xs ihl =>
          intro l' hm
          cases l' with
          | nil => simp [samePs]
          | cons y ys =>
            rw [samePs, Bool.and_eq_true, ih x (hm x (by simp)) y, ihl ys (fun t ht => hm t (by simp [ht]))]
            simp
      simp only [sameP, Bool.and_eq_true, beq_iff_eq, dW, key ks ks' (fun _ h => h), Tree.node.injEq]
      constructor
      · rintro ⟨⟨⟨⟨h1, h2⟩, h3⟩, h4⟩, h5⟩; exact ⟨h1, h2, h3, h4, h5⟩
      · rintro ⟨h1, h2, h3, h4, h5⟩; exact ⟨⟨⟨⟨h1, h2⟩, h3⟩, h4⟩, h5⟩
end Go.Proofs.Ytlbemgokilhdnaa.Ab
namespace Go.Proofs.Ytlbemgokilhdnaa.Ab
set_option linter.unusedVariables false
set_option linter.unusedSimpArgs false
attribute [local irreducible] AWP AOps AExit AThen ABlock ANoGoto FeetOk
def Tree.kids : Tree → List Tree
  | .nil => []
  | .node _ _ _ _ ks => ks
end Go.Proofs.Ytlbemgokilhdnaa.Ab
namespace Go.Proofs.Ytlbemgokilhdnaa.Ab
set_option linter.unusedVariables false
set_option linter.unusedSimpArgs false
attribute [local irreducible] AWP AOps AExit AThen ABlock ANoGoto FeetOk
end Go.Proofs.Ytlbemgokilhdnaa.Ab
namespace Go.Proofs.Ytlbemgokilhdnaa.Ab
set_option linter.unusedVariables false
set_option linter.unusedSimpArgs false
attribute [local irreducible] AWP AOps AExit AThen ABlock ANoGoto FeetOk
end Go.Proofs.Ytlbemgokilhdnaa.Ab
namespace Go.Proofs.Ytlbemgokilhdnaa.Ab
set_option linter.unusedVariables false
set_option linter.unusedSimpArgs false
open Go.RowKit
attribute [local irreducible] AWP AOps AExit AThen ABlock ANoGoto FeetOk
set_option maxHeartbeats 4000000 in
set_option maxRecDepth 10000 in
theorem mZ (k n : Int) (a b : ByteArray) (kids : List Tree) (nm : Bool) : ACalls Try.prog 119 [.imm (Tree.iv (.node k n a b kids)), .imm (.lit (.bool nm))] [] (.imm (.lit (.bool (bareP n a b nm false)))) [] := by
  cases nm <;>
  (refine bY Try.func119 rfl rfl (nb rfl) rfl ?_
   repeat' (first | refine bM ?_ | (refine bP ?_; first | refine aX tabOk rfl rfl rfl (nb rfl) rfl ?_ | refine bF rfl rfl (nb rfl) ?_ | (refine bO rfl rfl rfl (nb rfl) rfl rfl rfl (fun hq => ?_) (fun hq => ?_) <;> (first | (simp only [sD, sE, sB, sC, sN, sM, sT, sF] at hq; try (exfalso; omega)) | skip)) | refine aE rfl rfl rfl (nb rfl) rfl rfl (by omega) ?_ | refine bI rfl rfl rfl (nb rfl) rfl rfl rfl (by omega) (by omega) ?_ | refine bJ rfl rfl rfl (nb rfl) rfl rfl rfl (by omega) (by omega) ?_ | refine bH tabOk rfl rfl rfl (nb rfl) rfl rfl rfl rfl rfl rfl rfl rfl rfl ?_ | refine aZ tabOk rfl rfl (nb rfl) rfl ?_ | refine aU tabOk rfl rfl rfl (nb rfl) rfl rfl rfl rfl rfl rfl ?_ | refine aV tabOk rfl rfl rfl (nb rfl) rfl rfl rfl rfl ?_ | refine aN tabOk rfl rfl rfl rfl rfl rfl rfl rfl rfl rfl rfl ?_ | refine aR tabOk rfl rfl rfl (nb rfl) rfl rfl rfl rfl (by first | assumption | omega) ?_ | refine aJ tabOk rfl rfl rfl (nb rfl) rfl rfl rfl rfl (by first | rfl | omega) (by first | omega | simp) ?_ | refine aC tabOk rfl rfl rfl (nb rfl) rfl rfl rfl (by assumption) ?_ | refine aC tabOk rfl rfl rfl (nb rfl) rfl rfl rfl (bS _ _ (by first | assumption | omega)) ?_ | refine aE rfl rfl rfl (nb rfl) rfl rfl (by omega) ?_ | ((fail_if_success (refine aG (b := true) rfl rfl rfl ?_)); (fail_if_success (refine aG (b := false) rfl rfl rfl ?_)); refine aW rfl rfl rfl (fun hq => ?_) (fun hq => ?_) <;> first | subst hq | (first | (simp only [sD, sE, sB, sC, sN, sM, sT, sF] at hq; try (exfalso; omega)) | skip)) | fail) | (refine bW ?_; first | refine bN ?_ | refine bT ?_ | refine aQ ?_ | refine bD ?_ | refine bU ?_ | refine bL ?_ | refine bK ?_ | refine aA (b := true) rfl (fun _ => ?_) nTf | refine aA (b := false) rfl nFt (fun _ => ?_) | refine bE ?_ | refine bC ?_ | refine bA mixed (by kernel_rfl) ?_ | refine aD mixed (by kernel_rfl) ?_ | (refine aA rfl (fun hq => ?_) (fun hq => ?_) <;> first | subst hq | (first | (simp only [sD, sE, sB, sC, sN, sM, sT, sF] at hq; try (exfalso; omega)) | skip)) | fail) | (refine bQ ?_; first | refine bZ ?_ | refine aK ?_ | refine aT ?_ | fail) | (refine bG ?_; first | refine bV ?_ | refine aH ?_ | refine aI (by decide) ?_ | refine aM ?_ | fail) | refine bR (bB (by kernel_rfl)) ?_ | fail)
   all_goals (refine cA (by first | exact .inl rfl | exact .inr rfl) (cB rfl (aY rfl)) rfl ?_; refine cK ?_; simp_all [bareP, eqB, emptyB]))
set_option maxHeartbeats 4000000 in
set_option maxRecDepth 10000 in
theorem zS (t : Tree) (h : t.whole = true) : ACalls Try.prog 121 [.imm t.iv] [] (.imm (.lit (.bool (isKindP t)))) [] := by
  induction t using Tree.ind with
  | h1 => simp [Tree.whole] at h
  | h2 k n a b kids ih =>
    refine bY Try.func121 rfl rfl (nb rfl) rfl ?_
    repeat' (first | refine bM ?_ | (refine bP ?_; first | refine aX tabOk rfl rfl rfl (nb rfl) rfl ?_ | refine bF rfl rfl (nb rfl) ?_ | (refine bO rfl rfl rfl (nb rfl) rfl rfl rfl (fun hq => ?_) (fun hq => ?_) <;> (first | (simp only [sD, sE, sB, sC, sN, sM, sT, sF] at hq; try (exfalso; omega)) | skip))| (refine cE rfl rfl rfl (nb rfl) rfl rfl rfl (mZ _ _ _ _ _ _) (fun hq => ?_) (fun hq => ?_)) | (refine cE rfl rfl rfl (nb rfl) rfl rfl rfl (ih _ (List.getElem_mem _) (cD h (List.getElem_mem _))) (fun hq => ?_) (fun hq => ?_)) | refine aE rfl rfl rfl (nb rfl) rfl rfl (by omega) ?_ | refine bI rfl rfl rfl (nb rfl) rfl rfl rfl (by omega) (by omega) ?_ | refine bJ rfl rfl rfl (nb rfl) rfl rfl rfl (by omega) (by omega) ?_ | refine bH tabOk rfl rfl rfl (nb rfl) rfl rfl rfl rfl rfl rfl rfl rfl rfl ?_ | refine aZ tabOk rfl rfl (nb rfl) rfl ?_ | refine aU tabOk rfl rfl rfl (nb rfl) rfl rfl rfl rfl rfl rfl ?_ | refine aV tabOk rfl rfl rfl (nb rfl) rfl rfl rfl rfl ?_ | refine aN tabOk rfl rfl rfl rfl rfl rfl rfl rfl rfl rfl rfl ?_ | refine aR tabOk rfl rfl rfl (nb rfl) rfl rfl rfl rfl (by first | assumption | omega) ?_ | refine aJ tabOk rfl rfl rfl (nb rfl) rfl rfl rfl rfl (by first | rfl | omega) (by first | omega | simp) ?_ | refine aC tabOk rfl rfl rfl (nb rfl) rfl rfl rfl (by assumption) ?_ | refine aC tabOk rfl rfl rfl (nb rfl) rfl rfl rfl (bS _ _ (by first | assumption | omega)) ?_ | refine aE rfl rfl rfl (nb rfl) rfl rfl (by omega) ?_ | ((fail_if_success (refine aG (b := true) rfl rfl rfl ?_)); (fail_if_success (refine aG (b := false) rfl rfl rfl ?_)); refine aW rfl rfl rfl (fun hq => ?_) (fun hq => ?_) <;> first | subst hq | (first | (simp only [sD, sE, sB, sC, sN, sM, sT, sF] at hq; try (exfalso; omega)) | skip)) | fail) | (refine bW ?_; first | refine bN ?_ | refine bT ?_ | refine aQ ?_ | refine bD ?_ | refine bU ?_ | refine bL ?_ | refine bK ?_ | refine aA (b := true) rfl (fun _ => ?_) nTf | refine aA (b := false) rfl nFt (fun _ => ?_) | refine bE ?_ | refine bC ?_ | refine bA mixed (by kernel_rfl) ?_ | refine aD mixed (by kernel_rfl) ?_ | (refine aA rfl (fun hq => ?_) (fun hq => ?_) <;> first | subst hq | (first | (simp only [sD, sE, sB, sC, sN, sM, sT, sF] at hq; try (exfalso; omega)) | skip)) | fail) | (refine bQ ?_; first | refine bZ ?_ | refine aK ?_ | refine aT ?_ | fail) | (refine bG ?_; first | refine bV ?_ | refine aH ?_ | refine aI (by decide) ?_ | refine aM ?_ | fail) | refine bR (bB (by kernel_rfl)) ?_ | fail)
    all_goals (refine cA (by first | exact .inl rfl | exact .inr rfl) (cB rfl (aY rfl)) rfl ?_; refine cK ?_; by_cases h2 : kids.length = 2 <;> first | (obtain ⟨x, y, rfl⟩ := two h2; simp_all [isKindP, isKindPs]; done) | (simp_all [isKindP]; done) | (simp_all [isKindP]; omega))
theorem rU (l : List UInt8) : ¬ l < l := List.lt_irrefl l
def gtB (u v : ByteArray) : Bool := !(ltB u v || eqB u v)
def okPair (rise : Bool) (u v : ByteArray) : Bool := !(eqB u v) && (!rise || !(gtB u v))
theorem aAo {u v : ByteArray} (h : ltB u v = true) : eqB u v = false := by
  unfold ltB at h
  rw [bytesLess_eq, decide_eq_true_eq] at h
  unfold eqB
  refine beq_eq_false_iff_ne.2 fun e => ?_
  rw [e] at h
  exact rU _ h
theorem wV {u v x : ByteArray} (h : ltB u v = true) (h2 : ltB v x = true) : ltB u x = true := by
  unfold ltB at *
  rw [bytesLess_eq, decide_eq_true_eq] at *
  exact List.lt_trans h h2
theorem kY (u v : ByteArray) : okPair true u v = ltB u v := by
  unfold okPair gtB
  cases h : ltB u v with
  | true => rw [aAo h]; rfl
  | false => cases eqB u v <;> rfl
theorem nA (u v : ByteArray) : okPair false u v = !(eqB u v) := by unfold okPair; simp
theorem rV (u v : ByteArray) : eqB u v = eqB v u := by
  unfold eqB
  rw [Bool.eq_iff_iff, beq_iff_eq, beq_iff_eq]
  exact ⟨Eq.symm, Eq.symm⟩
def pairsP (rise : Bool) (l : List Tree) : Bool := if rise = true then risingP l else distinctP l
theorem nB {l : List Tree} (h : risingP l = true) : ∀ (d i : Nat) (hi : i + d + 1 < l.length), ltB (l[i]'(by omega)).name l[i + d + 1].name = true
  | 0, i, hi => (dZ l).1 h i hi
  | d + 1, i, hi => wV (nB h d i (by omega)) ((dZ l).1 h (i + d + 1) (by omega))
theorem tY (rise : Bool) (l : List Tree) : pairsP rise l = true ↔ ∀ i j (hij : i < j) (hj : j < l.length), okPair rise (l[i]'(by omega)).name l[j].name = true := by
  unfold pairsP
  cases rise with
  | true =>
    rw [if_pos rfl]
    constructor
    · intro h i j hij hj
      rw [kY]
      have e : j = i + (j - i - 1) + 1 := by omega
      have := nB h (j - i - 1) i (by omega)
      have e2 : l[j] = l[i + (j - i - 1) + 1]'(by omega) := by congr 1
      rw [e2]
      exact this
    · intro h
      rw [dZ]
      intro i hi
      have := h i (i + 1) (by omega) hi
      rw [kY] at this
      exact this
  | false =>
    rw [if_neg (by simp), dS]
    constructor
    · intro h i j hij hj
      rw [nA, rV, h i j hij hj]
      rfl
    · intro h i j hij hj
      have := h i j hij hj
      rw [nA, rV] at this
      simpa using this
def labelsB (l : List Tree) (kind : Int) (rise : Bool) : Bool := namedPs l kind && pairsP rise l
theorem iE (l : List Tree) (kind : Int) (rise : Bool) : labelsB l kind rise = true ↔ (∀ q (hq : q < l.length), okNamed kind l[q] = true) ∧ ∀ i j (hij : i < j) (hj : j < l.length), okPair rise (l[i]'(by omega)).name l[j].name = true := by
  unfold labelsB
  rw [Bool.and_eq_true, tY, dC]
  constructor
  · rintro ⟨h1, h2⟩
    exact ⟨fun q hq => List.all_eq_true.1 h1 _ (List.getElem_mem hq), h2⟩
  · rintro ⟨h1, h2⟩
    exact ⟨jL h1, h2⟩
end Go.Proofs.Ytlbemgokilhdnaa.Ab
namespace Go.Proofs.Ytlbemgokilhdnaa.Ab
set_option linter.unusedVariables false
set_option linter.unusedSimpArgs false
attribute [local irreducible] AWP AOps AExit AThen ABlock ANoGoto FeetOk
end Go.Proofs.Ytlbemgokilhdnaa.Ab
namespace Go.Proofs.Ytlbemgokilhdnaa.Ab
set_option linter.unusedVariables false
set_option linter.unusedSimpArgs false
open Go.RowKit
attribute [local irreducible] AWP AOps AExit AThen ABlock ANoGoto FeetOk
end Go.Proofs.Ytlbemgokilhdnaa.Ab
namespace Go.Proofs.Ytlbemgokilhdnaa.Ab
set_option linter.unusedVariables false
set_option linter.unusedSimpArgs false
open Go.RowKit
attribute [local irreducible] AWP AOps AExit AThen ABlock ANoGoto FeetOk
end Go.Proofs.Ytlbemgokilhdnaa.Ab
namespace Go.Proofs.Ytlbemgokilhdnaa.Ab
set_option linter.unusedVariables false
set_option linter.unusedSimpArgs false
open Go.RowKit
attribute [local irreducible] AWP AOps AExit AThen ABlock ANoGoto FeetOk
end Go.Proofs.Ytlbemgokilhdnaa.Ab
namespace Go.Proofs.Ytlbemgokilhdnaa.Ab
set_option linter.unusedVariables false
set_option linter.unusedSimpArgs false
open Go.RowKit
attribute [local irreducible] AWP AOps AExit AThen ABlock ANoGoto FeetOk
instance : DecidableEq Tree := fun a b => decidable_of_iff (sameP a b = true) (wU a b)
abbrev lt : ByteArray := ⟨#[116, 58, 116]⟩
end Go.Proofs.Ytlbemgokilhdnaa.Ab
namespace Go.Proofs.Ytlbemgokilhdnaa.Ab
set_option linter.unusedVariables false
set_option linter.unusedSimpArgs false
open Go.RowKit
attribute [local irreducible] AWP AOps AExit AThen ABlock ANoGoto FeetOk
end Go.Proofs.Ytlbemgokilhdnaa.Ab
namespace Go.Proofs.Ytlbemgokilhdnaa.Ab
set_option linter.unusedVariables false
set_option linter.unusedSimpArgs false
open Go.RowKit
attribute [local irreducible] AWP AOps AExit AThen ABlock ANoGoto FeetOk
theorem rW {l : List Tree} {kind : Int} {rise : Bool} {i : Nat} (h : i < l.length) (hb : okNamed kind l[i] = false) : labelsB l kind rise = false := by
  rw [Bool.eq_false_iff]
  intro hc
  have := ((iE l kind rise).1 hc).1 i h
  rw [hb] at this
  cases this
theorem tZ {l : List Tree} {kind : Int} {rise : Bool} {i j : Nat} (hij : j < i) (h : i < l.length) (hb : okPair rise (l[j]'(by omega)).name l[i].name = false) : labelsB l kind rise = false := by
  rw [Bool.eq_false_iff]
  intro hc
  have := ((iE l kind rise).1 hc).2 j i hij h
  rw [hb] at this
  cases this
set_option maxHeartbeats 16000000 in
set_option maxRecDepth 10000 in
theorem rX (l : List Tree) (kind : Int) (rise : Bool) (h : Tree.wholes l = true) (hl : l.length < 1000000000)
    (hc : ∀ t', t'.size < Tree.sizes l → t'.whole = true → ACalls Try.prog 97 [.imm t'.iv] [] (.imm (.lit (.bool (isConP t')))) []) :
    ACalls Try.prog 120 [.imm (.sl false l.length (Tree.ivs l)), .imm (.lit (.int .i64 kind)), .imm (.lit (.bool rise))] [] (.imm (.lit (.bool (labelsB l kind rise)))) [] := by
  refine bY Try.func120 rfl rfl (nb rfl) rfl ?_
  repeat' (first | refine bM ?_ | (refine bP ?_; first | refine aX tabOk rfl rfl rfl (nb rfl) rfl ?_ | refine bF rfl rfl (nb rfl) ?_ | (refine bO rfl rfl rfl (nb rfl) rfl rfl rfl (fun hq => ?_) (fun hq => ?_) <;> (first | (simp only [sD, sE, sB, sC, sN, sM, sT, sF] at hq; try (exfalso; omega)) | skip)) | refine aE rfl rfl rfl (nb rfl) rfl rfl (by omega) ?_ | refine bI rfl rfl rfl (nb rfl) rfl rfl rfl (by omega) (by omega) ?_ | refine bJ rfl rfl rfl (nb rfl) rfl rfl rfl (by omega) (by omega) ?_ | refine bH tabOk rfl rfl rfl (nb rfl) rfl rfl rfl rfl rfl rfl rfl rfl rfl ?_ | refine aZ tabOk rfl rfl (nb rfl) rfl ?_ | refine aU tabOk rfl rfl rfl (nb rfl) rfl rfl rfl rfl rfl rfl ?_ | refine aV tabOk rfl rfl rfl (nb rfl) rfl rfl rfl rfl ?_ | refine aN tabOk rfl rfl rfl rfl rfl rfl rfl rfl rfl rfl rfl ?_ | refine aR tabOk rfl rfl rfl (nb rfl) rfl rfl rfl rfl (by first | assumption | omega) ?_ | refine aJ tabOk rfl rfl rfl (nb rfl) rfl rfl rfl rfl (by first | rfl | omega) (by first | omega | simp) ?_ | refine aC tabOk rfl rfl rfl (nb rfl) rfl rfl rfl (by assumption) ?_ | refine aC tabOk rfl rfl rfl (nb rfl) rfl rfl rfl (bS _ _ (by first | assumption | omega)) ?_ | refine aE rfl rfl rfl (nb rfl) rfl rfl (by omega) ?_ | ((fail_if_success (refine aG (b := true) rfl rfl rfl ?_)); (fail_if_success (refine aG (b := false) rfl rfl rfl ?_)); refine aW rfl rfl rfl (fun hq => ?_) (fun hq => ?_) <;> first | subst hq | (first | (simp only [sD, sE, sB, sC, sN, sM, sT, sF] at hq; try (exfalso; omega)) | skip)) | fail) | (refine bW ?_; first | refine bN ?_ | refine bT ?_ | refine aQ ?_ | refine bD ?_ | refine bU ?_ | refine bL ?_ | refine bK ?_ | refine aA (b := true) rfl (fun _ => ?_) nTf | refine aA (b := false) rfl nFt (fun _ => ?_) | refine bE ?_ | refine bC ?_ | refine bA mixed (by kernel_rfl) ?_ | refine aD mixed (by kernel_rfl) ?_ | (refine aA rfl (fun hq => ?_) (fun hq => ?_) <;> first | subst hq | (first | (simp only [sD, sE, sB, sC, sN, sM, sT, sF] at hq; try (exfalso; omega)) | skip)) | fail) | (refine bQ ?_; first | refine bZ ?_ | refine aK ?_ | refine aT ?_ | fail) | (refine bG ?_; first | refine bV ?_ | refine aH ?_ | refine aI (by decide) ?_ | refine aM ?_ | fail) | refine bR (bB (by kernel_rfl)) ?_ | fail)
  refine cH (ι := {i : Nat // i ≤ l.length ∧ (∀ q (hq : q < l.length), q < i → okNamed kind l[q] = true) ∧ ∀ j q (hjq : j < q) (hq : q < l.length), q < i → okPair rise (l[j]'(by omega)).name l[q].name = true}) (fun i => S.f ⟨[(7, .imm (.lit (.int .i64 (i.1 : Int)))), (0, .imm (.sl false l.length (Tree.ivs l))), (1, .imm (.lit (.int .i64 kind))), (2, .imm (.lit (.bool rise)))], []⟩) (fun i => l.length - i.1) ⟨0, Nat.zero_le _, fun q h h2 => by omega, fun j q h h2 h3 => by omega⟩ (cF (by repeat' first | exact trivial | refine ⟨rfl, ?_⟩) (by repeat' first | exact trivial | refine ⟨rfl, ?_⟩)) ?_
  rintro ⟨i, hi, hn, hp⟩
  dsimp only
  by_cases hil : i < l.length
  · obtain ⟨k1, n1, a1, b1, ks, e1, hiv, hwk⟩ := gI h hil
    have hbad := @rW l kind rise i hil
    have hsz := cT (List.getElem_mem hil)
    rw [e1] at hbad hsz
    have hpl := mZ k1 n1 a1 b1 ks true
    cases hok : okNamed kind (.node k1 n1 a1 b1 ks) with
    | false =>
      rw [hbad hok]
      rw [okNamed] at hok
      rcases ks with _ | ⟨c, _ | ⟨d, r⟩⟩
      · generalize bareP n1 a1 b1 true false = bp at *
        cases bp <;>
        (repeat' (first | refine bM ?_ | (refine bP ?_; first | refine aX tabOk rfl rfl rfl (nb rfl) rfl ?_ | refine bF rfl rfl (nb rfl) ?_ | (refine bO rfl rfl rfl (nb rfl) rfl rfl rfl (fun hq => ?_) (fun hq => ?_) <;> (first | (simp only [sD, sE, sB, sC, sN, sM, sT, sF] at hq; try (exfalso; omega)) | skip))| refine aC tabOk rfl rfl rfl (nb rfl) rfl rfl rfl hiv ?_ | refine bX rfl rfl (nb rfl) rfl rfl rfl rfl (hpl) ?_ | refine aE rfl rfl rfl (nb rfl) rfl rfl (by omega) ?_ | refine bI rfl rfl rfl (nb rfl) rfl rfl rfl (by omega) (by omega) ?_ | refine bJ rfl rfl rfl (nb rfl) rfl rfl rfl (by omega) (by omega) ?_ | refine bH tabOk rfl rfl rfl (nb rfl) rfl rfl rfl rfl rfl rfl rfl rfl rfl ?_ | refine aZ tabOk rfl rfl (nb rfl) rfl ?_ | refine aU tabOk rfl rfl rfl (nb rfl) rfl rfl rfl rfl rfl rfl ?_ | refine aV tabOk rfl rfl rfl (nb rfl) rfl rfl rfl rfl ?_ | refine aN tabOk rfl rfl rfl rfl rfl rfl rfl rfl rfl rfl rfl ?_ | refine aR tabOk rfl rfl rfl (nb rfl) rfl rfl rfl rfl (by first | assumption | omega) ?_ | refine aJ tabOk rfl rfl rfl (nb rfl) rfl rfl rfl rfl (by first | rfl | omega) (by first | omega | simp) ?_ | refine aC tabOk rfl rfl rfl (nb rfl) rfl rfl rfl (by assumption) ?_ | refine aC tabOk rfl rfl rfl (nb rfl) rfl rfl rfl (bS _ _ (by first | assumption | omega)) ?_ | refine aE rfl rfl rfl (nb rfl) rfl rfl (by omega) ?_ | ((fail_if_success (refine aG (b := true) rfl rfl rfl ?_)); (fail_if_success (refine aG (b := false) rfl rfl rfl ?_)); refine aW rfl rfl rfl (fun hq => ?_) (fun hq => ?_) <;> first | subst hq | (first | (simp only [sD, sE, sB, sC, sN, sM, sT, sF] at hq; try (exfalso; omega)) | skip)) | fail) | (refine bW ?_; first | refine bN ?_ | refine bT ?_ | refine aQ ?_ | refine bD ?_ | refine bU ?_ | refine bL ?_ | refine bK ?_ | refine aA (b := true) rfl (fun _ => ?_) nTf | refine aA (b := false) rfl nFt (fun _ => ?_) | refine bE ?_ | refine bC ?_ | refine bA mixed (by kernel_rfl) ?_ | refine aD mixed (by kernel_rfl) ?_ | (refine aA rfl (fun hq => ?_) (fun hq => ?_) <;> first | subst hq | (first | (simp only [sD, sE, sB, sC, sN, sM, sT, sF] at hq; try (exfalso; omega)) | skip)) | fail) | (refine bQ ?_; first | refine bZ ?_ | refine aK ?_ | refine aT ?_ | fail) | (refine bG ?_; first | refine bV ?_ | refine aH ?_ | refine aI (by decide) ?_ | refine aM ?_ | fail) | refine bR (bB (by kernel_rfl)) ?_ | fail)
         all_goals first
           | exact dJ (by first | exact .inl rfl | exact .inr rfl) (cB rfl (aY rfl)) rfl
           | (exfalso; omega)
           | (exfalso; simp_all [isCon1, labelP]; done))
      · have hcc := hc c (by simp [Tree.size, Tree.sizes] at hsz ⊢; omega) (cD hwk (by simp))
        rw [isCon1] at hok
        generalize bareP n1 a1 b1 true false = bp at *
        generalize isConP c = cp at *
        cases bp <;> cases cp <;>
        (repeat' (first | refine bM ?_ | (refine bP ?_; first | refine aX tabOk rfl rfl rfl (nb rfl) rfl ?_ | refine bF rfl rfl (nb rfl) ?_ | (refine bO rfl rfl rfl (nb rfl) rfl rfl rfl (fun hq => ?_) (fun hq => ?_) <;> (first | (simp only [sD, sE, sB, sC, sN, sM, sT, sF] at hq; try (exfalso; omega)) | skip))| refine aC tabOk rfl rfl rfl (nb rfl) rfl rfl rfl hiv ?_ | refine bX rfl rfl (nb rfl) rfl rfl rfl rfl (hpl) ?_ | refine bX rfl rfl (nb rfl) rfl rfl rfl rfl (hcc) ?_ | refine aE rfl rfl rfl (nb rfl) rfl rfl (by omega) ?_ | refine bI rfl rfl rfl (nb rfl) rfl rfl rfl (by omega) (by omega) ?_ | refine bJ rfl rfl rfl (nb rfl) rfl rfl rfl (by omega) (by omega) ?_ | refine bH tabOk rfl rfl rfl (nb rfl) rfl rfl rfl rfl rfl rfl rfl rfl rfl ?_ | refine aZ tabOk rfl rfl (nb rfl) rfl ?_ | refine aU tabOk rfl rfl rfl (nb rfl) rfl rfl rfl rfl rfl rfl ?_ | refine aV tabOk rfl rfl rfl (nb rfl) rfl rfl rfl rfl ?_ | refine aN tabOk rfl rfl rfl rfl rfl rfl rfl rfl rfl rfl rfl ?_ | refine aR tabOk rfl rfl rfl (nb rfl) rfl rfl rfl rfl (by first | assumption | omega) ?_ | refine aJ tabOk rfl rfl rfl (nb rfl) rfl rfl rfl rfl (by first | rfl | omega) (by first | omega | simp) ?_ | refine aC tabOk rfl rfl rfl (nb rfl) rfl rfl rfl (by assumption) ?_ | refine aC tabOk rfl rfl rfl (nb rfl) rfl rfl rfl (bS _ _ (by first | assumption | omega)) ?_ | refine aE rfl rfl rfl (nb rfl) rfl rfl (by omega) ?_ | ((fail_if_success (refine aG (b := true) rfl rfl rfl ?_)); (fail_if_success (refine aG (b := false) rfl rfl rfl ?_)); refine aW rfl rfl rfl (fun hq => ?_) (fun hq => ?_) <;> first | subst hq | (first | (simp only [sD, sE, sB, sC, sN, sM, sT, sF] at hq; try (exfalso; omega)) | skip)) | fail) | (refine bW ?_; first | refine bN ?_ | refine bT ?_ | refine aQ ?_ | refine bD ?_ | refine bU ?_ | refine bL ?_ | refine bK ?_ | refine aA (b := true) rfl (fun _ => ?_) nTf | refine aA (b := false) rfl nFt (fun _ => ?_) | refine bE ?_ | refine bC ?_ | refine bA mixed (by kernel_rfl) ?_ | refine aD mixed (by kernel_rfl) ?_ | (refine aA rfl (fun hq => ?_) (fun hq => ?_) <;> first | subst hq | (first | (simp only [sD, sE, sB, sC, sN, sM, sT, sF] at hq; try (exfalso; omega)) | skip)) | fail) | (refine bQ ?_; first | refine bZ ?_ | refine aK ?_ | refine aT ?_ | fail) | (refine bG ?_; first | refine bV ?_ | refine aH ?_ | refine aI (by decide) ?_ | refine aM ?_ | fail) | refine bR (bB (by kernel_rfl)) ?_ | fail)
         all_goals first
           | exact dJ (by first | exact .inl rfl | exact .inr rfl) (cB rfl (aY rfl)) rfl
           | (exfalso; omega)
           | (exfalso; simp_all [labelP]; done)
           | (exfalso; simp_all [labelP]; omega))
      · generalize bareP n1 a1 b1 true false = bp at *
        cases bp <;>
        (repeat' (first | refine bM ?_ | (refine bP ?_; first | refine aX tabOk rfl rfl rfl (nb rfl) rfl ?_ | refine bF rfl rfl (nb rfl) ?_ | (refine bO rfl rfl rfl (nb rfl) rfl rfl rfl (fun hq => ?_) (fun hq => ?_) <;> (first | (simp only [sD, sE, sB, sC, sN, sM, sT, sF] at hq; try (exfalso; omega)) | skip))| refine aC tabOk rfl rfl rfl (nb rfl) rfl rfl rfl hiv ?_ | refine bX rfl rfl (nb rfl) rfl rfl rfl rfl (hpl) ?_ | refine aE rfl rfl rfl (nb rfl) rfl rfl (by omega) ?_ | refine bI rfl rfl rfl (nb rfl) rfl rfl rfl (by omega) (by omega) ?_ | refine bJ rfl rfl rfl (nb rfl) rfl rfl rfl (by omega) (by omega) ?_ | refine bH tabOk rfl rfl rfl (nb rfl) rfl rfl rfl rfl rfl rfl rfl rfl rfl ?_ | refine aZ tabOk rfl rfl (nb rfl) rfl ?_ | refine aU tabOk rfl rfl rfl (nb rfl) rfl rfl rfl rfl rfl rfl ?_ | refine aV tabOk rfl rfl rfl (nb rfl) rfl rfl rfl rfl ?_ | refine aN tabOk rfl rfl rfl rfl rfl rfl rfl rfl rfl rfl rfl ?_ | refine aR tabOk rfl rfl rfl (nb rfl) rfl rfl rfl rfl (by first | assumption | omega) ?_ | refine aJ tabOk rfl rfl rfl (nb rfl) rfl rfl rfl rfl (by first | rfl | omega) (by first | omega | simp) ?_ | refine aC tabOk rfl rfl rfl (nb rfl) rfl rfl rfl (by assumption) ?_ | refine aC tabOk rfl rfl rfl (nb rfl) rfl rfl rfl (bS _ _ (by first | assumption | omega)) ?_ | refine aE rfl rfl rfl (nb rfl) rfl rfl (by omega) ?_ | ((fail_if_success (refine aG (b := true) rfl rfl rfl ?_)); (fail_if_success (refine aG (b := false) rfl rfl rfl ?_)); refine aW rfl rfl rfl (fun hq => ?_) (fun hq => ?_) <;> first | subst hq | (first | (simp only [sD, sE, sB, sC, sN, sM, sT, sF] at hq; try (exfalso; omega)) | skip)) | fail) | (refine bW ?_; first | refine bN ?_ | refine bT ?_ | refine aQ ?_ | refine bD ?_ | refine bU ?_ | refine bL ?_ | refine bK ?_ | refine aA (b := true) rfl (fun _ => ?_) nTf | refine aA (b := false) rfl nFt (fun _ => ?_) | refine bE ?_ | refine bC ?_ | refine bA mixed (by kernel_rfl) ?_ | refine aD mixed (by kernel_rfl) ?_ | (refine aA rfl (fun hq => ?_) (fun hq => ?_) <;> first | subst hq | (first | (simp only [sD, sE, sB, sC, sN, sM, sT, sF] at hq; try (exfalso; omega)) | skip)) | fail) | (refine bQ ?_; first | refine bZ ?_ | refine aK ?_ | refine aT ?_ | fail) | (refine bG ?_; first | refine bV ?_ | refine aH ?_ | refine aI (by decide) ?_ | refine aM ?_ | fail) | refine bR (bB (by kernel_rfl)) ?_ | fail)
         all_goals first
           | exact dJ (by first | exact .inl rfl | exact .inr rfl) (cB rfl (aY rfl)) rfl
           | (exfalso; omega)
           | (exfalso; simp_all [isCon1, labelP]; done)
           | (exfalso; simp only [List.length_cons] at *; omega))
    | true =>
      have hok0 := hok
      rw [okNamed] at hok
      simp only [Bool.and_eq_true] at hok
      obtain ⟨⟨⟨q1, q2⟩, q3⟩, q4⟩ := hok
      have q1 := beq_iff_eq.1 q1
      subst q1
      rw [q2] at hpl
      unfold labelP at q3
      simp only [Bool.and_eq_true, decide_eq_true_eq] at q3
      obtain ⟨q5, q6⟩ := q3
      have hcc : ∃ c, ks = [c] ∧ isConP c = true := by
        match ks, q4 with
        | [c], q4 => exact ⟨c, rfl, by simpa [isCon1] using q4⟩
      obtain ⟨c, rfl, hcp⟩ := hcc
      have hcc := hc c (by simp [Tree.size, Tree.sizes] at hsz ⊢; omega) (cD hwk (by simp))
      rw [hcp] at hcc
      have hn2 : ∀ q (hq : q < l.length), q < i + 1 → okNamed k1 l[q] = true := fun q hq h2 => by
        rcases Nat.lt_or_ge q i with h3 | h3
        · exact hn q hq h3
        · have e : q = i := by omega
          subst e
          rw [e1]; exact hok0
      repeat' (first | refine bM ?_ | (refine bP ?_; first | refine aX tabOk rfl rfl rfl (nb rfl) rfl ?_ | refine bF rfl rfl (nb rfl) ?_ | (refine bO rfl rfl rfl (nb rfl) rfl rfl rfl (fun hq => ?_) (fun hq => ?_) <;> (first | (simp only [sD, sE, sB, sC, sN, sM, sT, sF] at hq; try (exfalso; omega)) | skip))| refine aC tabOk rfl rfl rfl (nb rfl) rfl rfl rfl hiv ?_ | refine bX rfl rfl (nb rfl) rfl rfl rfl rfl (hpl) ?_ | refine bX rfl rfl (nb rfl) rfl rfl rfl rfl (hcc) ?_ | refine aE rfl rfl rfl (nb rfl) rfl rfl (by omega) ?_ | refine bI rfl rfl rfl (nb rfl) rfl rfl rfl (by omega) (by omega) ?_ | refine bJ rfl rfl rfl (nb rfl) rfl rfl rfl (by omega) (by omega) ?_ | refine bH tabOk rfl rfl rfl (nb rfl) rfl rfl rfl rfl rfl rfl rfl rfl rfl ?_ | refine aZ tabOk rfl rfl (nb rfl) rfl ?_ | refine aU tabOk rfl rfl rfl (nb rfl) rfl rfl rfl rfl rfl rfl ?_ | refine aV tabOk rfl rfl rfl (nb rfl) rfl rfl rfl rfl ?_ | refine aN tabOk rfl rfl rfl rfl rfl rfl rfl rfl rfl rfl rfl ?_ | refine aR tabOk rfl rfl rfl (nb rfl) rfl rfl rfl rfl (by first | assumption | omega) ?_ | refine aJ tabOk rfl rfl rfl (nb rfl) rfl rfl rfl rfl (by first | rfl | omega) (by first | omega | simp) ?_ | refine aC tabOk rfl rfl rfl (nb rfl) rfl rfl rfl (by assumption) ?_ | refine aC tabOk rfl rfl rfl (nb rfl) rfl rfl rfl (bS _ _ (by first | assumption | omega)) ?_ | refine aE rfl rfl rfl (nb rfl) rfl rfl (by omega) ?_ | ((fail_if_success (refine aG (b := true) rfl rfl rfl ?_)); (fail_if_success (refine aG (b := false) rfl rfl rfl ?_)); refine aW rfl rfl rfl (fun hq => ?_) (fun hq => ?_) <;> first | subst hq | (first | (simp only [sD, sE, sB, sC, sN, sM, sT, sF] at hq; try (exfalso; omega)) | skip)) | fail) | (refine bW ?_; first | refine bN ?_ | refine bT ?_ | refine aQ ?_ | refine bD ?_ | refine bU ?_ | refine bL ?_ | refine bK ?_ | refine aA (b := true) rfl (fun _ => ?_) nTf | refine aA (b := false) rfl nFt (fun _ => ?_) | refine bE ?_ | refine bC ?_ | refine bA mixed (by kernel_rfl) ?_ | refine aD mixed (by kernel_rfl) ?_ | (refine aA rfl (fun hq => ?_) (fun hq => ?_) <;> first | subst hq | (first | (simp only [sD, sE, sB, sC, sN, sM, sT, sF] at hq; try (exfalso; omega)) | skip)) | fail) | (refine bQ ?_; first | refine bZ ?_ | refine aK ?_ | refine aT ?_ | fail) | (refine bG ?_; first | refine bV ?_ | refine aH ?_ | refine aI (by decide) ?_ | refine aM ?_ | fail) | refine bR (bB (by kernel_rfl)) ?_ | fail)
      all_goals first | exact absurd rfl (by assumption) | (exfalso; omega) | skip
      refine cH (ι := {j : Nat // j ≤ i ∧ ∀ q (hq : q < j) (hqi : q < l.length), okPair rise l[q].name a1 = true}) (fun j => S.f ⟨[(9, .imm (.lit (.int .i64 (j.1 : Int)))), (8, .imm (Tree.iv (.node k1 n1 a1 b1 [c]))), (7, .imm (.lit (.int .i64 (i : Int)))), (0, .imm (.sl false l.length (Tree.ivs l))), (1, .imm (.lit (.int .i64 k1))), (2, .imm (.lit (.bool rise)))], []⟩) (fun j => i - j.1) ⟨0, Nat.zero_le _, fun q h h2 => by omega⟩ (cF (by repeat' first | exact trivial | refine ⟨rfl, ?_⟩) (by repeat' first | exact trivial | refine ⟨rfl, ?_⟩)) ?_
      rintro ⟨j, hj, hpj⟩
      dsimp only
      by_cases hji : j < i
      · obtain ⟨k2, n2, a2, b2, ks2, e2, hiv2, _⟩ := gI h (show j < l.length by omega)
        have hbp := @tZ l k1 rise i j hji hil
        have en : l[i].name = a1 := by rw [e1]; rfl
        have en2 : (l[j]'(by omega)).name = a2 := by rw [e2]; rfl
        rw [en, en2] at hbp
        cases hop : okPair rise a2 a1 with
        | false =>
          rw [hbp hop]
          cases rise <;>
          (repeat' (first | refine bM ?_ | (refine bP ?_; first | refine aX tabOk rfl rfl rfl (nb rfl) rfl ?_ | refine bF rfl rfl (nb rfl) ?_ | (refine bO rfl rfl rfl (nb rfl) rfl rfl rfl (fun hq => ?_) (fun hq => ?_) <;> (first | (simp only [sD, sE, sB, sC, sN, sM, sT, sF] at hq; try (exfalso; omega)) | skip))| refine aC tabOk rfl rfl rfl (nb rfl) rfl rfl rfl hiv2 ?_ | refine aE rfl rfl rfl (nb rfl) rfl rfl (by omega) ?_ | refine bI rfl rfl rfl (nb rfl) rfl rfl rfl (by omega) (by omega) ?_ | refine bJ rfl rfl rfl (nb rfl) rfl rfl rfl (by omega) (by omega) ?_ | refine bH tabOk rfl rfl rfl (nb rfl) rfl rfl rfl rfl rfl rfl rfl rfl rfl ?_ | refine aZ tabOk rfl rfl (nb rfl) rfl ?_ | refine aU tabOk rfl rfl rfl (nb rfl) rfl rfl rfl rfl rfl rfl ?_ | refine aV tabOk rfl rfl rfl (nb rfl) rfl rfl rfl rfl ?_ | refine aN tabOk rfl rfl rfl rfl rfl rfl rfl rfl rfl rfl rfl ?_ | refine aR tabOk rfl rfl rfl (nb rfl) rfl rfl rfl rfl (by first | assumption | omega) ?_ | refine aJ tabOk rfl rfl rfl (nb rfl) rfl rfl rfl rfl (by first | rfl | omega) (by first | omega | simp) ?_ | refine aC tabOk rfl rfl rfl (nb rfl) rfl rfl rfl (by assumption) ?_ | refine aC tabOk rfl rfl rfl (nb rfl) rfl rfl rfl (bS _ _ (by first | assumption | omega)) ?_ | refine aE rfl rfl rfl (nb rfl) rfl rfl (by omega) ?_ | ((fail_if_success (refine aG (b := true) rfl rfl rfl ?_)); (fail_if_success (refine aG (b := false) rfl rfl rfl ?_)); refine aW rfl rfl rfl (fun hq => ?_) (fun hq => ?_) <;> first | subst hq | (first | (simp only [sD, sE, sB, sC, sN, sM, sT, sF] at hq; try (exfalso; omega)) | skip)) | fail) | (refine bW ?_; first | refine bN ?_ | refine bT ?_ | refine aQ ?_ | refine bD ?_ | refine bU ?_ | refine bL ?_ | refine bK ?_ | refine aA (b := true) rfl (fun _ => ?_) nTf | refine aA (b := false) rfl nFt (fun _ => ?_) | refine bE ?_ | refine bC ?_ | refine bA mixed (by kernel_rfl) ?_ | refine aD mixed (by kernel_rfl) ?_ | (refine aA rfl (fun hq => ?_) (fun hq => ?_) <;> first | subst hq | (first | (simp only [sD, sE, sB, sC, sN, sM, sT, sF] at hq; try (exfalso; omega)) | skip)) | fail) | (refine bQ ?_; first | refine bZ ?_ | refine aK ?_ | refine aT ?_ | fail) | (refine bG ?_; first | refine bV ?_ | refine aH ?_ | refine aI (by decide) ?_ | refine aM ?_ | fail) | refine bR (bB (by kernel_rfl)) ?_ | fail)
           all_goals first
             | exact dJ (by first | exact .inl rfl | exact .inr rfl) (cB rfl (aY rfl)) rfl
             | (exfalso; omega)
             | (exfalso; simp_all [okPair, gtB, ltB, eqB]; done))
        | true =>
          have hpj2 : ∀ q (hq : q < j + 1) (hqi : q < l.length), okPair rise l[q].name a1 = true := fun q hq hqi => by
            rcases Nat.lt_or_ge q j with h3 | h3
            · exact hpj q h3 hqi
            · have e : q = j := by omega
              subst e
              rw [en2]; exact hop
          cases rise <;>
          (repeat' (first | refine bM ?_ | (refine bP ?_; first | refine aX tabOk rfl rfl rfl (nb rfl) rfl ?_ | refine bF rfl rfl (nb rfl) ?_ | (refine bO rfl rfl rfl (nb rfl) rfl rfl rfl (fun hq => ?_) (fun hq => ?_) <;> (first | (simp only [sD, sE, sB, sC, sN, sM, sT, sF] at hq; try (exfalso; omega)) | skip))| refine aC tabOk rfl rfl rfl (nb rfl) rfl rfl rfl hiv2 ?_ | refine aE rfl rfl rfl (nb rfl) rfl rfl (by omega) ?_ | refine bI rfl rfl rfl (nb rfl) rfl rfl rfl (by omega) (by omega) ?_ | refine bJ rfl rfl rfl (nb rfl) rfl rfl rfl (by omega) (by omega) ?_ | refine bH tabOk rfl rfl rfl (nb rfl) rfl rfl rfl rfl rfl rfl rfl rfl rfl ?_ | refine aZ tabOk rfl rfl (nb rfl) rfl ?_ | refine aU tabOk rfl rfl rfl (nb rfl) rfl rfl rfl rfl rfl rfl ?_ | refine aV tabOk rfl rfl rfl (nb rfl) rfl rfl rfl rfl ?_ | refine aN tabOk rfl rfl rfl rfl rfl rfl rfl rfl rfl rfl rfl ?_ | refine aR tabOk rfl rfl rfl (nb rfl) rfl rfl rfl rfl (by first | assumption | omega) ?_ | refine aJ tabOk rfl rfl rfl (nb rfl) rfl rfl rfl rfl (by first | rfl | omega) (by first | omega | simp) ?_ | refine aC tabOk rfl rfl rfl (nb rfl) rfl rfl rfl (by assumption) ?_ | refine aC tabOk rfl rfl rfl (nb rfl) rfl rfl rfl (bS _ _ (by first | assumption | omega)) ?_ | refine aE rfl rfl rfl (nb rfl) rfl rfl (by omega) ?_ | ((fail_if_success (refine aG (b := true) rfl rfl rfl ?_)); (fail_if_success (refine aG (b := false) rfl rfl rfl ?_)); refine aW rfl rfl rfl (fun hq => ?_) (fun hq => ?_) <;> first | subst hq | (first | (simp only [sD, sE, sB, sC, sN, sM, sT, sF] at hq; try (exfalso; omega)) | skip)) | fail) | (refine bW ?_; first | refine bN ?_ | refine bT ?_ | refine aQ ?_ | refine bD ?_ | refine bU ?_ | refine bL ?_ | refine bK ?_ | refine aA (b := true) rfl (fun _ => ?_) nTf | refine aA (b := false) rfl nFt (fun _ => ?_) | refine bE ?_ | refine bC ?_ | refine bA mixed (by kernel_rfl) ?_ | refine aD mixed (by kernel_rfl) ?_ | (refine aA rfl (fun hq => ?_) (fun hq => ?_) <;> first | subst hq | (first | (simp only [sD, sE, sB, sC, sN, sM, sT, sF] at hq; try (exfalso; omega)) | skip)) | fail) | (refine bQ ?_; first | refine bZ ?_ | refine aK ?_ | refine aT ?_ | fail) | (refine bG ?_; first | refine bV ?_ | refine aH ?_ | refine aI (by decide) ?_ | refine aM ?_ | fail) | refine bR (bB (by kernel_rfl)) ?_ | fail)
           all_goals first
             | exact ⟨⟨j + 1, hji, hpj2⟩, (by show i - (j + 1) < i - j; omega), (cF (by repeat' first | exact trivial | refine ⟨rfl, ?_⟩) (by repeat' first | exact trivial | refine ⟨rfl, ?_⟩))⟩
             | (exfalso; omega)
             | (exfalso; simp_all [okPair, gtB, ltB, eqB]; done))
      · have ej : j = i := by omega
        subst ej
        have hp2 : ∀ j2 q (hjq : j2 < q) (hq : q < l.length), q < j + 1 → okPair rise (l[j2]'(by omega)).name l[q].name = true := fun j2 q hjq hq h2 => by
          rcases Nat.lt_or_ge q j with h3 | h3
          · exact hp j2 q hjq hq h3
          · have e : q = j := by omega
            subst e
            rw [e1]
            exact hpj j2 hjq (by omega)
        repeat' (first | refine bM ?_ | (refine bP ?_; first | refine aX tabOk rfl rfl rfl (nb rfl) rfl ?_ | refine bF rfl rfl (nb rfl) ?_ | (refine bO rfl rfl rfl (nb rfl) rfl rfl rfl (fun hq => ?_) (fun hq => ?_) <;> (first | (simp only [sD, sE, sB, sC, sN, sM, sT, sF] at hq; try (exfalso; omega)) | skip)) | refine aE rfl rfl rfl (nb rfl) rfl rfl (by omega) ?_ | refine bI rfl rfl rfl (nb rfl) rfl rfl rfl (by omega) (by omega) ?_ | refine bJ rfl rfl rfl (nb rfl) rfl rfl rfl (by omega) (by omega) ?_ | refine bH tabOk rfl rfl rfl (nb rfl) rfl rfl rfl rfl rfl rfl rfl rfl rfl ?_ | refine aZ tabOk rfl rfl (nb rfl) rfl ?_ | refine aU tabOk rfl rfl rfl (nb rfl) rfl rfl rfl rfl rfl rfl ?_ | refine aV tabOk rfl rfl rfl (nb rfl) rfl rfl rfl rfl ?_ | refine aN tabOk rfl rfl rfl rfl rfl rfl rfl rfl rfl rfl rfl ?_ | refine aR tabOk rfl rfl rfl (nb rfl) rfl rfl rfl rfl (by first | assumption | omega) ?_ | refine aJ tabOk rfl rfl rfl (nb rfl) rfl rfl rfl rfl (by first | rfl | omega) (by first | omega | simp) ?_ | refine aC tabOk rfl rfl rfl (nb rfl) rfl rfl rfl (by assumption) ?_ | refine aC tabOk rfl rfl rfl (nb rfl) rfl rfl rfl (bS _ _ (by first | assumption | omega)) ?_ | refine aE rfl rfl rfl (nb rfl) rfl rfl (by omega) ?_ | ((fail_if_success (refine aG (b := true) rfl rfl rfl ?_)); (fail_if_success (refine aG (b := false) rfl rfl rfl ?_)); refine aW rfl rfl rfl (fun hq => ?_) (fun hq => ?_) <;> first | subst hq | (first | (simp only [sD, sE, sB, sC, sN, sM, sT, sF] at hq; try (exfalso; omega)) | skip)) | fail) | (refine bW ?_; first | refine bN ?_ | refine bT ?_ | refine aQ ?_ | refine bD ?_ | refine bU ?_ | refine bL ?_ | refine bK ?_ | refine aA (b := true) rfl (fun _ => ?_) nTf | refine aA (b := false) rfl nFt (fun _ => ?_) | refine bE ?_ | refine bC ?_ | refine bA mixed (by kernel_rfl) ?_ | refine aD mixed (by kernel_rfl) ?_ | (refine aA rfl (fun hq => ?_) (fun hq => ?_) <;> first | subst hq | (first | (simp only [sD, sE, sB, sC, sN, sM, sT, sF] at hq; try (exfalso; omega)) | skip)) | fail) | (refine bQ ?_; first | refine bZ ?_ | refine aK ?_ | refine aT ?_ | fail) | (refine bG ?_; first | refine bV ?_ | refine aH ?_ | refine aI (by decide) ?_ | refine aM ?_ | fail) | refine bR (bB (by kernel_rfl)) ?_ | fail)
        all_goals first
          | (exfalso; omega)
          | exact ⟨⟨j + 1, hil, hn2, hp2⟩, (by show l.length - (j + 1) < l.length - j; omega), (cF (by repeat' first | exact trivial | refine ⟨rfl, ?_⟩) (by repeat' first | exact trivial | refine ⟨rfl, ?_⟩))⟩
  · have ei : i = l.length := by omega
    subst ei
    have hT : labelsB l kind rise = true := (iE l kind rise).2 ⟨fun q hq => hn q hq hq, fun j q hjq hq => hp j q hjq hq hq⟩
    rw [hT]
    repeat' (first | refine bM ?_ | (refine bP ?_; first | refine aX tabOk rfl rfl rfl (nb rfl) rfl ?_ | refine bF rfl rfl (nb rfl) ?_ | (refine bO rfl rfl rfl (nb rfl) rfl rfl rfl (fun hq => ?_) (fun hq => ?_) <;> (first | (simp only [sD, sE, sB, sC, sN, sM, sT, sF] at hq; try (exfalso; omega)) | skip)) | refine aE rfl rfl rfl (nb rfl) rfl rfl (by omega) ?_ | refine bI rfl rfl rfl (nb rfl) rfl rfl rfl (by omega) (by omega) ?_ | refine bJ rfl rfl rfl (nb rfl) rfl rfl rfl (by omega) (by omega) ?_ | refine bH tabOk rfl rfl rfl (nb rfl) rfl rfl rfl rfl rfl rfl rfl rfl rfl ?_ | refine aZ tabOk rfl rfl (nb rfl) rfl ?_ | refine aU tabOk rfl rfl rfl (nb rfl) rfl rfl rfl rfl rfl rfl ?_ | refine aV tabOk rfl rfl rfl (nb rfl) rfl rfl rfl rfl ?_ | refine aN tabOk rfl rfl rfl rfl rfl rfl rfl rfl rfl rfl rfl ?_ | refine aR tabOk rfl rfl rfl (nb rfl) rfl rfl rfl rfl (by first | assumption | omega) ?_ | refine aJ tabOk rfl rfl rfl (nb rfl) rfl rfl rfl rfl (by first | rfl | omega) (by first | omega | simp) ?_ | refine aC tabOk rfl rfl rfl (nb rfl) rfl rfl rfl (by assumption) ?_ | refine aC tabOk rfl rfl rfl (nb rfl) rfl rfl rfl (bS _ _ (by first | assumption | omega)) ?_ | refine aE rfl rfl rfl (nb rfl) rfl rfl (by omega) ?_ | ((fail_if_success (refine aG (b := true) rfl rfl rfl ?_)); (fail_if_success (refine aG (b := false) rfl rfl rfl ?_)); refine aW rfl rfl rfl (fun hq => ?_) (fun hq => ?_) <;> first | subst hq | (first | (simp only [sD, sE, sB, sC, sN, sM, sT, sF] at hq; try (exfalso; omega)) | skip)) | fail) | (refine bW ?_; first | refine bN ?_ | refine bT ?_ | refine aQ ?_ | refine bD ?_ | refine bU ?_ | refine bL ?_ | refine bK ?_ | refine aA (b := true) rfl (fun _ => ?_) nTf | refine aA (b := false) rfl nFt (fun _ => ?_) | refine bE ?_ | refine bC ?_ | refine bA mixed (by kernel_rfl) ?_ | refine aD mixed (by kernel_rfl) ?_ | (refine aA rfl (fun hq => ?_) (fun hq => ?_) <;> first | subst hq | (first | (simp only [sD, sE, sB, sC, sN, sM, sT, sF] at hq; try (exfalso; omega)) | skip)) | fail) | (refine bQ ?_; first | refine bZ ?_ | refine aK ?_ | refine aT ?_ | fail) | (refine bG ?_; first | refine bV ?_ | refine aH ?_ | refine aI (by decide) ?_ | refine aM ?_ | fail) | refine bR (bB (by kernel_rfl)) ?_ | fail)
    all_goals first
      | exact dJ (by first | exact .inl rfl | exact .inr rfl) (cB rfl (aY rfl)) rfl
      | (exfalso; omega)
end Go.Proofs.Ytlbemgokilhdnaa.Ab
