/- Words, walks and laws under the claim's statement: what it uses of them. No condition of its own. -/
import Derived.Test.YtlbemgokilhdnaaYAb0
import Derived.Test.YtlbemgokilhdnaaYAb1
namespace Go.Proofs.Ytlbemgokilhdnaa.Ab
set_option linter.unusedVariables false
set_option linter.unusedSimpArgs false
inductive Tree where
  | nil
  | node (k n : Int) (name mark : ByteArray) (kids : List Tree)
mutual
def Tree.iv : Tree → IV
  | .nil => .lit (.pointer none)
  | .node k n a b kids => .ptr [.lit (.int .i64 k), .lit (.int .i64 n), .lit (.string a), .lit (.string b), .sl false kids.length (Tree.ivs kids)] 0
def Tree.ivs : List Tree → List IV
  | [] => []
  | t :: ts => Tree.iv t :: Tree.ivs ts
end
theorem dK : ∀ l : List Tree, Tree.ivs l = l.map Tree.iv
  | [] => rfl
  | t :: ts => by simp [Tree.ivs, dK ts]
theorem eH (l : List Tree) : (Tree.ivs l).length = l.length := by simp [dK]
theorem bS (l : List Tree) (j : Nat) (h : j < l.length) : (Tree.ivs l)[j * 1]? = some (l[j].iv) := by simp [dK, h]
theorem Tree.ind {motive : Tree → Prop} (h1 : motive .nil) (h2 : ∀ k n a b kids, (∀ t ∈ kids, motive t) → motive (.node k n a b kids)) (t : Tree) : motive t :=
  Tree.rec (motive_1 := motive) (motive_2 := fun ts => ∀ t ∈ ts, motive t) h1 (fun k n a b kids ih => h2 k n a b kids ih) (fun t h => by cases h) (fun t ts h1 h2 t' h => by
    rcases List.mem_cons.1 h with rfl | h
    · exact h1
    · exact h2 t' h) t
mutual
def Tree.whole : Tree → Bool
  | .nil => false
  | .node _ _ _ _ kids => Tree.wholes kids
def Tree.wholes : List Tree → Bool
  | [] => true
  | t :: ts => t.whole && Tree.wholes ts
end
mutual
def Tree.size : Tree → Nat
  | .nil => 0
  | .node _ _ _ _ kids => 1 + Tree.sizes kids
def Tree.sizes : List Tree → Nat
  | [] => 0
  | t :: ts => t.size + Tree.sizes ts
end
mutual
/-- Nodes and bytes. -/
def Tree.wt : Tree → Nat
  | .nil => 1
  | .node _ _ a b kids => 1 + a.size + b.size + Tree.wts kids
def Tree.wts : List Tree → Nat
  | [] => 0
  | t :: ts => t.wt + Tree.wts ts
end
theorem cD {t : Tree} : ∀ {l : List Tree}, Tree.wholes l = true → t ∈ l → t.whole = true
  | x :: xs, h, hm => by
    simp only [Tree.wholes, Bool.and_eq_true] at h
    rcases List.mem_cons.1 hm with rfl | hm
    · exact h.1
    · exact cD h.2 hm
theorem uV {t : Tree} : ∀ {l : List Tree}, t ∈ l → t.wt ≤ Tree.wts l
  | x :: xs, hm => by
    simp only [Tree.wts]
    rcases List.mem_cons.1 hm with rfl | hm
    · omega
    · have := uV hm; omega
theorem cT {t : Tree} : ∀ {l : List Tree}, t ∈ l → t.size ≤ Tree.sizes l
  | x :: xs, hm => by
    simp only [Tree.sizes]
    rcases List.mem_cons.1 hm with rfl | hm
    · omega
    · have := cT hm; omega
theorem cG {k n : Int} {a b : ByteArray} {kids : List Tree} {t : Tree} (h : t ∈ kids) : t.size < (Tree.node k n a b kids).size := by
  have := cT h
  simp only [Tree.size]; omega
theorem xP {t : Tree} (h : t.whole = true) : 1 ≤ t.size := by cases t <;> simp [Tree.whole, Tree.size] at *
theorem cI : ∀ (l : List Tree), Tree.wholes l = true → l.length ≤ Tree.sizes l
  | [], _ => Nat.le_refl _
  | t :: ts, h => by
    simp only [Tree.wholes, Bool.and_eq_true] at h
    have := cI ts h.2
    have := xP h.1
    simp only [Tree.sizes, List.length_cons]; omega
theorem Tree.sind {motive : Tree → Prop} (h : ∀ t, (∀ t', t'.size < t.size → motive t') → motive t) (t : Tree) : motive t := by
  have key : ∀ n (t : Tree), t.size = n → motive t := fun n => by
    induction n using Nat.strongRecOn with
    | _ n ih => exact fun t e => h t fun t' ht => ih t'.size (by omega) t' rfl
  exact key t.size t rfl
theorem cZ {t : Tree} (h : t.whole = true) : ∃ k n a b kids, t = .node k n a b kids := by cases t with | nil => simp [Tree.whole] at h | node k n a b kids => exact ⟨k, n, a, b, kids, rfl⟩
end Go.Proofs.Ytlbemgokilhdnaa.Ab
namespace Go.Proofs.Ytlbemgokilhdnaa.Ab
set_option linter.unusedVariables false
set_option linter.unusedSimpArgs false
attribute [local irreducible] AWP AOps AExit AThen ABlock ANoGoto FeetOk
def eqB (a b : ByteArray) : Bool := a.toList == b.toList
def emptyB : ByteArray := ⟨#[]⟩
def labelP (s : ByteArray) : Bool := decide ((1 : Int) ≤ s.size) && decide ((s.size : Int) ≤ 160)
set_option maxRecDepth 10000 in
theorem vV (s : ByteArray) : ACalls Try.prog 115 [.imm (.lit (.string s))] [] (.imm (.lit (.bool (labelP s)))) [] := by
  refine bY Try.func115 rfl rfl (nb rfl) rfl ?_
  repeat' (first | refine bM ?_ | (refine bP ?_; first | refine aX tabOk rfl rfl rfl (nb rfl) rfl ?_ | refine bF rfl rfl (nb rfl) ?_ | (refine bO rfl rfl rfl (nb rfl) rfl rfl rfl (fun hq => ?_) (fun hq => ?_) <;> (first | (simp only [sD, sE, sB, sC, sN, sM, sT, sF] at hq; try (exfalso; omega)) | skip)) | refine aE rfl rfl rfl (nb rfl) rfl rfl (by omega) ?_ | refine bI rfl rfl rfl (nb rfl) rfl rfl rfl (by omega) (by omega) ?_ | refine bJ rfl rfl rfl (nb rfl) rfl rfl rfl (by omega) (by omega) ?_ | refine bH tabOk rfl rfl rfl (nb rfl) rfl rfl rfl rfl rfl rfl rfl rfl rfl ?_ | refine aZ tabOk rfl rfl (nb rfl) rfl ?_ | refine aU tabOk rfl rfl rfl (nb rfl) rfl rfl rfl rfl rfl rfl ?_ | refine aV tabOk rfl rfl rfl (nb rfl) rfl rfl rfl rfl ?_ | refine aN tabOk rfl rfl rfl rfl rfl rfl rfl rfl rfl rfl rfl ?_ | refine aR tabOk rfl rfl rfl (nb rfl) rfl rfl rfl rfl (by first | assumption | omega) ?_ | refine aJ tabOk rfl rfl rfl (nb rfl) rfl rfl rfl rfl (by first | rfl | omega) (by first | omega | simp) ?_ | refine aC tabOk rfl rfl rfl (nb rfl) rfl rfl rfl (by assumption) ?_ | refine aC tabOk rfl rfl rfl (nb rfl) rfl rfl rfl (bS _ _ (by first | assumption | omega)) ?_ | refine aE rfl rfl rfl (nb rfl) rfl rfl (by omega) ?_ | ((fail_if_success (refine aG (b := true) rfl rfl rfl ?_)); (fail_if_success (refine aG (b := false) rfl rfl rfl ?_)); refine aW rfl rfl rfl (fun hq => ?_) (fun hq => ?_) <;> first | subst hq | (first | (simp only [sD, sE, sB, sC, sN, sM, sT, sF] at hq; try (exfalso; omega)) | skip)) | fail) | (refine bW ?_; first | refine bN ?_ | refine bT ?_ | refine aQ ?_ | refine bD ?_ | refine bU ?_ | refine bL ?_ | refine bK ?_ | refine aA (b := true) rfl (fun _ => ?_) nTf | refine aA (b := false) rfl nFt (fun _ => ?_) | refine bE ?_ | refine bC ?_ | refine bA mixed (by kernel_rfl) ?_ | refine aD mixed (by kernel_rfl) ?_ | (refine aA rfl (fun hq => ?_) (fun hq => ?_) <;> first | subst hq | (first | (simp only [sD, sE, sB, sC, sN, sM, sT, sF] at hq; try (exfalso; omega)) | skip)) | fail) | (refine bQ ?_; first | refine bZ ?_ | refine aK ?_ | refine aT ?_ | fail) | (refine bG ?_; first | refine bV ?_ | refine aH ?_ | refine aI (by decide) ?_ | refine aM ?_ | fail) | refine bR (bB (by kernel_rfl)) ?_ | fail)
  all_goals (refine cA (by first | exact .inl rfl | exact .inr rfl) (cB rfl (aY rfl)) rfl ?_; refine cK ?_; simp_all [labelP] <;> omega)
def bareP (n : Int) (a b : ByteArray) (nm nu : Bool) : Bool := (eqB b emptyB && (nm || eqB a emptyB)) && (nu || (n == 0))
set_option maxRecDepth 10000 in
theorem mJ (k n : Int) (a b : ByteArray) (kids : List Tree) (nm nu : Bool) : ACalls Try.prog 77 [.imm (Tree.iv (.node k n a b kids)), .imm (.lit (.bool nm)), .imm (.lit (.bool nu))] [] (.imm (.lit (.bool (bareP n a b nm nu)))) [] := by
  refine bY Try.func77 rfl rfl (nb rfl) rfl ?_
  repeat' (first | refine bM ?_ | (refine bP ?_; first | refine aX tabOk rfl rfl rfl (nb rfl) rfl ?_ | refine bF rfl rfl (nb rfl) ?_ | (refine bO rfl rfl rfl (nb rfl) rfl rfl rfl (fun hq => ?_) (fun hq => ?_) <;> (first | (simp only [sD, sE, sB, sC, sN, sM, sT, sF] at hq; try (exfalso; omega)) | skip)) | refine aE rfl rfl rfl (nb rfl) rfl rfl (by omega) ?_ | refine bI rfl rfl rfl (nb rfl) rfl rfl rfl (by omega) (by omega) ?_ | refine bJ rfl rfl rfl (nb rfl) rfl rfl rfl (by omega) (by omega) ?_ | refine bH tabOk rfl rfl rfl (nb rfl) rfl rfl rfl rfl rfl rfl rfl rfl rfl ?_ | refine aZ tabOk rfl rfl (nb rfl) rfl ?_ | refine aU tabOk rfl rfl rfl (nb rfl) rfl rfl rfl rfl rfl rfl ?_ | refine aV tabOk rfl rfl rfl (nb rfl) rfl rfl rfl rfl ?_ | refine aN tabOk rfl rfl rfl rfl rfl rfl rfl rfl rfl rfl rfl ?_ | refine aR tabOk rfl rfl rfl (nb rfl) rfl rfl rfl rfl (by first | assumption | omega) ?_ | refine aJ tabOk rfl rfl rfl (nb rfl) rfl rfl rfl rfl (by first | rfl | omega) (by first | omega | simp) ?_ | refine aC tabOk rfl rfl rfl (nb rfl) rfl rfl rfl (by assumption) ?_ | refine aC tabOk rfl rfl rfl (nb rfl) rfl rfl rfl (bS _ _ (by first | assumption | omega)) ?_ | refine aE rfl rfl rfl (nb rfl) rfl rfl (by omega) ?_ | ((fail_if_success (refine aG (b := true) rfl rfl rfl ?_)); (fail_if_success (refine aG (b := false) rfl rfl rfl ?_)); refine aW rfl rfl rfl (fun hq => ?_) (fun hq => ?_) <;> first | subst hq | (first | (simp only [sD, sE, sB, sC, sN, sM, sT, sF] at hq; try (exfalso; omega)) | skip)) | fail) | (refine bW ?_; first | refine bN ?_ | refine bT ?_ | refine aQ ?_ | refine bD ?_ | refine bU ?_ | refine bL ?_ | refine bK ?_ | refine aA (b := true) rfl (fun _ => ?_) nTf | refine aA (b := false) rfl nFt (fun _ => ?_) | refine bE ?_ | refine bC ?_ | refine bA mixed (by kernel_rfl) ?_ | refine aD mixed (by kernel_rfl) ?_ | (refine aA rfl (fun hq => ?_) (fun hq => ?_) <;> first | subst hq | (first | (simp only [sD, sE, sB, sC, sN, sM, sT, sF] at hq; try (exfalso; omega)) | skip)) | fail) | (refine bQ ?_; first | refine bZ ?_ | refine aK ?_ | refine aT ?_ | fail) | (refine bG ?_; first | refine bV ?_ | refine aH ?_ | refine aI (by decide) ?_ | refine aM ?_ | fail) | refine bR (bB (by kernel_rfl)) ?_ | fail)
  all_goals (refine cA (by first | exact .inl rfl | exact .inr rfl) (cB rfl (aY rfl)) rfl ?_; refine cK ?_; simp_all [bareP, eqB, emptyB])
mutual
def isKindP : Tree → Bool
  | .nil => false
  | .node k n a b kids => if k = 100 then bareP n a b false false && ((kids.length : Int) == 0) else if k = 101 then bareP n a b false false && ((kids.length : Int) == 2) && (isKindPs kids).all id else false
def isKindPs : List Tree → List Bool
  | [] => []
  | t :: ts => isKindP t :: isKindPs ts
end
theorem eX : ∀ l : List Tree, isKindPs l = l.map isKindP
  | [] => rfl
  | t :: ts => by simp [isKindPs, eX ts]
theorem two {α : Type} {l : List α} (h : l.length = 2) : ∃ x y, l = [x, y] := by
  match l, h with
  | [x, y], _ => exact ⟨x, y, rfl⟩
set_option maxRecDepth 10000 in
theorem mK (t : Tree) (h : t.whole = true) : ACalls Try.prog 80 [.imm t.iv] [] (.imm (.lit (.bool (isKindP t)))) [] := by
  induction t using Tree.ind with
  | h1 => simp [Tree.whole] at h
  | h2 k n a b kids ih =>
    refine bY Try.func80 rfl rfl (nb rfl) rfl ?_
    repeat' (first | refine bM ?_ | (refine bP ?_; first | refine aX tabOk rfl rfl rfl (nb rfl) rfl ?_ | refine bF rfl rfl (nb rfl) ?_ | (refine bO rfl rfl rfl (nb rfl) rfl rfl rfl (fun hq => ?_) (fun hq => ?_) <;> (first | (simp only [sD, sE, sB, sC, sN, sM, sT, sF] at hq; try (exfalso; omega)) | skip))| (refine cE rfl rfl rfl (nb rfl) rfl rfl rfl (mJ _ _ _ _ _ _ _) (fun hq => ?_) (fun hq => ?_)) | (refine cE rfl rfl rfl (nb rfl) rfl rfl rfl (ih _ (List.getElem_mem _) (cD h (List.getElem_mem _))) (fun hq => ?_) (fun hq => ?_)) | refine aE rfl rfl rfl (nb rfl) rfl rfl (by omega) ?_ | refine bI rfl rfl rfl (nb rfl) rfl rfl rfl (by omega) (by omega) ?_ | refine bJ rfl rfl rfl (nb rfl) rfl rfl rfl (by omega) (by omega) ?_ | refine bH tabOk rfl rfl rfl (nb rfl) rfl rfl rfl rfl rfl rfl rfl rfl rfl ?_ | refine aZ tabOk rfl rfl (nb rfl) rfl ?_ | refine aU tabOk rfl rfl rfl (nb rfl) rfl rfl rfl rfl rfl rfl ?_ | refine aV tabOk rfl rfl rfl (nb rfl) rfl rfl rfl rfl ?_ | refine aN tabOk rfl rfl rfl rfl rfl rfl rfl rfl rfl rfl rfl ?_ | refine aR tabOk rfl rfl rfl (nb rfl) rfl rfl rfl rfl (by first | assumption | omega) ?_ | refine aJ tabOk rfl rfl rfl (nb rfl) rfl rfl rfl rfl (by first | rfl | omega) (by first | omega | simp) ?_ | refine aC tabOk rfl rfl rfl (nb rfl) rfl rfl rfl (by assumption) ?_ | refine aC tabOk rfl rfl rfl (nb rfl) rfl rfl rfl (bS _ _ (by first | assumption | omega)) ?_ | refine aE rfl rfl rfl (nb rfl) rfl rfl (by omega) ?_ | ((fail_if_success (refine aG (b := true) rfl rfl rfl ?_)); (fail_if_success (refine aG (b := false) rfl rfl rfl ?_)); refine aW rfl rfl rfl (fun hq => ?_) (fun hq => ?_) <;> first | subst hq | (first | (simp only [sD, sE, sB, sC, sN, sM, sT, sF] at hq; try (exfalso; omega)) | skip)) | fail) | (refine bW ?_; first | refine bN ?_ | refine bT ?_ | refine aQ ?_ | refine bD ?_ | refine bU ?_ | refine bL ?_ | refine bK ?_ | refine aA (b := true) rfl (fun _ => ?_) nTf | refine aA (b := false) rfl nFt (fun _ => ?_) | refine bE ?_ | refine bC ?_ | refine bA mixed (by kernel_rfl) ?_ | refine aD mixed (by kernel_rfl) ?_ | (refine aA rfl (fun hq => ?_) (fun hq => ?_) <;> first | subst hq | (first | (simp only [sD, sE, sB, sC, sN, sM, sT, sF] at hq; try (exfalso; omega)) | skip)) | fail) | (refine bQ ?_; first | refine bZ ?_ | refine aK ?_ | refine aT ?_ | fail) | (refine bG ?_; first | refine bV ?_ | refine aH ?_ | refine aI (by decide) ?_ | refine aM ?_ | fail) | refine bR (bB (by kernel_rfl)) ?_ | fail)
    all_goals (refine cA (by first | exact .inl rfl | exact .inr rfl) (cB rfl (aY rfl)) rfl ?_; refine cK ?_; by_cases h2 : kids.length = 2 <;> first | (obtain ⟨x, y, rfl⟩ := two h2; simp_all [isKindP, isKindPs]; done) | (simp_all [isKindP]; done) | (simp_all [isKindP]; omega))
end Go.Proofs.Ytlbemgokilhdnaa.Ab
namespace Go.Proofs.Ytlbemgokilhdnaa.Ab
set_option linter.unusedVariables false
set_option linter.unusedSimpArgs false
def Tree.name : Tree → ByteArray
  | .nil => emptyB
  | .node _ _ a _ _ => a
def ltB (a b : ByteArray) : Bool := Op.bytesLess a.toList b.toList
def risingP : List Tree → Bool
  | t :: u :: r => ltB t.name u.name && risingP (u :: r)
  | _ => true
def distinctP : List Tree → Bool
  | [] => true
  | t :: r => !(r.any fun u => eqB u.name t.name) && distinctP r
mutual
def isConP : Tree → Bool
  | .nil => false
  | .node k n a b kids => bareP n a b false (k == 110) &&
     (if k = 110 then decide (n ≥ 0) && decide (n ≤ 65536) && ((kids.length : Int) == 0)
      else if k = 111 ∨ k = 112 ∨ k = 113 then ((kids.length : Int) == 0)
      else if k = 114 ∨ k = 120 then ((kids.length : Int) == 2) && isCons kids
      else if k = 115 then namedPs kids 116 && risingP kids
      else if k = 117 ∨ k = 118 ∨ k = 119 then isCon2 kids
      else if k = 121 then decide ((kids.length : Int) > 0) && namedPs kids 122 && distinctP kids
      else false)
def isCons : List Tree → Bool
  | [] => true
  | t :: ts => isConP t && isCons ts
def namedPs : List Tree → Int → Bool
  | [], _ => true
  | .nil :: _, _ => false
  | .node k n a b ks :: ts, kind => (k == kind && bareP n a b true false && labelP a && isCon1 ks) && namedPs ts kind
def isCon1 : List Tree → Bool
  | [c] => isConP c
  | _ => false
def isCon2 : List Tree → Bool
  | [x, y] => isKindP x && isConP y
  | _ => false
end
/-- One field, one case. -/
def okNamed (kind : Int) : Tree → Bool
  | .nil => false
  | .node k n a b ks => k == kind && bareP n a b true false && labelP a && isCon1 ks
theorem dC (kind : Int) (l : List Tree) : namedPs l kind = l.all (okNamed kind) := by
  induction l with
  | nil => simp [namedPs]
  | cons t ts ih => cases t <;> simp [namedPs, okNamed, ih]
theorem jK (l : List Tree) : isCons l = l.all isConP := by
  induction l with
  | nil => simp [isCons]
  | cons t ts ih => simp [isCons, ih]
theorem one_of {α : Type} {l : List α} (h : l.length = 1) : ∃ x, l = [x] := by
  match l, h with
  | [x], _ => exact ⟨x, rfl⟩
theorem fA {l : List Tree} (h : l.length ≠ 1) : isCon1 l = false := by
  match l, h with
  | [], _ => simp [isCon1]
  | [x], h => simp at h
  | x :: y :: r, _ => simp [isCon1]
theorem eI {l : List Tree} (h : l.length ≠ 2) : isCon2 l = false := by
  match l, h with
  | [], _ => simp [isCon2]
  | [x], _ => simp [isCon2]
  | [x, y], h => simp at h
  | x :: y :: z :: r, _ => simp [isCon2]
theorem jL {α : Type} {p : α → Bool} {l : List α} (h : ∀ i (hi : i < l.length), p l[i] = true) : l.all p = true := by
  rw [List.all_eq_true]
  intro x hx
  obtain ⟨i, hi, rfl⟩ := List.getElem_of_mem hx
  exact h i hi
theorem hP {α : Type} {p : α → Bool} {l : List α} {j : Nat} (hj : j < l.length) (h : p l[j] = false) : l.all p = false := by
  cases hc : l.all p with
  | false => rfl
  | true =>
    rw [List.all_eq_true] at hc
    have := hc l[j] (List.getElem_mem hj)
    rw [h] at this
    cases this
theorem dZ : ∀ (l : List Tree), risingP l = true ↔ ∀ i (hi : i + 1 < l.length), ltB (l[i]'(by omega)).name l[i + 1].name = true
  | [] => by simp [risingP]
  | [x] => by simp [risingP]
  | t :: u :: r => by
    rw [risingP, Bool.and_eq_true, dZ (u :: r)]
    constructor
    · rintro ⟨h1, h2⟩ i hi
      cases i with
      | zero => simpa using h1
      | succ i => exact h2 i (by simpa using hi)
    · intro h
      exact ⟨h 0 (by simp), fun i hi => h (i + 1) (by simpa using hi)⟩
theorem dW (a b : ByteArray) : eqB a b = true ↔ a = b := by
  unfold eqB
  rw [beq_iff_eq]
  constructor
  · intro h
    have e : ∀ x : ByteArray, x = ⟨x.toList.toArray⟩ := fun x => by
      rw [ByteArray.toList_eq]
    rw [e a, e b, h]
  · rintro rfl; rfl
theorem dS : ∀ (l : List Tree), distinctP l = true ↔ ∀ i j (hij : i < j) (hj : j < l.length), eqB l[j].name (l[i]'(by omega)).name = false
  | [] => by simp [distinctP]
  | t :: r => by
    rw [distinctP, Bool.and_eq_true, dS r]
    constructor
    · rintro ⟨h1, h2⟩ i j hij hj
      cases j with
      | zero => omega
      | succ j =>
        cases i with
        | zero =>
          simp only [Bool.not_eq_true', List.any_eq_false] at h1
          have hj' : j < r.length := by simpa using hj
          have := h1 r[j] (List.getElem_mem hj')
          exact Bool.eq_false_iff.2 this
        | succ i => exact h2 i j (by omega) (by simpa using hj)
    · intro h
      refine ⟨?_, fun i j hij hj => h (i + 1) (j + 1) (by omega) (by simpa using hj)⟩
      simp only [Bool.not_eq_true', List.any_eq_false]
      intro u hu
      obtain ⟨j, hj, rfl⟩ := List.getElem_of_mem hu
      exact Bool.eq_false_iff.1 (h 0 (j + 1) (by omega) (by simpa using hj))
end Go.Proofs.Ytlbemgokilhdnaa.Ab
namespace Go.Proofs.Ytlbemgokilhdnaa.Ab
set_option linter.unusedVariables false
set_option linter.unusedSimpArgs false
attribute [local irreducible] AWP AOps AExit AThen ABlock ANoGoto FeetOk
/-- Kid j, written out. -/
theorem gI {kids : List Tree} (h : Tree.wholes kids = true) {j : Nat} (hj : j < kids.length) : ∃ k n a b ks, kids[j] = Tree.node k n a b ks ∧ (Tree.ivs kids)[j * 1]? = some (Tree.iv (.node k n a b ks)) ∧ Tree.wholes ks = true := by
  obtain ⟨k, n, a, b, ks, e⟩ := cZ (cD h (List.getElem_mem hj))
  have hw := cD h (List.getElem_mem hj)
  rw [e] at hw
  exact ⟨k, n, a, b, ks, e, by rw [bS _ _ hj, e], hw⟩
set_option maxHeartbeats 4000000 in
set_option maxRecDepth 10000 in
theorem vW (k n : Int) (a b : ByteArray) (kids : List Tree) (kind : Int) (h : Tree.wholes kids = true) (hl : kids.length < 1000000000)
    (hc : ∀ t', t'.size < (Tree.node k n a b kids).size → t'.whole = true → ACalls Try.prog 49 [.imm t'.iv] [] (.imm (.lit (.bool (isConP t')))) []) :
    ACalls Try.prog 78 [.imm (Tree.iv (.node k n a b kids)), .imm (.lit (.int .i64 kind))] [] (.imm (.lit (.bool (namedPs kids kind)))) [] := by
  refine bY Try.func78 rfl rfl (nb rfl) rfl ?_
  repeat' (first | refine bM ?_ | (refine bP ?_; first | refine aX tabOk rfl rfl rfl (nb rfl) rfl ?_ | refine bF rfl rfl (nb rfl) ?_ | (refine bO rfl rfl rfl (nb rfl) rfl rfl rfl (fun hq => ?_) (fun hq => ?_) <;> (first | (simp only [sD, sE, sB, sC, sN, sM, sT, sF] at hq; try (exfalso; omega)) | skip)) | refine aE rfl rfl rfl (nb rfl) rfl rfl (by omega) ?_ | refine bI rfl rfl rfl (nb rfl) rfl rfl rfl (by omega) (by omega) ?_ | refine bJ rfl rfl rfl (nb rfl) rfl rfl rfl (by omega) (by omega) ?_ | refine bH tabOk rfl rfl rfl (nb rfl) rfl rfl rfl rfl rfl rfl rfl rfl rfl ?_ | refine aZ tabOk rfl rfl (nb rfl) rfl ?_ | refine aU tabOk rfl rfl rfl (nb rfl) rfl rfl rfl rfl rfl rfl ?_ | refine aV tabOk rfl rfl rfl (nb rfl) rfl rfl rfl rfl ?_ | refine aN tabOk rfl rfl rfl rfl rfl rfl rfl rfl rfl rfl rfl ?_ | refine aR tabOk rfl rfl rfl (nb rfl) rfl rfl rfl rfl (by first | assumption | omega) ?_ | refine aJ tabOk rfl rfl rfl (nb rfl) rfl rfl rfl rfl (by first | rfl | omega) (by first | omega | simp) ?_ | refine aC tabOk rfl rfl rfl (nb rfl) rfl rfl rfl (by assumption) ?_ | refine aC tabOk rfl rfl rfl (nb rfl) rfl rfl rfl (bS _ _ (by first | assumption | omega)) ?_ | refine aE rfl rfl rfl (nb rfl) rfl rfl (by omega) ?_ | ((fail_if_success (refine aG (b := true) rfl rfl rfl ?_)); (fail_if_success (refine aG (b := false) rfl rfl rfl ?_)); refine aW rfl rfl rfl (fun hq => ?_) (fun hq => ?_) <;> first | subst hq | (first | (simp only [sD, sE, sB, sC, sN, sM, sT, sF] at hq; try (exfalso; omega)) | skip)) | fail) | (refine bW ?_; first | refine bN ?_ | refine bT ?_ | refine aQ ?_ | refine bD ?_ | refine bU ?_ | refine bL ?_ | refine bK ?_ | refine aA (b := true) rfl (fun _ => ?_) nTf | refine aA (b := false) rfl nFt (fun _ => ?_) | refine bE ?_ | refine bC ?_ | refine bA mixed (by kernel_rfl) ?_ | refine aD mixed (by kernel_rfl) ?_ | (refine aA rfl (fun hq => ?_) (fun hq => ?_) <;> first | subst hq | (first | (simp only [sD, sE, sB, sC, sN, sM, sT, sF] at hq; try (exfalso; omega)) | skip)) | fail) | (refine bQ ?_; first | refine bZ ?_ | refine aK ?_ | refine aT ?_ | fail) | (refine bG ?_; first | refine bV ?_ | refine aH ?_ | refine aI (by decide) ?_ | refine aM ?_ | fail) | refine bR (bB (by kernel_rfl)) ?_ | fail)
  refine cH (ι := {j : Nat // j ≤ kids.length ∧ ∀ i (hi : i < kids.length), i < j → okNamed kind kids[i] = true}) (fun j => S.f ⟨[(12, .imm (.lit (.int .i64 (j.1 : Int)))), (11, .imm (.lit (.int .i64 (kids.length : Int)))), (10, .imm (.sl false kids.length (Tree.ivs kids))), (1, .imm (.lit (.int .i64 kind)))], []⟩) (fun j => kids.length - j.1) ⟨0, Nat.zero_le _, fun i _ hi => absurd hi (Nat.not_lt_zero _)⟩ (cF (by repeat' first | exact trivial | refine ⟨rfl, ?_⟩) (by repeat' first | exact trivial | refine ⟨rfl, ?_⟩)) ?_
  rintro ⟨j, hj, hok⟩
  dsimp only
  by_cases hlt : j < kids.length
  · obtain ⟨k1, n1, a1, b1, ks1, e1, hget, hw1⟩ := gI h hlt
    have hsz : ∀ i (hi : i < ks1.length), ks1[i].size < (Tree.node k n a b kids).size := fun i hi => by
      have h1 := cG (k := k1) (n := n1) (a := a1) (b := b1) (List.getElem_mem hi)
      have h2 := cG (k := k) (n := n) (a := a) (b := b) (List.getElem_mem hlt)
      rw [e1] at h2
      omega
    have hbad : okNamed kind (Tree.node k1 n1 a1 b1 ks1) = false → namedPs kids kind = false := fun hb => by
      rw [dC]; exact hP hlt (by rw [e1]; exact hb)
    have hgood : okNamed kind (Tree.node k1 n1 a1 b1 ks1) = true → ∀ i (hi : i < kids.length), i < j + 1 → okNamed kind kids[i] = true := fun hb i hi hij => by
      by_cases e : i = j
      · subst e; rw [e1]; exact hb
      · exact hok i hi (by omega)
    repeat' (first | refine bM ?_ | (refine bP ?_; first | refine aX tabOk rfl rfl rfl (nb rfl) rfl ?_ | refine bF rfl rfl (nb rfl) ?_ | (refine bO rfl rfl rfl (nb rfl) rfl rfl rfl (fun hq => ?_) (fun hq => ?_) <;> (first | (simp only [sD, sE, sB, sC, sN, sM, sT, sF] at hq; try (exfalso; omega)) | skip))| (refine cE rfl rfl rfl (nb rfl) rfl rfl rfl (mJ _ _ _ _ _ _ _) (fun hq => ?_) (fun hq => ?_)) | (refine cE rfl rfl rfl (nb rfl) rfl rfl rfl (vV _) (fun hq => ?_) (fun hq => ?_)) | (refine cE rfl rfl rfl (nb rfl) rfl rfl rfl (hc _ (hsz _ _) (cD hw1 (List.getElem_mem _))) (fun hq => ?_) (fun hq => ?_)) | refine aE rfl rfl rfl (nb rfl) rfl rfl (by omega) ?_ | refine bI rfl rfl rfl (nb rfl) rfl rfl rfl (by omega) (by omega) ?_ | refine bJ rfl rfl rfl (nb rfl) rfl rfl rfl (by omega) (by omega) ?_ | refine bH tabOk rfl rfl rfl (nb rfl) rfl rfl rfl rfl rfl rfl rfl rfl rfl ?_ | refine aZ tabOk rfl rfl (nb rfl) rfl ?_ | refine aU tabOk rfl rfl rfl (nb rfl) rfl rfl rfl rfl rfl rfl ?_ | refine aV tabOk rfl rfl rfl (nb rfl) rfl rfl rfl rfl ?_ | refine aN tabOk rfl rfl rfl rfl rfl rfl rfl rfl rfl rfl rfl ?_ | refine aR tabOk rfl rfl rfl (nb rfl) rfl rfl rfl rfl (by first | assumption | omega) ?_ | refine aJ tabOk rfl rfl rfl (nb rfl) rfl rfl rfl rfl (by first | rfl | omega) (by first | omega | simp) ?_ | refine aC tabOk rfl rfl rfl (nb rfl) rfl rfl rfl (by assumption) ?_ | refine aC tabOk rfl rfl rfl (nb rfl) rfl rfl rfl (bS _ _ (by first | assumption | omega)) ?_ | refine aE rfl rfl rfl (nb rfl) rfl rfl (by omega) ?_ | ((fail_if_success (refine aG (b := true) rfl rfl rfl ?_)); (fail_if_success (refine aG (b := false) rfl rfl rfl ?_)); refine aW rfl rfl rfl (fun hq => ?_) (fun hq => ?_) <;> first | subst hq | (first | (simp only [sD, sE, sB, sC, sN, sM, sT, sF] at hq; try (exfalso; omega)) | skip)) | fail) | (refine bW ?_; first | refine bN ?_ | refine bT ?_ | refine aQ ?_ | refine bD ?_ | refine bU ?_ | refine bL ?_ | refine bK ?_ | refine aA (b := true) rfl (fun _ => ?_) nTf | refine aA (b := false) rfl nFt (fun _ => ?_) | refine bE ?_ | refine bC ?_ | refine bA mixed (by kernel_rfl) ?_ | refine aD mixed (by kernel_rfl) ?_ | (refine aA rfl (fun hq => ?_) (fun hq => ?_) <;> first | subst hq | (first | (simp only [sD, sE, sB, sC, sN, sM, sT, sF] at hq; try (exfalso; omega)) | skip)) | fail) | (refine bQ ?_; first | refine bZ ?_ | refine aK ?_ | refine aT ?_ | fail) | (refine bG ?_; first | refine bV ?_ | refine aH ?_ | refine aI (by decide) ?_ | refine aM ?_ | fail) | refine bR (bB (by kernel_rfl)) ?_ | fail)
    all_goals first
      | (refine cA (by first | exact .inl rfl | exact .inr rfl) (cB rfl (aY rfl)) rfl ?_; refine cK (hbad ?_).symm; by_cases h1 : ks1.length = 1 <;> first | (obtain ⟨c, rfl⟩ := one_of h1; simp_all [okNamed, isCon1]; done) | (exfalso; omega) | (simp_all [okNamed, fA]; done))
      | exact ⟨⟨j + 1, hlt, hgood (by obtain ⟨c, rfl⟩ := one_of (l := ks1) (by omega); simp_all [okNamed, isCon1])⟩, (by show kids.length - (j + 1) < kids.length - j; omega), (cF (by repeat' first | exact trivial | refine ⟨rfl, ?_⟩) (by repeat' first | exact trivial | refine ⟨rfl, ?_⟩))⟩
  · repeat' (first | refine bM ?_ | (refine bP ?_; first | refine aX tabOk rfl rfl rfl (nb rfl) rfl ?_ | refine bF rfl rfl (nb rfl) ?_ | (refine bO rfl rfl rfl (nb rfl) rfl rfl rfl (fun hq => ?_) (fun hq => ?_) <;> (first | (simp only [sD, sE, sB, sC, sN, sM, sT, sF] at hq; try (exfalso; omega)) | skip)) | refine aE rfl rfl rfl (nb rfl) rfl rfl (by omega) ?_ | refine bI rfl rfl rfl (nb rfl) rfl rfl rfl (by omega) (by omega) ?_ | refine bJ rfl rfl rfl (nb rfl) rfl rfl rfl (by omega) (by omega) ?_ | refine bH tabOk rfl rfl rfl (nb rfl) rfl rfl rfl rfl rfl rfl rfl rfl rfl ?_ | refine aZ tabOk rfl rfl (nb rfl) rfl ?_ | refine aU tabOk rfl rfl rfl (nb rfl) rfl rfl rfl rfl rfl rfl ?_ | refine aV tabOk rfl rfl rfl (nb rfl) rfl rfl rfl rfl ?_ | refine aN tabOk rfl rfl rfl rfl rfl rfl rfl rfl rfl rfl rfl ?_ | refine aR tabOk rfl rfl rfl (nb rfl) rfl rfl rfl rfl (by first | assumption | omega) ?_ | refine aJ tabOk rfl rfl rfl (nb rfl) rfl rfl rfl rfl (by first | rfl | omega) (by first | omega | simp) ?_ | refine aC tabOk rfl rfl rfl (nb rfl) rfl rfl rfl (by assumption) ?_ | refine aC tabOk rfl rfl rfl (nb rfl) rfl rfl rfl (bS _ _ (by first | assumption | omega)) ?_ | refine aE rfl rfl rfl (nb rfl) rfl rfl (by omega) ?_ | ((fail_if_success (refine aG (b := true) rfl rfl rfl ?_)); (fail_if_success (refine aG (b := false) rfl rfl rfl ?_)); refine aW rfl rfl rfl (fun hq => ?_) (fun hq => ?_) <;> first | subst hq | (first | (simp only [sD, sE, sB, sC, sN, sM, sT, sF] at hq; try (exfalso; omega)) | skip)) | fail) | (refine bW ?_; first | refine bN ?_ | refine bT ?_ | refine aQ ?_ | refine bD ?_ | refine bU ?_ | refine bL ?_ | refine bK ?_ | refine aA (b := true) rfl (fun _ => ?_) nTf | refine aA (b := false) rfl nFt (fun _ => ?_) | refine bE ?_ | refine bC ?_ | refine bA mixed (by kernel_rfl) ?_ | refine aD mixed (by kernel_rfl) ?_ | (refine aA rfl (fun hq => ?_) (fun hq => ?_) <;> first | subst hq | (first | (simp only [sD, sE, sB, sC, sN, sM, sT, sF] at hq; try (exfalso; omega)) | skip)) | fail) | (refine bQ ?_; first | refine bZ ?_ | refine aK ?_ | refine aT ?_ | fail) | (refine bG ?_; first | refine bV ?_ | refine aH ?_ | refine aI (by decide) ?_ | refine aM ?_ | fail) | refine bR (bB (by kernel_rfl)) ?_ | fail)
    all_goals (refine cA (by first | exact .inl rfl | exact .inr rfl) (cB rfl (aY rfl)) rfl ?_; refine cK ?_; rw [dC]; exact (jL fun i hi => hok i hi (by omega)).symm)
end Go.Proofs.Ytlbemgokilhdnaa.Ab
namespace Go.Proofs.Ytlbemgokilhdnaa.Ab
set_option linter.unusedVariables false
set_option linter.unusedSimpArgs false
attribute [local irreducible] AWP AOps AExit AThen ABlock ANoGoto FeetOk
set_option maxHeartbeats 4000000 in
set_option maxRecDepth 10000 in
theorem tM (k n : Int) (a b : ByteArray) (kids : List Tree) (h : Tree.wholes kids = true) (hl : kids.length < 1000000000) :
    ACalls Try.prog 79 [.imm (Tree.iv (.node k n a b kids))] [] (.imm (.lit (.bool (risingP kids)))) [] := by
  refine bY Try.func79 rfl rfl (nb rfl) rfl ?_
  repeat' (first | refine bM ?_ | (refine bP ?_; first | refine aX tabOk rfl rfl rfl (nb rfl) rfl ?_ | refine bF rfl rfl (nb rfl) ?_ | (refine bO rfl rfl rfl (nb rfl) rfl rfl rfl (fun hq => ?_) (fun hq => ?_) <;> (first | (simp only [sD, sE, sB, sC, sN, sM, sT, sF] at hq; try (exfalso; omega)) | skip)) | refine aE rfl rfl rfl (nb rfl) rfl rfl (by omega) ?_ | refine bI rfl rfl rfl (nb rfl) rfl rfl rfl (by omega) (by omega) ?_ | refine bJ rfl rfl rfl (nb rfl) rfl rfl rfl (by omega) (by omega) ?_ | refine bH tabOk rfl rfl rfl (nb rfl) rfl rfl rfl rfl rfl rfl rfl rfl rfl ?_ | refine aZ tabOk rfl rfl (nb rfl) rfl ?_ | refine aU tabOk rfl rfl rfl (nb rfl) rfl rfl rfl rfl rfl rfl ?_ | refine aV tabOk rfl rfl rfl (nb rfl) rfl rfl rfl rfl ?_ | refine aN tabOk rfl rfl rfl rfl rfl rfl rfl rfl rfl rfl rfl ?_ | refine aR tabOk rfl rfl rfl (nb rfl) rfl rfl rfl rfl (by first | assumption | omega) ?_ | refine aJ tabOk rfl rfl rfl (nb rfl) rfl rfl rfl rfl (by first | rfl | omega) (by first | omega | simp) ?_ | refine aC tabOk rfl rfl rfl (nb rfl) rfl rfl rfl (by assumption) ?_ | refine aC tabOk rfl rfl rfl (nb rfl) rfl rfl rfl (bS _ _ (by first | assumption | omega)) ?_ | refine aE rfl rfl rfl (nb rfl) rfl rfl (by omega) ?_ | ((fail_if_success (refine aG (b := true) rfl rfl rfl ?_)); (fail_if_success (refine aG (b := false) rfl rfl rfl ?_)); refine aW rfl rfl rfl (fun hq => ?_) (fun hq => ?_) <;> first | subst hq | (first | (simp only [sD, sE, sB, sC, sN, sM, sT, sF] at hq; try (exfalso; omega)) | skip)) | fail) | (refine bW ?_; first | refine bN ?_ | refine bT ?_ | refine aQ ?_ | refine bD ?_ | refine bU ?_ | refine bL ?_ | refine bK ?_ | refine aA (b := true) rfl (fun _ => ?_) nTf | refine aA (b := false) rfl nFt (fun _ => ?_) | refine bE ?_ | refine bC ?_ | refine bA mixed (by kernel_rfl) ?_ | refine aD mixed (by kernel_rfl) ?_ | (refine aA rfl (fun hq => ?_) (fun hq => ?_) <;> first | subst hq | (first | (simp only [sD, sE, sB, sC, sN, sM, sT, sF] at hq; try (exfalso; omega)) | skip)) | fail) | (refine bQ ?_; first | refine bZ ?_ | refine aK ?_ | refine aT ?_ | fail) | (refine bG ?_; first | refine bV ?_ | refine aH ?_ | refine aI (by decide) ?_ | refine aM ?_ | fail) | refine bR (bB (by kernel_rfl)) ?_ | fail)
  refine cH (ι := {j : Nat // 1 ≤ j ∧ (j ≤ kids.length ∨ j = 1) ∧ ∀ i (hi : i + 1 < kids.length), i + 1 < j → ltB (kids[i]'(by omega)).name kids[i + 1].name = true}) (fun j => S.f ⟨[(3, .imm (.lit (.int .i64 (j.1 : Int)))), (0, .imm (Tree.iv (.node k n a b kids)))], []⟩) (fun j => kids.length - j.1) ⟨1, Nat.le_refl _, .inr rfl, fun i _ hi => by omega⟩ (cF (by repeat' first | exact trivial | refine ⟨rfl, ?_⟩) (by repeat' first | exact trivial | refine ⟨rfl, ?_⟩)) ?_
  rintro ⟨j, hj1, hj, hok⟩
  dsimp only
  by_cases hlt : j < kids.length
  · obtain ⟨k1, n1, a1, b1, ks1, e1, hget, hw1⟩ := gI h hlt
    obtain ⟨k0, n0, a0, b0, ks0, e0, hget0, hw0⟩ := gI h (j := ((j : Int) - 1).toNat) (by omega)
    have e2 : ∀ i, i + 1 = j → ∀ (hi : i + 1 < kids.length), ltB (kids[i]'(by omega)).name kids[i + 1].name = Op.bytesLess a0.toList a1.toList := fun i hij hi => by
      have hi2 : ((j : Int) - 1).toNat = i := by omega
      have x0 : kids[i]'(by omega) = Tree.node k0 n0 a0 b0 ks0 := by simpa only [hi2] using e0
      have x1 : kids[i + 1] = Tree.node k1 n1 a1 b1 ks1 := by simpa only [hij] using e1
      rw [x0, x1]; rfl
    repeat' (first | refine bM ?_ | (refine bP ?_; first | refine aX tabOk rfl rfl rfl (nb rfl) rfl ?_ | refine bF rfl rfl (nb rfl) ?_ | (refine bO rfl rfl rfl (nb rfl) rfl rfl rfl (fun hq => ?_) (fun hq => ?_) <;> (first | (simp only [sD, sE, sB, sC, sN, sM, sT, sF] at hq; try (exfalso; omega)) | skip)) | refine aE rfl rfl rfl (nb rfl) rfl rfl (by omega) ?_ | refine bI rfl rfl rfl (nb rfl) rfl rfl rfl (by omega) (by omega) ?_ | refine bJ rfl rfl rfl (nb rfl) rfl rfl rfl (by omega) (by omega) ?_ | refine bH tabOk rfl rfl rfl (nb rfl) rfl rfl rfl rfl rfl rfl rfl rfl rfl ?_ | refine aZ tabOk rfl rfl (nb rfl) rfl ?_ | refine aU tabOk rfl rfl rfl (nb rfl) rfl rfl rfl rfl rfl rfl ?_ | refine aV tabOk rfl rfl rfl (nb rfl) rfl rfl rfl rfl ?_ | refine aN tabOk rfl rfl rfl rfl rfl rfl rfl rfl rfl rfl rfl ?_ | refine aR tabOk rfl rfl rfl (nb rfl) rfl rfl rfl rfl (by first | assumption | omega) ?_ | refine aJ tabOk rfl rfl rfl (nb rfl) rfl rfl rfl rfl (by first | rfl | omega) (by first | omega | simp) ?_ | refine aC tabOk rfl rfl rfl (nb rfl) rfl rfl rfl (by assumption) ?_ | refine aC tabOk rfl rfl rfl (nb rfl) rfl rfl rfl (bS _ _ (by first | assumption | omega)) ?_ | refine aE rfl rfl rfl (nb rfl) rfl rfl (by omega) ?_ | ((fail_if_success (refine aG (b := true) rfl rfl rfl ?_)); (fail_if_success (refine aG (b := false) rfl rfl rfl ?_)); refine aW rfl rfl rfl (fun hq => ?_) (fun hq => ?_) <;> first | subst hq | (first | (simp only [sD, sE, sB, sC, sN, sM, sT, sF] at hq; try (exfalso; omega)) | skip)) | fail) | (refine bW ?_; first | refine bN ?_ | refine bT ?_ | refine aQ ?_ | refine bD ?_ | refine bU ?_ | refine bL ?_ | refine bK ?_ | refine aA (b := true) rfl (fun _ => ?_) nTf | refine aA (b := false) rfl nFt (fun _ => ?_) | refine bE ?_ | refine bC ?_ | refine bA mixed (by kernel_rfl) ?_ | refine aD mixed (by kernel_rfl) ?_ | (refine aA rfl (fun hq => ?_) (fun hq => ?_) <;> first | subst hq | (first | (simp only [sD, sE, sB, sC, sN, sM, sT, sF] at hq; try (exfalso; omega)) | skip)) | fail) | (refine bQ ?_; first | refine bZ ?_ | refine aK ?_ | refine aT ?_ | fail) | (refine bG ?_; first | refine bV ?_ | refine aH ?_ | refine aI (by decide) ?_ | refine aM ?_ | fail) | refine bR (bB (by kernel_rfl)) ?_ | fail)
    all_goals first
      | (refine cA (by first | exact .inl rfl | exact .inr rfl) (cB rfl (aY rfl)) rfl ?_; refine cK ?_; symm; rw [Bool.eq_false_iff]; intro hr; rw [dZ] at hr; have := hr (j - 1) (by omega); rw [e2 (j - 1) (by omega)] at this; simp_all; done)
      | exact ⟨⟨j + 1, by omega, .inl hlt, fun i hi hij => by by_cases e : i + 1 = j <;> first | (rw [e2 i e]; simp_all; done) | exact hok i hi (by omega)⟩, (by show kids.length - (j + 1) < kids.length - j; omega), (cF (by repeat' first | exact trivial | refine ⟨rfl, ?_⟩) (by repeat' first | exact trivial | refine ⟨rfl, ?_⟩))⟩
  · repeat' (first | refine bM ?_ | (refine bP ?_; first | refine aX tabOk rfl rfl rfl (nb rfl) rfl ?_ | refine bF rfl rfl (nb rfl) ?_ | (refine bO rfl rfl rfl (nb rfl) rfl rfl rfl (fun hq => ?_) (fun hq => ?_) <;> (first | (simp only [sD, sE, sB, sC, sN, sM, sT, sF] at hq; try (exfalso; omega)) | skip)) | refine aE rfl rfl rfl (nb rfl) rfl rfl (by omega) ?_ | refine bI rfl rfl rfl (nb rfl) rfl rfl rfl (by omega) (by omega) ?_ | refine bJ rfl rfl rfl (nb rfl) rfl rfl rfl (by omega) (by omega) ?_ | refine bH tabOk rfl rfl rfl (nb rfl) rfl rfl rfl rfl rfl rfl rfl rfl rfl ?_ | refine aZ tabOk rfl rfl (nb rfl) rfl ?_ | refine aU tabOk rfl rfl rfl (nb rfl) rfl rfl rfl rfl rfl rfl ?_ | refine aV tabOk rfl rfl rfl (nb rfl) rfl rfl rfl rfl ?_ | refine aN tabOk rfl rfl rfl rfl rfl rfl rfl rfl rfl rfl rfl ?_ | refine aR tabOk rfl rfl rfl (nb rfl) rfl rfl rfl rfl (by first | assumption | omega) ?_ | refine aJ tabOk rfl rfl rfl (nb rfl) rfl rfl rfl rfl (by first | rfl | omega) (by first | omega | simp) ?_ | refine aC tabOk rfl rfl rfl (nb rfl) rfl rfl rfl (by assumption) ?_ | refine aC tabOk rfl rfl rfl (nb rfl) rfl rfl rfl (bS _ _ (by first | assumption | omega)) ?_ | refine aE rfl rfl rfl (nb rfl) rfl rfl (by omega) ?_ | ((fail_if_success (refine aG (b := true) rfl rfl rfl ?_)); (fail_if_success (refine aG (b := false) rfl rfl rfl ?_)); refine aW rfl rfl rfl (fun hq => ?_) (fun hq => ?_) <;> first | subst hq | (first | (simp only [sD, sE, sB, sC, sN, sM, sT, sF] at hq; try (exfalso; omega)) | skip)) | fail) | (refine bW ?_; first | refine bN ?_ | refine bT ?_ | refine aQ ?_ | refine bD ?_ | refine bU ?_ | refine bL ?_ | refine bK ?_ | refine aA (b := true) rfl (fun _ => ?_) nTf | refine aA (b := false) rfl nFt (fun _ => ?_) | refine bE ?_ | refine bC ?_ | refine bA mixed (by kernel_rfl) ?_ | refine aD mixed (by kernel_rfl) ?_ | (refine aA rfl (fun hq => ?_) (fun hq => ?_) <;> first | subst hq | (first | (simp only [sD, sE, sB, sC, sN, sM, sT, sF] at hq; try (exfalso; omega)) | skip)) | fail) | (refine bQ ?_; first | refine bZ ?_ | refine aK ?_ | refine aT ?_ | fail) | (refine bG ?_; first | refine bV ?_ | refine aH ?_ | refine aI (by decide) ?_ | refine aM ?_ | fail) | refine bR (bB (by kernel_rfl)) ?_ | fail)
    all_goals (refine cA (by first | exact .inl rfl | exact .inr rfl) (cB rfl (aY rfl)) rfl ?_; refine cK ?_; symm; rw [dZ]; exact fun i hi => hok i hi (by omega))
/-- The map of the labels that were met. -/
def seenL (l : List Tree) : List (ByteArray × IV) := l.map fun t => (t.name, .lit (.bool true))
theorem rA (l : List Tree) (key : ByteArray) : mget (seenL l) key = cond (l.any fun u => eqB u.name key) (some (.lit (.bool true))) none := by
  induction l with
  | nil => rfl
  | cons t l ih =>
    simp only [seenL, List.map_cons, mget, List.any_cons]
    cases hb : eqB t.name key with
    | true => rw [if_pos ((dW _ _).1 hb)]; simp
    | false =>
      rw [if_neg (fun e => by rw [(dW _ _).2 e] at hb; cases hb)]
      simp only [Bool.false_or]
      exact ih
theorem oM (l : List Tree) (key : ByteArray) : (mget (seenL l) key).getD (.lit (.bool false)) = .lit (.bool (l.any fun u => eqB u.name key)) := by
  rw [rA]
  cases l.any (fun u => eqB u.name key) <;> rfl
theorem oN {l : List Tree} {key : ByteArray} (h : (l.any fun u => eqB u.name key) = false) : mget (seenL l) key = none := by
  rw [rA, h]; rfl
theorem oO (l : List Tree) (t : Tree) (j : Nat) (hj : j < l.length) (e : l[j] = t) : seenL (l.take j) ++ [(t.name, .lit (.bool true))] = seenL (l.take (j + 1)) := by
  rw [List.take_add_one]
  simp [seenL, hj, e]
set_option maxHeartbeats 4000000 in
set_option maxRecDepth 10000 in
theorem tN (k n : Int) (a b : ByteArray) (kids : List Tree) (h : Tree.wholes kids = true) (hl : kids.length < 1000000000) :
    ACalls Try.prog 81 [.imm (Tree.iv (.node k n a b kids))] [] (.imm (.lit (.bool (distinctP kids)))) [] := by
  refine bY Try.func81 rfl rfl (nb rfl) rfl ?_
  repeat' (first | refine bM ?_ | (refine bP ?_; first | refine aX tabOk rfl rfl rfl (nb rfl) rfl ?_ | refine bF rfl rfl (nb rfl) ?_ | (refine bO rfl rfl rfl (nb rfl) rfl rfl rfl (fun hq => ?_) (fun hq => ?_) <;> (first | (simp only [sD, sE, sB, sC, sN, sM, sT, sF] at hq; try (exfalso; omega)) | skip))| refine eU rfl rfl rfl (nb rfl) rfl rfl rfl ?_ | (refine eV tabOk rfl rfl rfl (nb rfl) rfl rfl rfl rfl rfl rfl rfl rfl (rfl) (fun hq => ?_) (fun hq => ?_)) | refine fJ tabOk rfl rfl rfl rfl rfl rfl rfl rfl rfl rfl rfl (hno (by assumption)) ?_ | refine eK tabOk rfl rfl rfl (nb rfl) rfl rfl rfl rfl rfl rfl rfl rfl (hno (by assumption)) ?_ | refine eL rfl rfl rfl rfl rfl rfl rfl rfl rfl ?_ | refine aE rfl rfl rfl (nb rfl) rfl rfl (by omega) ?_ | refine bI rfl rfl rfl (nb rfl) rfl rfl rfl (by omega) (by omega) ?_ | refine bJ rfl rfl rfl (nb rfl) rfl rfl rfl (by omega) (by omega) ?_ | refine bH tabOk rfl rfl rfl (nb rfl) rfl rfl rfl rfl rfl rfl rfl rfl rfl ?_ | refine aZ tabOk rfl rfl (nb rfl) rfl ?_ | refine aU tabOk rfl rfl rfl (nb rfl) rfl rfl rfl rfl rfl rfl ?_ | refine aV tabOk rfl rfl rfl (nb rfl) rfl rfl rfl rfl ?_ | refine aN tabOk rfl rfl rfl rfl rfl rfl rfl rfl rfl rfl rfl ?_ | refine aR tabOk rfl rfl rfl (nb rfl) rfl rfl rfl rfl (by first | assumption | omega) ?_ | refine aJ tabOk rfl rfl rfl (nb rfl) rfl rfl rfl rfl (by first | rfl | omega) (by first | omega | simp) ?_ | refine aC tabOk rfl rfl rfl (nb rfl) rfl rfl rfl (by assumption) ?_ | refine aC tabOk rfl rfl rfl (nb rfl) rfl rfl rfl (bS _ _ (by first | assumption | omega)) ?_ | refine aE rfl rfl rfl (nb rfl) rfl rfl (by omega) ?_ | ((fail_if_success (refine aG (b := true) rfl rfl rfl ?_)); (fail_if_success (refine aG (b := false) rfl rfl rfl ?_)); refine aW rfl rfl rfl (fun hq => ?_) (fun hq => ?_) <;> first | subst hq | (first | (simp only [sD, sE, sB, sC, sN, sM, sT, sF] at hq; try (exfalso; omega)) | skip)) | fail) | (refine bW ?_; first | refine bN ?_ | refine bT ?_ | refine aQ ?_ | refine bD ?_ | refine bU ?_ | refine bL ?_ | refine bK ?_ | refine aA (b := true) rfl (fun _ => ?_) nTf | refine aA (b := false) rfl nFt (fun _ => ?_) | refine bE ?_ | refine bC ?_ | refine bA mixed (by kernel_rfl) ?_ | refine aD mixed (by kernel_rfl) ?_ | (refine aA rfl (fun hq => ?_) (fun hq => ?_) <;> first | subst hq | (first | (simp only [sD, sE, sB, sC, sN, sM, sT, sF] at hq; try (exfalso; omega)) | skip)) | fail) | (refine bQ ?_; first | refine bZ ?_ | refine aK ?_ | refine aT ?_ | fail) | (refine bG ?_; first | refine bV ?_ | refine aH ?_ | refine aI (by decide) ?_ | refine aM ?_ | fail) | refine bR (bB (by kernel_rfl)) ?_ | fail)
  refine cH (ι := {j : Nat × List (ByteArray × IV) // j.1 ≤ kids.length ∧ j.2 = seenL (kids.take j.1) ∧ ∀ i i' (h1 : i < i') (h2 : i' < kids.length), i' < j.1 → eqB kids[i'].name (kids[i]'(by omega)).name = false}) (fun j => S.f ⟨[(12, .imm (.lit (.int .i64 (j.1.1 : Int)))), (11, .imm (.lit (.int .i64 (kids.length : Int)))), (10, .imm (.sl false kids.length (Tree.ivs kids))), (3, .mp 6)], [(6, .map j.1.2)]⟩) (fun j => kids.length - j.1.1) ⟨(0, []), Nat.zero_le _, rfl, fun i i' _ _ hi => absurd hi (Nat.not_lt_zero _)⟩ (cF (by repeat' first | exact trivial | refine ⟨rfl, ?_⟩) (by repeat' first | exact trivial | refine ⟨rfl, ?_⟩)) ?_
  rintro ⟨⟨j, l⟩, hj, hs, hok⟩
  dsimp only at hj hs hok ⊢
  by_cases hlt : j < kids.length
  · obtain ⟨k1, n1, a1, b1, ks1, e1, hget, hw1⟩ := gI h hlt
    have hb := oM (kids.take j) a1
    rw [← hs] at hb
    have hno : ((kids.take j).any fun u => eqB u.name a1) = false → mget l a1 = none := fun h => by rw [hs]; exact oN h
    have hmeet : ((kids.take j).any fun u => eqB u.name a1) = true → distinctP kids = false := fun h => by
      rw [Bool.eq_false_iff]
      intro hd
      rw [dS] at hd
      rw [List.any_eq_true] at h
      obtain ⟨u, hu, hub⟩ := h
      obtain ⟨i, hi, rfl⟩ := List.getElem_of_mem hu
      simp only [List.length_take] at hi
      have h2 := hd i j (by omega) hlt
      rw [e1] at h2
      simp only [List.getElem_take] at hub
      rw [(dW _ _).1 hub] at h2
      have h3 := (dW a1 a1).2 rfl
      rw [show Tree.name (Tree.node k1 n1 a1 b1 ks1) = a1 from rfl, h3] at h2
      cases h2
    have hnext : ((kids.take j).any fun u => eqB u.name a1) = false → ∀ i i' (h1 : i < i') (h2 : i' < kids.length), i' < j + 1 → eqB kids[i'].name (kids[i]'(by omega)).name = false := fun h i i' h1 h2 h3 => by
      by_cases e : i' = j
      · subst e
        rw [List.any_eq_false] at h
        have := h kids[i] (List.mem_iff_getElem.2 ⟨i, by simp; omega, by simp⟩)
        rw [e1]
        rw [Bool.eq_false_iff]
        intro hc
        exact this ((dW _ _).2 ((dW _ _).1 hc).symm)
      · exact hok i i' h1 h2 (by omega)
    repeat' (first | refine bM ?_ | (refine bP ?_; first | refine aX tabOk rfl rfl rfl (nb rfl) rfl ?_ | refine bF rfl rfl (nb rfl) ?_ | (refine bO rfl rfl rfl (nb rfl) rfl rfl rfl (fun hq => ?_) (fun hq => ?_) <;> (first | (simp only [sD, sE, sB, sC, sN, sM, sT, sF] at hq; try (exfalso; omega)) | skip))| refine eU rfl rfl rfl (nb rfl) rfl rfl rfl ?_ | (refine eV tabOk rfl rfl rfl (nb rfl) rfl rfl rfl rfl rfl rfl rfl rfl (hb) (fun hq => ?_) (fun hq => ?_)) | refine fJ tabOk rfl rfl rfl rfl rfl rfl rfl rfl rfl rfl rfl (hno (by assumption)) ?_ | refine eK tabOk rfl rfl rfl (nb rfl) rfl rfl rfl rfl rfl rfl rfl rfl (hno (by assumption)) ?_ | refine eL rfl rfl rfl rfl rfl rfl rfl rfl rfl ?_ | refine aE rfl rfl rfl (nb rfl) rfl rfl (by omega) ?_ | refine bI rfl rfl rfl (nb rfl) rfl rfl rfl (by omega) (by omega) ?_ | refine bJ rfl rfl rfl (nb rfl) rfl rfl rfl (by omega) (by omega) ?_ | refine bH tabOk rfl rfl rfl (nb rfl) rfl rfl rfl rfl rfl rfl rfl rfl rfl ?_ | refine aZ tabOk rfl rfl (nb rfl) rfl ?_ | refine aU tabOk rfl rfl rfl (nb rfl) rfl rfl rfl rfl rfl rfl ?_ | refine aV tabOk rfl rfl rfl (nb rfl) rfl rfl rfl rfl ?_ | refine aN tabOk rfl rfl rfl rfl rfl rfl rfl rfl rfl rfl rfl ?_ | refine aR tabOk rfl rfl rfl (nb rfl) rfl rfl rfl rfl (by first | assumption | omega) ?_ | refine aJ tabOk rfl rfl rfl (nb rfl) rfl rfl rfl rfl (by first | rfl | omega) (by first | omega | simp) ?_ | refine aC tabOk rfl rfl rfl (nb rfl) rfl rfl rfl (by assumption) ?_ | refine aC tabOk rfl rfl rfl (nb rfl) rfl rfl rfl (bS _ _ (by first | assumption | omega)) ?_ | refine aE rfl rfl rfl (nb rfl) rfl rfl (by omega) ?_ | ((fail_if_success (refine aG (b := true) rfl rfl rfl ?_)); (fail_if_success (refine aG (b := false) rfl rfl rfl ?_)); refine aW rfl rfl rfl (fun hq => ?_) (fun hq => ?_) <;> first | subst hq | (first | (simp only [sD, sE, sB, sC, sN, sM, sT, sF] at hq; try (exfalso; omega)) | skip)) | fail) | (refine bW ?_; first | refine bN ?_ | refine bT ?_ | refine aQ ?_ | refine bD ?_ | refine bU ?_ | refine bL ?_ | refine bK ?_ | refine aA (b := true) rfl (fun _ => ?_) nTf | refine aA (b := false) rfl nFt (fun _ => ?_) | refine bE ?_ | refine bC ?_ | refine bA mixed (by kernel_rfl) ?_ | refine aD mixed (by kernel_rfl) ?_ | (refine aA rfl (fun hq => ?_) (fun hq => ?_) <;> first | subst hq | (first | (simp only [sD, sE, sB, sC, sN, sM, sT, sF] at hq; try (exfalso; omega)) | skip)) | fail) | (refine bQ ?_; first | refine bZ ?_ | refine aK ?_ | refine aT ?_ | fail) | (refine bG ?_; first | refine bV ?_ | refine aH ?_ | refine aI (by decide) ?_ | refine aM ?_ | fail) | refine bR (bB (by kernel_rfl)) ?_ | fail)
    all_goals first
      | (refine cA (by first | exact .inl rfl | exact .inr rfl) (cB rfl (aY rfl)) rfl ?_; exact cK (hmeet (by assumption)).symm)
      | exact ⟨⟨(j + 1, l ++ [(a1, .lit (.bool true))]), hlt, (hs ▸ oO kids _ j hlt e1), hnext (by assumption)⟩, (by show kids.length - (j + 1) < kids.length - j; omega), (cF (by repeat' first | exact trivial | refine ⟨rfl, ?_⟩) (by repeat' first | exact trivial | refine ⟨rfl, ?_⟩))⟩
  · repeat' (first | refine bM ?_ | (refine bP ?_; first | refine aX tabOk rfl rfl rfl (nb rfl) rfl ?_ | refine bF rfl rfl (nb rfl) ?_ | (refine bO rfl rfl rfl (nb rfl) rfl rfl rfl (fun hq => ?_) (fun hq => ?_) <;> (first | (simp only [sD, sE, sB, sC, sN, sM, sT, sF] at hq; try (exfalso; omega)) | skip)) | refine aE rfl rfl rfl (nb rfl) rfl rfl (by omega) ?_ | refine bI rfl rfl rfl (nb rfl) rfl rfl rfl (by omega) (by omega) ?_ | refine bJ rfl rfl rfl (nb rfl) rfl rfl rfl (by omega) (by omega) ?_ | refine bH tabOk rfl rfl rfl (nb rfl) rfl rfl rfl rfl rfl rfl rfl rfl rfl ?_ | refine aZ tabOk rfl rfl (nb rfl) rfl ?_ | refine aU tabOk rfl rfl rfl (nb rfl) rfl rfl rfl rfl rfl rfl ?_ | refine aV tabOk rfl rfl rfl (nb rfl) rfl rfl rfl rfl ?_ | refine aN tabOk rfl rfl rfl rfl rfl rfl rfl rfl rfl rfl rfl ?_ | refine aR tabOk rfl rfl rfl (nb rfl) rfl rfl rfl rfl (by first | assumption | omega) ?_ | refine aJ tabOk rfl rfl rfl (nb rfl) rfl rfl rfl rfl (by first | rfl | omega) (by first | omega | simp) ?_ | refine aC tabOk rfl rfl rfl (nb rfl) rfl rfl rfl (by assumption) ?_ | refine aC tabOk rfl rfl rfl (nb rfl) rfl rfl rfl (bS _ _ (by first | assumption | omega)) ?_ | refine aE rfl rfl rfl (nb rfl) rfl rfl (by omega) ?_ | ((fail_if_success (refine aG (b := true) rfl rfl rfl ?_)); (fail_if_success (refine aG (b := false) rfl rfl rfl ?_)); refine aW rfl rfl rfl (fun hq => ?_) (fun hq => ?_) <;> first | subst hq | (first | (simp only [sD, sE, sB, sC, sN, sM, sT, sF] at hq; try (exfalso; omega)) | skip)) | fail) | (refine bW ?_; first | refine bN ?_ | refine bT ?_ | refine aQ ?_ | refine bD ?_ | refine bU ?_ | refine bL ?_ | refine bK ?_ | refine aA (b := true) rfl (fun _ => ?_) nTf | refine aA (b := false) rfl nFt (fun _ => ?_) | refine bE ?_ | refine bC ?_ | refine bA mixed (by kernel_rfl) ?_ | refine aD mixed (by kernel_rfl) ?_ | (refine aA rfl (fun hq => ?_) (fun hq => ?_) <;> first | subst hq | (first | (simp only [sD, sE, sB, sC, sN, sM, sT, sF] at hq; try (exfalso; omega)) | skip)) | fail) | (refine bQ ?_; first | refine bZ ?_ | refine aK ?_ | refine aT ?_ | fail) | (refine bG ?_; first | refine bV ?_ | refine aH ?_ | refine aI (by decide) ?_ | refine aM ?_ | fail) | refine bR (bB (by kernel_rfl)) ?_ | fail)
    all_goals (refine cA (by first | exact .inl rfl | exact .inr rfl) (cB rfl (aY rfl)) rfl ?_; refine cK ?_; symm; rw [dS]; exact fun i i' h1 h2 => hok i i' h1 h2 (by omega))
end Go.Proofs.Ytlbemgokilhdnaa.Ab
namespace Go.Proofs.Ytlbemgokilhdnaa.Ab
set_option linter.unusedVariables false
set_option linter.unusedSimpArgs false
attribute [local irreducible] AWP AOps AExit AThen ABlock ANoGoto FeetOk
set_option maxHeartbeats 8000000 in
set_option maxRecDepth 10000 in
theorem vX (t : Tree) : t.whole = true → t.size ≤ 1000000 → ACalls Try.prog 49 [.imm t.iv] [] (.imm (.lit (.bool (isConP t)))) [] := by
  induction t using Tree.sind with
  | h t ih =>
    intro h hs
    obtain ⟨k, n, a, b, kids, rfl⟩ := cZ h
    have hl : kids.length < 1000000000 := by have := cI kids h; simp only [Tree.size] at hs; omega
    have hc : ∀ t', t'.size < (Tree.node k n a b kids).size → t'.whole = true → ACalls Try.prog 49 [.imm t'.iv] [] (.imm (.lit (.bool (isConP t')))) [] := fun t' h1 h2 => ih t' h1 h2 (by omega)
    refine bY Try.func49 rfl rfl (nb rfl) rfl ?_
    repeat' (first | refine bM ?_ | (refine bP ?_; first | refine aX tabOk rfl rfl rfl (nb rfl) rfl ?_ | refine bF rfl rfl (nb rfl) ?_ | (refine bO rfl rfl rfl (nb rfl) rfl rfl rfl (fun hq => ?_) (fun hq => ?_) <;> (first | (simp only [sD, sE, sB, sC, sN, sM, sT, sF] at hq; try (exfalso; omega)) | skip))| (refine cE rfl rfl rfl (nb rfl) rfl rfl rfl (mJ _ _ _ _ _ _ _) (fun hq => ?_) (fun hq => ?_)) | (refine cE rfl rfl rfl (nb rfl) rfl rfl rfl (vW _ _ _ _ _ _ h hl hc) (fun hq => ?_) (fun hq => ?_)) | (refine cE rfl rfl rfl (nb rfl) rfl rfl rfl (tM _ _ _ _ _ h hl) (fun hq => ?_) (fun hq => ?_)) | (refine cE rfl rfl rfl (nb rfl) rfl rfl rfl (tN _ _ _ _ _ h hl) (fun hq => ?_) (fun hq => ?_)) | (refine cE rfl rfl rfl (nb rfl) rfl rfl rfl (mK _ (cD h (List.getElem_mem _))) (fun hq => ?_) (fun hq => ?_)) | (refine cE rfl rfl rfl (nb rfl) rfl rfl rfl (hc _ (cG (List.getElem_mem _)) (cD h (List.getElem_mem _))) (fun hq => ?_) (fun hq => ?_)) | refine aE rfl rfl rfl (nb rfl) rfl rfl (by omega) ?_ | refine bI rfl rfl rfl (nb rfl) rfl rfl rfl (by omega) (by omega) ?_ | refine bJ rfl rfl rfl (nb rfl) rfl rfl rfl (by omega) (by omega) ?_ | refine bH tabOk rfl rfl rfl (nb rfl) rfl rfl rfl rfl rfl rfl rfl rfl rfl ?_ | refine aZ tabOk rfl rfl (nb rfl) rfl ?_ | refine aU tabOk rfl rfl rfl (nb rfl) rfl rfl rfl rfl rfl rfl ?_ | refine aV tabOk rfl rfl rfl (nb rfl) rfl rfl rfl rfl ?_ | refine aN tabOk rfl rfl rfl rfl rfl rfl rfl rfl rfl rfl rfl ?_ | refine aR tabOk rfl rfl rfl (nb rfl) rfl rfl rfl rfl (by first | assumption | omega) ?_ | refine aJ tabOk rfl rfl rfl (nb rfl) rfl rfl rfl rfl (by first | rfl | omega) (by first | omega | simp) ?_ | refine aC tabOk rfl rfl rfl (nb rfl) rfl rfl rfl (by assumption) ?_ | refine aC tabOk rfl rfl rfl (nb rfl) rfl rfl rfl (bS _ _ (by first | assumption | omega)) ?_ | refine aE rfl rfl rfl (nb rfl) rfl rfl (by omega) ?_ | ((fail_if_success (refine aG (b := true) rfl rfl rfl ?_)); (fail_if_success (refine aG (b := false) rfl rfl rfl ?_)); refine aW rfl rfl rfl (fun hq => ?_) (fun hq => ?_) <;> first | subst hq | (first | (simp only [sD, sE, sB, sC, sN, sM, sT, sF] at hq; try (exfalso; omega)) | skip)) | fail) | (refine bW ?_; first | refine bN ?_ | refine bT ?_ | refine aQ ?_ | refine bD ?_ | refine bU ?_ | refine bL ?_ | refine bK ?_ | refine aA (b := true) rfl (fun _ => ?_) nTf | refine aA (b := false) rfl nFt (fun _ => ?_) | refine bE ?_ | refine bC ?_ | refine bA mixed (by kernel_rfl) ?_ | refine aD mixed (by kernel_rfl) ?_ | (refine aA rfl (fun hq => ?_) (fun hq => ?_) <;> first | subst hq | (first | (simp only [sD, sE, sB, sC, sN, sM, sT, sF] at hq; try (exfalso; omega)) | skip)) | fail) | (refine bQ ?_; first | refine bZ ?_ | refine aK ?_ | refine aT ?_ | fail) | (refine bG ?_; first | refine bV ?_ | refine aH ?_ | refine aI (by decide) ?_ | refine aM ?_ | fail) | refine bR (bB (by kernel_rfl)) ?_ | fail)
    all_goals (refine cA (by first | exact .inl rfl | exact .inr rfl) (cB rfl (aY rfl)) rfl ?_; refine cK ?_; by_cases h2 : kids.length = 2 <;> first | (obtain ⟨x, y, rfl⟩ := two h2; simp_all [isConP, isCons, isCon2]; done) | (exfalso; omega) | (simp_all [isConP, eI]; done) | (simp_all [isConP, eI]; omega) | (rw [isConP]; cases hk : (k == 110) <;> simp_all; done))
end Go.Proofs.Ytlbemgokilhdnaa.Ab
namespace Go.Proofs.Ytlbemgokilhdnaa.Ab
set_option linter.unusedVariables false
set_option linter.unusedSimpArgs false
attribute [local irreducible] AWP AOps AExit AThen ABlock ANoGoto FeetOk
mutual
/-- The answer, and what is left. -/
def wholeP : Tree → Int → Int × Int
  | .nil, l => (1, l)
  | .node _ _ _ _ kids, l => if l - 1 < 0 then (3, l - 1) else wholePs kids (l - 1)
def wholePs : List Tree → Int → Int × Int
  | [], l => (0, l)
  | t :: ts, l => if (wholeP t l).1 = 0 then wholePs ts (wholeP t l).2 else wholeP t l
end
theorem gJ {l : List Tree} {x : Int} {j : Nat} (hj : j < l.length) (h : (wholePs (l.take j) x).1 = 0) : wholePs (l.take (j + 1)) x = wholeP l[j] (wholePs (l.take j) x).2 := by
  induction l generalizing x j with
  | nil => simp at hj
  | cons t ts ih =>
    cases j with
    | zero =>
      simp only [List.take_zero, wholePs, List.take_succ_cons, List.getElem_cons_zero]
      split
      · rename_i e; exact Prod.ext e.symm rfl
      · rfl
    | succ j =>
      simp only [List.take_succ_cons, wholePs, List.getElem_cons_succ] at h ⊢
      split
      · rename_i e
        rw [if_pos e] at h
        exact ih (by simpa using hj) h
      · rename_i e
        rw [if_neg e] at h
        exact absurd h e
theorem gK {l : List Tree} {x : Int} {j : Nat} (hj : j < l.length) (h : (wholePs (l.take j) x).1 = 0) (h2 : (wholeP l[j] (wholePs (l.take j) x).2).1 ≠ 0) : wholePs l x = wholeP l[j] (wholePs (l.take j) x).2 := by
  induction l generalizing x j with
  | nil => simp at hj
  | cons t ts ih =>
    cases j with
    | zero =>
      simp only [List.take_zero, wholePs, List.getElem_cons_zero] at h2 ⊢
      rw [if_neg h2]
    | succ j =>
      simp only [List.take_succ_cons, wholePs, List.getElem_cons_succ] at h h2 ⊢
      split
      · rename_i e
        rw [if_pos e] at h h2
        exact ih (by simpa using hj) h h2
      · rename_i e
        rw [if_neg e] at h
        exact absurd h e
theorem gL (t : Tree) : ∀ l, 0 ≤ l → (wholeP t l).1 = 0 → 0 ≤ (wholeP t l).2 ∧ (wholeP t l).2 + 1 ≤ l := by
  induction t using Tree.ind with
  | h1 => intro l _ h; simp [wholeP] at h
  | h2 k n a b kids ih =>
    intro l hl h
    rw [wholeP] at h ⊢
    split at h
    · cases h
    · rename_i hn
      rw [if_neg hn]
      have key : ∀ (ts : List Tree) (x : Int), (∀ t ∈ ts, t ∈ kids) → 0 ≤ x → (wholePs ts x).1 = 0 → 0 ≤ (wholePs ts x).2 ∧ (wholePs ts x).2 + ts.length ≤ x := by
        intro ts
        induction ts with
        | nil => intro x _ hx _; simp [wholePs, hx]
        | cons t ts ih2 =>
          intro x hm hx he
          rw [wholePs] at he ⊢
          split at he
          · rename_i e
            rw [if_pos e]
            have h1 := ih t (hm t (by simp)) x hx e
            have h2 := ih2 (wholeP t x).2 (fun t' ht' => hm t' (by simp [ht'])) h1.1 he
            simp only [List.length_cons]
            omega
          · rename_i e; exact absurd he e
      have := key kids (l - 1) (fun _ h => h) (by omega) h
      omega
theorem eY (ts : List Tree) : ∀ x, 0 ≤ x → (wholePs ts x).1 = 0 → 0 ≤ (wholePs ts x).2 ∧ (wholePs ts x).2 + ts.length ≤ x := by
  induction ts with
  | nil => intro x hx _; simp [wholePs, hx]
  | cons t ts ih =>
    intro x hx he
    rw [wholePs] at he ⊢
    split at he
    · rename_i e
      rw [if_pos e]
      have h1 := gL t x hx e
      have h2 := ih (wholeP t x).2 h1.1 he
      simp only [List.length_cons]
      omega
    · rename_i e; exact absurd he e
theorem jA (ts : List Tree) (x : Int) (hx : 0 ≤ x) (h : (wholePs ts x).1 = 0) : 0 ≤ (wholePs ts x).2 ∧ (wholePs ts x).2 ≤ x := by have := eY ts x hx h; omega
set_option maxHeartbeats 4000000 in
set_option maxRecDepth 10000 in
theorem vY (t : Tree) : ∀ l : Int, t.size ≤ 1000000 → -1000000 ≤ l → l ≤ 1000000 → ACalls Try.prog 76 [.imm t.iv, .obj 1000 0] [(1000, .cells [.imm (.lit (.int .i64 l))])] (.imm (.lit (.int .i64 (wholeP t l).1))) [(1000, .cells [.imm (.lit (.int .i64 (wholeP t l).2))])] := by
  induction t using Tree.ind with
  | h1 =>
    intro l hs h1 h2
    refine gF Try.func76 rfl rfl (nb rfl) rfl rfl ?_
    repeat' (first | refine bM ?_ | (refine bP ?_; first | refine aX tabOk rfl rfl rfl (nb rfl) rfl ?_ | refine bF rfl rfl (nb rfl) ?_ | (refine bO rfl rfl rfl (nb rfl) rfl rfl rfl (fun hq => ?_) (fun hq => ?_) <;> (first | (simp only [sD, sE, sB, sC, sN, sM, sT, sF] at hq; try (exfalso; omega)) | skip)) | refine aE rfl rfl rfl (nb rfl) rfl rfl (by omega) ?_ | refine bI rfl rfl rfl (nb rfl) rfl rfl rfl (by omega) (by omega) ?_ | refine bJ rfl rfl rfl (nb rfl) rfl rfl rfl (by omega) (by omega) ?_ | refine bH tabOk rfl rfl rfl (nb rfl) rfl rfl rfl rfl rfl rfl rfl rfl rfl ?_ | refine aZ tabOk rfl rfl (nb rfl) rfl ?_ | refine aU tabOk rfl rfl rfl (nb rfl) rfl rfl rfl rfl rfl rfl ?_ | refine aV tabOk rfl rfl rfl (nb rfl) rfl rfl rfl rfl ?_ | refine aN tabOk rfl rfl rfl rfl rfl rfl rfl rfl rfl rfl rfl ?_ | refine aR tabOk rfl rfl rfl (nb rfl) rfl rfl rfl rfl (by first | assumption | omega) ?_ | refine aJ tabOk rfl rfl rfl (nb rfl) rfl rfl rfl rfl (by first | rfl | omega) (by first | omega | simp) ?_ | refine aC tabOk rfl rfl rfl (nb rfl) rfl rfl rfl (by assumption) ?_ | refine aC tabOk rfl rfl rfl (nb rfl) rfl rfl rfl (bS _ _ (by first | assumption | omega)) ?_ | refine aE rfl rfl rfl (nb rfl) rfl rfl (by omega) ?_ | ((fail_if_success (refine aG (b := true) rfl rfl rfl ?_)); (fail_if_success (refine aG (b := false) rfl rfl rfl ?_)); refine aW rfl rfl rfl (fun hq => ?_) (fun hq => ?_) <;> first | subst hq | (first | (simp only [sD, sE, sB, sC, sN, sM, sT, sF] at hq; try (exfalso; omega)) | skip)) | fail) | (refine bW ?_; first | refine bN ?_ | refine bT ?_ | refine aQ ?_ | refine bD ?_ | refine bU ?_ | refine bL ?_ | refine bK ?_ | refine aA (b := true) rfl (fun _ => ?_) nTf | refine aA (b := false) rfl nFt (fun _ => ?_) | refine bE ?_ | refine bC ?_ | refine bA mixed (by kernel_rfl) ?_ | refine aD mixed (by kernel_rfl) ?_ | (refine aA rfl (fun hq => ?_) (fun hq => ?_) <;> first | subst hq | (first | (simp only [sD, sE, sB, sC, sN, sM, sT, sF] at hq; try (exfalso; omega)) | skip)) | fail) | (refine bQ ?_; first | refine bZ ?_ | refine aK ?_ | refine aT ?_ | fail) | (refine bG ?_; first | refine bV ?_ | refine aH ?_ | refine aI (by decide) ?_ | refine aM ?_ | fail) | refine bR (bB (by kernel_rfl)) ?_ | fail)
    all_goals (refine dY (cs := []) (by first | exact .inl rfl | exact .inr rfl) (cB rfl (aY rfl)) rfl rfl rfl ?_; rfl)
  | h2 k n a b kids ih =>
    intro l hs h1 h2
    refine gF Try.func76 rfl rfl (nb rfl) rfl rfl ?_
    repeat' (first | refine bM ?_ | (refine bP ?_; first | refine aX tabOk rfl rfl rfl (nb rfl) rfl ?_ | refine bF rfl rfl (nb rfl) ?_ | (refine bO rfl rfl rfl (nb rfl) rfl rfl rfl (fun hq => ?_) (fun hq => ?_) <;> (first | (simp only [sD, sE, sB, sC, sN, sM, sT, sF] at hq; try (exfalso; omega)) | skip)) | refine aE rfl rfl rfl (nb rfl) rfl rfl (by omega) ?_ | refine bI rfl rfl rfl (nb rfl) rfl rfl rfl (by omega) (by omega) ?_ | refine bJ rfl rfl rfl (nb rfl) rfl rfl rfl (by omega) (by omega) ?_ | refine bH tabOk rfl rfl rfl (nb rfl) rfl rfl rfl rfl rfl rfl rfl rfl rfl ?_ | refine aZ tabOk rfl rfl (nb rfl) rfl ?_ | refine aU tabOk rfl rfl rfl (nb rfl) rfl rfl rfl rfl rfl rfl ?_ | refine aV tabOk rfl rfl rfl (nb rfl) rfl rfl rfl rfl ?_ | refine aN tabOk rfl rfl rfl rfl rfl rfl rfl rfl rfl rfl rfl ?_ | refine aR tabOk rfl rfl rfl (nb rfl) rfl rfl rfl rfl (by first | assumption | omega) ?_ | refine aJ tabOk rfl rfl rfl (nb rfl) rfl rfl rfl rfl (by first | rfl | omega) (by first | omega | simp) ?_ | refine aC tabOk rfl rfl rfl (nb rfl) rfl rfl rfl (by assumption) ?_ | refine aC tabOk rfl rfl rfl (nb rfl) rfl rfl rfl (bS _ _ (by first | assumption | omega)) ?_ | refine aE rfl rfl rfl (nb rfl) rfl rfl (by omega) ?_ | ((fail_if_success (refine aG (b := true) rfl rfl rfl ?_)); (fail_if_success (refine aG (b := false) rfl rfl rfl ?_)); refine aW rfl rfl rfl (fun hq => ?_) (fun hq => ?_) <;> first | subst hq | (first | (simp only [sD, sE, sB, sC, sN, sM, sT, sF] at hq; try (exfalso; omega)) | skip)) | fail) | (refine bW ?_; first | refine bN ?_ | refine bT ?_ | refine aQ ?_ | refine bD ?_ | refine bU ?_ | refine bL ?_ | refine bK ?_ | refine aA (b := true) rfl (fun _ => ?_) nTf | refine aA (b := false) rfl nFt (fun _ => ?_) | refine bE ?_ | refine bC ?_ | refine bA mixed (by kernel_rfl) ?_ | refine aD mixed (by kernel_rfl) ?_ | (refine aA rfl (fun hq => ?_) (fun hq => ?_) <;> first | subst hq | (first | (simp only [sD, sE, sB, sC, sN, sM, sT, sF] at hq; try (exfalso; omega)) | skip)) | fail) | (refine bQ ?_; first | refine bZ ?_ | refine aK ?_ | refine aT ?_ | fail) | (refine bG ?_; first | refine bV ?_ | refine aH ?_ | refine aI (by decide) ?_ | refine aM ?_ | fail) | refine bR (bB (by kernel_rfl)) ?_ | fail)
    · rw [show wholeP (.node k n a b kids) l = (3, l - 1) from if_pos (by omega)]
      refine dY (cs := []) (by first | exact .inl rfl | exact .inr rfl) (cB rfl (aY rfl)) rfl rfl rfl ?_; rfl
    · rename_i hq
      have e0 : wholeP (.node k n a b kids) l = wholePs kids (l - 1) := if_neg (by omega)
      rw [e0]
      have hlen : kids.length < 9223372036854775807 ∨ kids.length ≥ 9223372036854775807 := by omega
      refine cH (ι := {j : Nat // j ≤ kids.length ∧ (wholePs (kids.take j) (l - 1)).1 = 0}) (fun j => S.f ⟨[(24, .imm (.lit (.int .i64 (j.1 : Int)))), (23, .imm (.lit (.int .i64 (kids.length : Int)))), (22, .imm (.sl false kids.length (Tree.ivs kids))), (1, .obj 1000 0)], [(1000, .cells [.imm (.lit (.int .i64 (wholePs (kids.take j.1) (l - 1)).2))])]⟩) (fun j => kids.length - j.1) ⟨0, Nat.zero_le _, by rw [List.take_zero, wholePs]⟩ (cF (by repeat' first | exact trivial | refine ⟨rfl, ?_⟩) (by repeat' first | exact trivial | refine ⟨rfl, ?_⟩)) ?_
      rintro ⟨j, hj, hok⟩
      dsimp only
      by_cases hlt : j < kids.length
      · have hm := List.getElem_mem hlt
        have hsz := cG (k := k) (n := n) (a := a) (b := b) hm
        have hbd := jA (kids.take j) (l - 1) (by omega) hok
        have hjl : j < 9223372036854775807 := by
          by_cases hj0 : j < 9223372036854775807
          · exact hj0
          · exfalso
            have := eY (kids.take j) (l - 1) (by omega) hok
            rw [List.length_take] at this
            omega
        repeat' (first | refine bM ?_ | (refine bP ?_; first | refine aX tabOk rfl rfl rfl (nb rfl) rfl ?_ | refine bF rfl rfl (nb rfl) ?_ | (refine bO rfl rfl rfl (nb rfl) rfl rfl rfl (fun hq => ?_) (fun hq => ?_) <;> (first | (simp only [sD, sE, sB, sC, sN, sM, sT, sF] at hq; try (exfalso; omega)) | skip))| refine cL rfl rfl (nb rfl) rfl rfl rfl rfl (ih _ hm (wholePs (kids.take j) (l - 1)).2 (by omega) (by omega) (by omega)) (by exact ⟨rfl, trivial⟩) rfl (by simp) ?_ | refine aE rfl rfl rfl (nb rfl) rfl rfl (by omega) ?_ | refine bI rfl rfl rfl (nb rfl) rfl rfl rfl (by omega) (by omega) ?_ | refine bJ rfl rfl rfl (nb rfl) rfl rfl rfl (by omega) (by omega) ?_ | refine bH tabOk rfl rfl rfl (nb rfl) rfl rfl rfl rfl rfl rfl rfl rfl rfl ?_ | refine aZ tabOk rfl rfl (nb rfl) rfl ?_ | refine aU tabOk rfl rfl rfl (nb rfl) rfl rfl rfl rfl rfl rfl ?_ | refine aV tabOk rfl rfl rfl (nb rfl) rfl rfl rfl rfl ?_ | refine aN tabOk rfl rfl rfl rfl rfl rfl rfl rfl rfl rfl rfl ?_ | refine aR tabOk rfl rfl rfl (nb rfl) rfl rfl rfl rfl (by first | assumption | omega) ?_ | refine aJ tabOk rfl rfl rfl (nb rfl) rfl rfl rfl rfl (by first | rfl | omega) (by first | omega | simp) ?_ | refine aC tabOk rfl rfl rfl (nb rfl) rfl rfl rfl (by assumption) ?_ | refine aC tabOk rfl rfl rfl (nb rfl) rfl rfl rfl (bS _ _ (by first | assumption | omega)) ?_ | refine aE rfl rfl rfl (nb rfl) rfl rfl (by omega) ?_ | ((fail_if_success (refine aG (b := true) rfl rfl rfl ?_)); (fail_if_success (refine aG (b := false) rfl rfl rfl ?_)); refine aW rfl rfl rfl (fun hq => ?_) (fun hq => ?_) <;> first | subst hq | (first | (simp only [sD, sE, sB, sC, sN, sM, sT, sF] at hq; try (exfalso; omega)) | skip)) | fail) | (refine bW ?_; first | refine bN ?_ | refine bT ?_ | refine aQ ?_ | refine bD ?_ | refine bU ?_ | refine bL ?_ | refine bK ?_ | refine aA (b := true) rfl (fun _ => ?_) nTf | refine aA (b := false) rfl nFt (fun _ => ?_) | refine bE ?_ | refine bC ?_ | refine bA mixed (by kernel_rfl) ?_ | refine aD mixed (by kernel_rfl) ?_ | (refine aA rfl (fun hq => ?_) (fun hq => ?_) <;> first | subst hq | (first | (simp only [sD, sE, sB, sC, sN, sM, sT, sF] at hq; try (exfalso; omega)) | skip)) | fail) | (refine bQ ?_; first | refine bZ ?_ | refine aK ?_ | refine aT ?_ | fail) | (refine bG ?_; first | refine bV ?_ | refine aH ?_ | refine aI (by decide) ?_ | refine aM ?_ | fail) | refine bR (bB (by kernel_rfl)) ?_ | fail)
        all_goals first
          | (have hq : (wholeP kids[j] (wholePs (kids.take j) (l - 1)).2).1 ≠ 0 := by assumption
             have hst := gK hlt hok hq; rw [hst]; refine dY (cs := []) (by first | exact .inl rfl | exact .inr rfl) (cB rfl (aY rfl)) rfl rfl rfl ?_; rfl; done)
          | (have hq : (wholeP kids[j] (wholePs (kids.take j) (l - 1)).2).1 = 0 := by assumption
             have hst := gJ hlt hok; exact ⟨⟨j + 1, hlt, by rw [hst]; exact hq⟩, (by show kids.length - (j + 1) < kids.length - j; omega), (cF (by repeat' first | exact trivial | refine ⟨rfl, ?_⟩) (by rw [hst]; exact ⟨rfl, trivial⟩))⟩)
      · repeat' (first | refine bM ?_ | (refine bP ?_; first | refine aX tabOk rfl rfl rfl (nb rfl) rfl ?_ | refine bF rfl rfl (nb rfl) ?_ | (refine bO rfl rfl rfl (nb rfl) rfl rfl rfl (fun hq => ?_) (fun hq => ?_) <;> (first | (simp only [sD, sE, sB, sC, sN, sM, sT, sF] at hq; try (exfalso; omega)) | skip)) | refine aE rfl rfl rfl (nb rfl) rfl rfl (by omega) ?_ | refine bI rfl rfl rfl (nb rfl) rfl rfl rfl (by omega) (by omega) ?_ | refine bJ rfl rfl rfl (nb rfl) rfl rfl rfl (by omega) (by omega) ?_ | refine bH tabOk rfl rfl rfl (nb rfl) rfl rfl rfl rfl rfl rfl rfl rfl rfl ?_ | refine aZ tabOk rfl rfl (nb rfl) rfl ?_ | refine aU tabOk rfl rfl rfl (nb rfl) rfl rfl rfl rfl rfl rfl ?_ | refine aV tabOk rfl rfl rfl (nb rfl) rfl rfl rfl rfl ?_ | refine aN tabOk rfl rfl rfl rfl rfl rfl rfl rfl rfl rfl rfl ?_ | refine aR tabOk rfl rfl rfl (nb rfl) rfl rfl rfl rfl (by first | assumption | omega) ?_ | refine aJ tabOk rfl rfl rfl (nb rfl) rfl rfl rfl rfl (by first | rfl | omega) (by first | omega | simp) ?_ | refine aC tabOk rfl rfl rfl (nb rfl) rfl rfl rfl (by assumption) ?_ | refine aC tabOk rfl rfl rfl (nb rfl) rfl rfl rfl (bS _ _ (by first | assumption | omega)) ?_ | refine aE rfl rfl rfl (nb rfl) rfl rfl (by omega) ?_ | ((fail_if_success (refine aG (b := true) rfl rfl rfl ?_)); (fail_if_success (refine aG (b := false) rfl rfl rfl ?_)); refine aW rfl rfl rfl (fun hq => ?_) (fun hq => ?_) <;> first | subst hq | (first | (simp only [sD, sE, sB, sC, sN, sM, sT, sF] at hq; try (exfalso; omega)) | skip)) | fail) | (refine bW ?_; first | refine bN ?_ | refine bT ?_ | refine aQ ?_ | refine bD ?_ | refine bU ?_ | refine bL ?_ | refine bK ?_ | refine aA (b := true) rfl (fun _ => ?_) nTf | refine aA (b := false) rfl nFt (fun _ => ?_) | refine bE ?_ | refine bC ?_ | refine bA mixed (by kernel_rfl) ?_ | refine aD mixed (by kernel_rfl) ?_ | (refine aA rfl (fun hq => ?_) (fun hq => ?_) <;> first | subst hq | (first | (simp only [sD, sE, sB, sC, sN, sM, sT, sF] at hq; try (exfalso; omega)) | skip)) | fail) | (refine bQ ?_; first | refine bZ ?_ | refine aK ?_ | refine aT ?_ | fail) | (refine bG ?_; first | refine bV ?_ | refine aH ?_ | refine aI (by decide) ?_ | refine aM ?_ | fail) | refine bR (bB (by kernel_rfl)) ?_ | fail)
        all_goals (have e1 : kids.take j = kids := List.take_of_length_le (by omega); rw [e1] at hok ⊢; refine dY (cs := []) (by first | exact .inl rfl | exact .inr rfl) (cB rfl (aY rfl)) rfl rfl rfl ?_; exact kE hok.symm)
set_option maxHeartbeats 4000000 in
set_option maxRecDepth 10000 in
theorem tO (t : Tree) : ∀ l : Int, t.size ≤ 1000000 → -1000000 ≤ l → l ≤ 1000000 → ACalls Try.prog 56 [.imm t.iv, .obj 1000 0] [(1000, .cells [.imm (.lit (.int .i64 l))])] (.imm (.lit (.int .i64 (wholeP t l).1))) [(1000, .cells [.imm (.lit (.int .i64 (wholeP t l).2))])] := by
  induction t using Tree.ind with
  | h1 =>
    intro l hs h1 h2
    refine gF Try.func56 rfl rfl (nb rfl) rfl rfl ?_
    repeat' (first | refine bM ?_ | (refine bP ?_; first | refine aX tabOk rfl rfl rfl (nb rfl) rfl ?_ | refine bF rfl rfl (nb rfl) ?_ | (refine bO rfl rfl rfl (nb rfl) rfl rfl rfl (fun hq => ?_) (fun hq => ?_) <;> (first | (simp only [sD, sE, sB, sC, sN, sM, sT, sF] at hq; try (exfalso; omega)) | skip)) | refine aE rfl rfl rfl (nb rfl) rfl rfl (by omega) ?_ | refine bI rfl rfl rfl (nb rfl) rfl rfl rfl (by omega) (by omega) ?_ | refine bJ rfl rfl rfl (nb rfl) rfl rfl rfl (by omega) (by omega) ?_ | refine bH tabOk rfl rfl rfl (nb rfl) rfl rfl rfl rfl rfl rfl rfl rfl rfl ?_ | refine aZ tabOk rfl rfl (nb rfl) rfl ?_ | refine aU tabOk rfl rfl rfl (nb rfl) rfl rfl rfl rfl rfl rfl ?_ | refine aV tabOk rfl rfl rfl (nb rfl) rfl rfl rfl rfl ?_ | refine aN tabOk rfl rfl rfl rfl rfl rfl rfl rfl rfl rfl rfl ?_ | refine aR tabOk rfl rfl rfl (nb rfl) rfl rfl rfl rfl (by first | assumption | omega) ?_ | refine aJ tabOk rfl rfl rfl (nb rfl) rfl rfl rfl rfl (by first | rfl | omega) (by first | omega | simp) ?_ | refine aC tabOk rfl rfl rfl (nb rfl) rfl rfl rfl (by assumption) ?_ | refine aC tabOk rfl rfl rfl (nb rfl) rfl rfl rfl (bS _ _ (by first | assumption | omega)) ?_ | refine aE rfl rfl rfl (nb rfl) rfl rfl (by omega) ?_ | ((fail_if_success (refine aG (b := true) rfl rfl rfl ?_)); (fail_if_success (refine aG (b := false) rfl rfl rfl ?_)); refine aW rfl rfl rfl (fun hq => ?_) (fun hq => ?_) <;> first | subst hq | (first | (simp only [sD, sE, sB, sC, sN, sM, sT, sF] at hq; try (exfalso; omega)) | skip)) | fail) | (refine bW ?_; first | refine bN ?_ | refine bT ?_ | refine aQ ?_ | refine bD ?_ | refine bU ?_ | refine bL ?_ | refine bK ?_ | refine aA (b := true) rfl (fun _ => ?_) nTf | refine aA (b := false) rfl nFt (fun _ => ?_) | refine bE ?_ | refine bC ?_ | refine bA mixed (by kernel_rfl) ?_ | refine aD mixed (by kernel_rfl) ?_ | (refine aA rfl (fun hq => ?_) (fun hq => ?_) <;> first | subst hq | (first | (simp only [sD, sE, sB, sC, sN, sM, sT, sF] at hq; try (exfalso; omega)) | skip)) | fail) | (refine bQ ?_; first | refine bZ ?_ | refine aK ?_ | refine aT ?_ | fail) | (refine bG ?_; first | refine bV ?_ | refine aH ?_ | refine aI (by decide) ?_ | refine aM ?_ | fail) | refine bR (bB (by kernel_rfl)) ?_ | fail)
    all_goals (refine dY (cs := []) (by first | exact .inl rfl | exact .inr rfl) (cB rfl (aY rfl)) rfl rfl rfl ?_; rfl)
  | h2 k n a b kids ih =>
    intro l hs h1 h2
    refine gF Try.func56 rfl rfl (nb rfl) rfl rfl ?_
    repeat' (first | refine bM ?_ | (refine bP ?_; first | refine aX tabOk rfl rfl rfl (nb rfl) rfl ?_ | refine bF rfl rfl (nb rfl) ?_ | (refine bO rfl rfl rfl (nb rfl) rfl rfl rfl (fun hq => ?_) (fun hq => ?_) <;> (first | (simp only [sD, sE, sB, sC, sN, sM, sT, sF] at hq; try (exfalso; omega)) | skip)) | refine aE rfl rfl rfl (nb rfl) rfl rfl (by omega) ?_ | refine bI rfl rfl rfl (nb rfl) rfl rfl rfl (by omega) (by omega) ?_ | refine bJ rfl rfl rfl (nb rfl) rfl rfl rfl (by omega) (by omega) ?_ | refine bH tabOk rfl rfl rfl (nb rfl) rfl rfl rfl rfl rfl rfl rfl rfl rfl ?_ | refine aZ tabOk rfl rfl (nb rfl) rfl ?_ | refine aU tabOk rfl rfl rfl (nb rfl) rfl rfl rfl rfl rfl rfl ?_ | refine aV tabOk rfl rfl rfl (nb rfl) rfl rfl rfl rfl ?_ | refine aN tabOk rfl rfl rfl rfl rfl rfl rfl rfl rfl rfl rfl ?_ | refine aR tabOk rfl rfl rfl (nb rfl) rfl rfl rfl rfl (by first | assumption | omega) ?_ | refine aJ tabOk rfl rfl rfl (nb rfl) rfl rfl rfl rfl (by first | rfl | omega) (by first | omega | simp) ?_ | refine aC tabOk rfl rfl rfl (nb rfl) rfl rfl rfl (by assumption) ?_ | refine aC tabOk rfl rfl rfl (nb rfl) rfl rfl rfl (bS _ _ (by first | assumption | omega)) ?_ | refine aE rfl rfl rfl (nb rfl) rfl rfl (by omega) ?_ | ((fail_if_success (refine aG (b := true) rfl rfl rfl ?_)); (fail_if_success (refine aG (b := false) rfl rfl rfl ?_)); refine aW rfl rfl rfl (fun hq => ?_) (fun hq => ?_) <;> first | subst hq | (first | (simp only [sD, sE, sB, sC, sN, sM, sT, sF] at hq; try (exfalso; omega)) | skip)) | fail) | (refine bW ?_; first | refine bN ?_ | refine bT ?_ | refine aQ ?_ | refine bD ?_ | refine bU ?_ | refine bL ?_ | refine bK ?_ | refine aA (b := true) rfl (fun _ => ?_) nTf | refine aA (b := false) rfl nFt (fun _ => ?_) | refine bE ?_ | refine bC ?_ | refine bA mixed (by kernel_rfl) ?_ | refine aD mixed (by kernel_rfl) ?_ | (refine aA rfl (fun hq => ?_) (fun hq => ?_) <;> first | subst hq | (first | (simp only [sD, sE, sB, sC, sN, sM, sT, sF] at hq; try (exfalso; omega)) | skip)) | fail) | (refine bQ ?_; first | refine bZ ?_ | refine aK ?_ | refine aT ?_ | fail) | (refine bG ?_; first | refine bV ?_ | refine aH ?_ | refine aI (by decide) ?_ | refine aM ?_ | fail) | refine bR (bB (by kernel_rfl)) ?_ | fail)
    · rw [show wholeP (.node k n a b kids) l = (3, l - 1) from if_pos (by omega)]
      refine dY (cs := []) (by first | exact .inl rfl | exact .inr rfl) (cB rfl (aY rfl)) rfl rfl rfl ?_; rfl
    · rename_i hq
      have e0 : wholeP (.node k n a b kids) l = wholePs kids (l - 1) := if_neg (by omega)
      rw [e0]
      have hlen : kids.length < 9223372036854775807 ∨ kids.length ≥ 9223372036854775807 := by omega
      refine cH (ι := {j : Nat // j ≤ kids.length ∧ (wholePs (kids.take j) (l - 1)).1 = 0}) (fun j => S.f ⟨[(24, .imm (.lit (.int .i64 (j.1 : Int)))), (23, .imm (.lit (.int .i64 (kids.length : Int)))), (22, .imm (.sl false kids.length (Tree.ivs kids))), (1, .obj 1000 0)], [(1000, .cells [.imm (.lit (.int .i64 (wholePs (kids.take j.1) (l - 1)).2))])]⟩) (fun j => kids.length - j.1) ⟨0, Nat.zero_le _, by rw [List.take_zero, wholePs]⟩ (cF (by repeat' first | exact trivial | refine ⟨rfl, ?_⟩) (by repeat' first | exact trivial | refine ⟨rfl, ?_⟩)) ?_
      rintro ⟨j, hj, hok⟩
      dsimp only
      by_cases hlt : j < kids.length
      · have hm := List.getElem_mem hlt
        have hsz := cG (k := k) (n := n) (a := a) (b := b) hm
        have hbd := jA (kids.take j) (l - 1) (by omega) hok
        have hjl : j < 9223372036854775807 := by
          by_cases hj0 : j < 9223372036854775807
          · exact hj0
          · exfalso
            have := eY (kids.take j) (l - 1) (by omega) hok
            rw [List.length_take] at this
            omega
        repeat' (first | refine bM ?_ | (refine bP ?_; first | refine aX tabOk rfl rfl rfl (nb rfl) rfl ?_ | refine bF rfl rfl (nb rfl) ?_ | (refine bO rfl rfl rfl (nb rfl) rfl rfl rfl (fun hq => ?_) (fun hq => ?_) <;> (first | (simp only [sD, sE, sB, sC, sN, sM, sT, sF] at hq; try (exfalso; omega)) | skip))| refine cL rfl rfl (nb rfl) rfl rfl rfl rfl (ih _ hm (wholePs (kids.take j) (l - 1)).2 (by omega) (by omega) (by omega)) (by exact ⟨rfl, trivial⟩) rfl (by simp) ?_ | refine aE rfl rfl rfl (nb rfl) rfl rfl (by omega) ?_ | refine bI rfl rfl rfl (nb rfl) rfl rfl rfl (by omega) (by omega) ?_ | refine bJ rfl rfl rfl (nb rfl) rfl rfl rfl (by omega) (by omega) ?_ | refine bH tabOk rfl rfl rfl (nb rfl) rfl rfl rfl rfl rfl rfl rfl rfl rfl ?_ | refine aZ tabOk rfl rfl (nb rfl) rfl ?_ | refine aU tabOk rfl rfl rfl (nb rfl) rfl rfl rfl rfl rfl rfl ?_ | refine aV tabOk rfl rfl rfl (nb rfl) rfl rfl rfl rfl ?_ | refine aN tabOk rfl rfl rfl rfl rfl rfl rfl rfl rfl rfl rfl ?_ | refine aR tabOk rfl rfl rfl (nb rfl) rfl rfl rfl rfl (by first | assumption | omega) ?_ | refine aJ tabOk rfl rfl rfl (nb rfl) rfl rfl rfl rfl (by first | rfl | omega) (by first | omega | simp) ?_ | refine aC tabOk rfl rfl rfl (nb rfl) rfl rfl rfl (by assumption) ?_ | refine aC tabOk rfl rfl rfl (nb rfl) rfl rfl rfl (bS _ _ (by first | assumption | omega)) ?_ | refine aE rfl rfl rfl (nb rfl) rfl rfl (by omega) ?_ | ((fail_if_success (refine aG (b := true) rfl rfl rfl ?_)); (fail_if_success (refine aG (b := false) rfl rfl rfl ?_)); refine aW rfl rfl rfl (fun hq => ?_) (fun hq => ?_) <;> first | subst hq | (first | (simp only [sD, sE, sB, sC, sN, sM, sT, sF] at hq; try (exfalso; omega)) | skip)) | fail) | (refine bW ?_; first | refine bN ?_ | refine bT ?_ | refine aQ ?_ | refine bD ?_ | refine bU ?_ | refine bL ?_ | refine bK ?_ | refine aA (b := true) rfl (fun _ => ?_) nTf | refine aA (b := false) rfl nFt (fun _ => ?_) | refine bE ?_ | refine bC ?_ | refine bA mixed (by kernel_rfl) ?_ | refine aD mixed (by kernel_rfl) ?_ | (refine aA rfl (fun hq => ?_) (fun hq => ?_) <;> first | subst hq | (first | (simp only [sD, sE, sB, sC, sN, sM, sT, sF] at hq; try (exfalso; omega)) | skip)) | fail) | (refine bQ ?_; first | refine bZ ?_ | refine aK ?_ | refine aT ?_ | fail) | (refine bG ?_; first | refine bV ?_ | refine aH ?_ | refine aI (by decide) ?_ | refine aM ?_ | fail) | refine bR (bB (by kernel_rfl)) ?_ | fail)
        all_goals first
          | (have hq : (wholeP kids[j] (wholePs (kids.take j) (l - 1)).2).1 ≠ 0 := by assumption
             have hst := gK hlt hok hq; rw [hst]; refine dY (cs := []) (by first | exact .inl rfl | exact .inr rfl) (cB rfl (aY rfl)) rfl rfl rfl ?_; rfl; done)
          | (have hq : (wholeP kids[j] (wholePs (kids.take j) (l - 1)).2).1 = 0 := by assumption
             have hst := gJ hlt hok; exact ⟨⟨j + 1, hlt, by rw [hst]; exact hq⟩, (by show kids.length - (j + 1) < kids.length - j; omega), (cF (by repeat' first | exact trivial | refine ⟨rfl, ?_⟩) (by rw [hst]; exact ⟨rfl, trivial⟩))⟩)
      · repeat' (first | refine bM ?_ | (refine bP ?_; first | refine aX tabOk rfl rfl rfl (nb rfl) rfl ?_ | refine bF rfl rfl (nb rfl) ?_ | (refine bO rfl rfl rfl (nb rfl) rfl rfl rfl (fun hq => ?_) (fun hq => ?_) <;> (first | (simp only [sD, sE, sB, sC, sN, sM, sT, sF] at hq; try (exfalso; omega)) | skip)) | refine aE rfl rfl rfl (nb rfl) rfl rfl (by omega) ?_ | refine bI rfl rfl rfl (nb rfl) rfl rfl rfl (by omega) (by omega) ?_ | refine bJ rfl rfl rfl (nb rfl) rfl rfl rfl (by omega) (by omega) ?_ | refine bH tabOk rfl rfl rfl (nb rfl) rfl rfl rfl rfl rfl rfl rfl rfl rfl ?_ | refine aZ tabOk rfl rfl (nb rfl) rfl ?_ | refine aU tabOk rfl rfl rfl (nb rfl) rfl rfl rfl rfl rfl rfl ?_ | refine aV tabOk rfl rfl rfl (nb rfl) rfl rfl rfl rfl ?_ | refine aN tabOk rfl rfl rfl rfl rfl rfl rfl rfl rfl rfl rfl ?_ | refine aR tabOk rfl rfl rfl (nb rfl) rfl rfl rfl rfl (by first | assumption | omega) ?_ | refine aJ tabOk rfl rfl rfl (nb rfl) rfl rfl rfl rfl (by first | rfl | omega) (by first | omega | simp) ?_ | refine aC tabOk rfl rfl rfl (nb rfl) rfl rfl rfl (by assumption) ?_ | refine aC tabOk rfl rfl rfl (nb rfl) rfl rfl rfl (bS _ _ (by first | assumption | omega)) ?_ | refine aE rfl rfl rfl (nb rfl) rfl rfl (by omega) ?_ | ((fail_if_success (refine aG (b := true) rfl rfl rfl ?_)); (fail_if_success (refine aG (b := false) rfl rfl rfl ?_)); refine aW rfl rfl rfl (fun hq => ?_) (fun hq => ?_) <;> first | subst hq | (first | (simp only [sD, sE, sB, sC, sN, sM, sT, sF] at hq; try (exfalso; omega)) | skip)) | fail) | (refine bW ?_; first | refine bN ?_ | refine bT ?_ | refine aQ ?_ | refine bD ?_ | refine bU ?_ | refine bL ?_ | refine bK ?_ | refine aA (b := true) rfl (fun _ => ?_) nTf | refine aA (b := false) rfl nFt (fun _ => ?_) | refine bE ?_ | refine bC ?_ | refine bA mixed (by kernel_rfl) ?_ | refine aD mixed (by kernel_rfl) ?_ | (refine aA rfl (fun hq => ?_) (fun hq => ?_) <;> first | subst hq | (first | (simp only [sD, sE, sB, sC, sN, sM, sT, sF] at hq; try (exfalso; omega)) | skip)) | fail) | (refine bQ ?_; first | refine bZ ?_ | refine aK ?_ | refine aT ?_ | fail) | (refine bG ?_; first | refine bV ?_ | refine aH ?_ | refine aI (by decide) ?_ | refine aM ?_ | fail) | refine bR (bB (by kernel_rfl)) ?_ | fail)
        all_goals (have e1 : kids.take j = kids := List.take_of_length_le (by omega); rw [e1] at hok ⊢; refine dY (cs := []) (by first | exact .inl rfl | exact .inr rfl) (cB rfl (aY rfl)) rfl rfl rfl ?_; exact kE hok.symm)
end Go.Proofs.Ytlbemgokilhdnaa.Ab
namespace Go.Proofs.Ytlbemgokilhdnaa.Ab
set_option linter.unusedVariables false
set_option linter.unusedSimpArgs false
attribute [local irreducible] AWP AOps AExit AThen ABlock ANoGoto FeetOk
theorem eD (t : Tree) : ∀ l, (wholeP t l).1 = 0 → t.whole = true := by
  induction t using Tree.ind with
  | h1 => intro l h; simp [wholeP] at h
  | h2 k n a b kids ih =>
    intro l h
    rw [wholeP] at h
    split at h
    · cases h
    · have key : ∀ (ts : List Tree) (x : Int), (∀ t ∈ ts, t ∈ kids) → (wholePs ts x).1 = 0 → Tree.wholes ts = true := by
        intro ts
        induction ts with
        | nil => intro x _ _; rfl
        | cons t ts ih2 =>
          intro x hm he
          rw [wholePs] at he
          split at he
          · rename_i e
            simp only [Tree.wholes, Bool.and_eq_true]
            exact ⟨ih t (hm t (by simp)) x e, ih2 _ (fun t' ht' => hm t' (by simp [ht'])) he⟩
          · rename_i e; exact absurd he e
      exact key kids _ (fun _ h => h) h
def checkP (form : Tree → Bool) (t : Tree) : Int := if (wholeP t 65536).1 = 0 then (if form t then 0 else 16) else (wholeP t 65536).1
set_option maxHeartbeats 4000000 in
set_option maxRecDepth 10000 in
theorem oP (t : Tree) (f : FuncId) (form : Tree → Bool) (hs : t.size ≤ 1000000) (hf : t.whole = true → ACalls Try.prog f [.imm t.iv] [] (.imm (.lit (.bool (form t)))) []) :
    ACalls Try.prog 48 [.imm t.iv, .imm (.func f [] [])] [] (.imm (.lit (.int .i64 (checkP form t)))) [] := by
  refine bY Try.func48 rfl rfl (nb rfl) rfl ?_
  repeat' (first | refine bM ?_ | (refine bP ?_; first | refine aX tabOk rfl rfl rfl (nb rfl) rfl ?_ | refine bF rfl rfl (nb rfl) ?_ | (refine bO rfl rfl rfl (nb rfl) rfl rfl rfl (fun hq => ?_) (fun hq => ?_) <;> (first | (simp only [sD, sE, sB, sC, sN, sM, sT, sF] at hq; try (exfalso; omega)) | skip))| refine cX 1000 tabOk rfl rfl rfl (nb rfl) rfl rfl rfl rfl rfl rfl ?_ | refine cL rfl rfl (nb rfl) rfl rfl rfl rfl (vY t 65536 hs (by omega) (by omega)) (by exact ⟨rfl, trivial⟩) rfl (by simp) ?_ | (refine cE rfl rfl rfl (nb rfl) rfl rfl rfl (hf (eD t _ (by assumption))) (fun hq => ?_) (fun hq => ?_)) | refine aE rfl rfl rfl (nb rfl) rfl rfl (by omega) ?_ | refine bI rfl rfl rfl (nb rfl) rfl rfl rfl (by omega) (by omega) ?_ | refine bJ rfl rfl rfl (nb rfl) rfl rfl rfl (by omega) (by omega) ?_ | refine bH tabOk rfl rfl rfl (nb rfl) rfl rfl rfl rfl rfl rfl rfl rfl rfl ?_ | refine aZ tabOk rfl rfl (nb rfl) rfl ?_ | refine aU tabOk rfl rfl rfl (nb rfl) rfl rfl rfl rfl rfl rfl ?_ | refine aV tabOk rfl rfl rfl (nb rfl) rfl rfl rfl rfl ?_ | refine aN tabOk rfl rfl rfl rfl rfl rfl rfl rfl rfl rfl rfl ?_ | refine aR tabOk rfl rfl rfl (nb rfl) rfl rfl rfl rfl (by first | assumption | omega) ?_ | refine aJ tabOk rfl rfl rfl (nb rfl) rfl rfl rfl rfl (by first | rfl | omega) (by first | omega | simp) ?_ | refine aC tabOk rfl rfl rfl (nb rfl) rfl rfl rfl (by assumption) ?_ | refine aC tabOk rfl rfl rfl (nb rfl) rfl rfl rfl (bS _ _ (by first | assumption | omega)) ?_ | refine aE rfl rfl rfl (nb rfl) rfl rfl (by omega) ?_ | ((fail_if_success (refine aG (b := true) rfl rfl rfl ?_)); (fail_if_success (refine aG (b := false) rfl rfl rfl ?_)); refine aW rfl rfl rfl (fun hq => ?_) (fun hq => ?_) <;> first | subst hq | (first | (simp only [sD, sE, sB, sC, sN, sM, sT, sF] at hq; try (exfalso; omega)) | skip)) | fail) | (refine bW ?_; first | refine bN ?_ | refine bT ?_ | refine aQ ?_ | refine bD ?_ | refine bU ?_ | refine bL ?_ | refine bK ?_ | refine aA (b := true) rfl (fun _ => ?_) nTf | refine aA (b := false) rfl nFt (fun _ => ?_) | refine bE ?_ | refine bC ?_ | refine bA mixed (by kernel_rfl) ?_ | refine aD mixed (by kernel_rfl) ?_ | (refine aA rfl (fun hq => ?_) (fun hq => ?_) <;> first | subst hq | (first | (simp only [sD, sE, sB, sC, sN, sM, sT, sF] at hq; try (exfalso; omega)) | skip)) | fail) | (refine bQ ?_; first | refine bZ ?_ | refine aK ?_ | refine aT ?_ | fail) | (refine bG ?_; first | refine bV ?_ | refine aH ?_ | refine aI (by decide) ?_ | refine aM ?_ | fail) | refine bR (bB (by kernel_rfl)) ?_ | fail)
  all_goals (refine cA (by first | exact .inl rfl | exact .inr rfl) (cB rfl (aY rfl)) rfl ?_; refine kE ?_; simp_all [checkP])
set_option maxRecDepth 10000 in
theorem gC (t : Tree) (hs : t.size ≤ 1000000) : ACalls Try.prog 22 [.imm t.iv] [] (.imm (.lit (.int .i64 (checkP isConP t)))) [] := by
  refine bY Try.func22 rfl rfl (nb rfl) rfl ?_
  repeat' (first | refine bM ?_ | (refine bP ?_; first | refine aX tabOk rfl rfl rfl (nb rfl) rfl ?_ | refine bF rfl rfl (nb rfl) ?_ | (refine bO rfl rfl rfl (nb rfl) rfl rfl rfl (fun hq => ?_) (fun hq => ?_) <;> (first | (simp only [sD, sE, sB, sC, sN, sM, sT, sF] at hq; try (exfalso; omega)) | skip))| refine bX rfl rfl (nb rfl) rfl rfl rfl rfl (oP t _ _ hs (fun h => vX t h hs)) ?_ | refine aE rfl rfl rfl (nb rfl) rfl rfl (by omega) ?_ | refine bI rfl rfl rfl (nb rfl) rfl rfl rfl (by omega) (by omega) ?_ | refine bJ rfl rfl rfl (nb rfl) rfl rfl rfl (by omega) (by omega) ?_ | refine bH tabOk rfl rfl rfl (nb rfl) rfl rfl rfl rfl rfl rfl rfl rfl rfl ?_ | refine aZ tabOk rfl rfl (nb rfl) rfl ?_ | refine aU tabOk rfl rfl rfl (nb rfl) rfl rfl rfl rfl rfl rfl ?_ | refine aV tabOk rfl rfl rfl (nb rfl) rfl rfl rfl rfl ?_ | refine aN tabOk rfl rfl rfl rfl rfl rfl rfl rfl rfl rfl rfl ?_ | refine aR tabOk rfl rfl rfl (nb rfl) rfl rfl rfl rfl (by first | assumption | omega) ?_ | refine aJ tabOk rfl rfl rfl (nb rfl) rfl rfl rfl rfl (by first | rfl | omega) (by first | omega | simp) ?_ | refine aC tabOk rfl rfl rfl (nb rfl) rfl rfl rfl (by assumption) ?_ | refine aC tabOk rfl rfl rfl (nb rfl) rfl rfl rfl (bS _ _ (by first | assumption | omega)) ?_ | refine aE rfl rfl rfl (nb rfl) rfl rfl (by omega) ?_ | ((fail_if_success (refine aG (b := true) rfl rfl rfl ?_)); (fail_if_success (refine aG (b := false) rfl rfl rfl ?_)); refine aW rfl rfl rfl (fun hq => ?_) (fun hq => ?_) <;> first | subst hq | (first | (simp only [sD, sE, sB, sC, sN, sM, sT, sF] at hq; try (exfalso; omega)) | skip)) | fail) | (refine bW ?_; first | refine bN ?_ | refine bT ?_ | refine aQ ?_ | refine bD ?_ | refine bU ?_ | refine bL ?_ | refine bK ?_ | refine aA (b := true) rfl (fun _ => ?_) nTf | refine aA (b := false) rfl nFt (fun _ => ?_) | refine bE ?_ | refine bC ?_ | refine bA mixed (by kernel_rfl) ?_ | refine aD mixed (by kernel_rfl) ?_ | (refine aA rfl (fun hq => ?_) (fun hq => ?_) <;> first | subst hq | (first | (simp only [sD, sE, sB, sC, sN, sM, sT, sF] at hq; try (exfalso; omega)) | skip)) | fail) | (refine bQ ?_; first | refine bZ ?_ | refine aK ?_ | refine aT ?_ | fail) | (refine bG ?_; first | refine bV ?_ | refine aH ?_ | refine aI (by decide) ?_ | refine aM ?_ | fail) | refine bR (bB (by kernel_rfl)) ?_ | fail)
  all_goals (refine cA (by first | exact .inl rfl | exact .inr rfl) (cB rfl (aY rfl)) rfl ?_; rfl)
set_option maxRecDepth 10000 in
theorem xQ (t : Tree) (hs : t.size ≤ 1000000) : ACalls Try.prog 116 [.imm t.iv] [] (.imm (.lit (.int .i64 (checkP isKindP t)))) [] := by
  refine bY Try.func116 rfl rfl (nb rfl) rfl ?_
  repeat' (first | refine bM ?_ | (refine bP ?_; first | refine aX tabOk rfl rfl rfl (nb rfl) rfl ?_ | refine bF rfl rfl (nb rfl) ?_ | (refine bO rfl rfl rfl (nb rfl) rfl rfl rfl (fun hq => ?_) (fun hq => ?_) <;> (first | (simp only [sD, sE, sB, sC, sN, sM, sT, sF] at hq; try (exfalso; omega)) | skip))| refine bX rfl rfl (nb rfl) rfl rfl rfl rfl (oP t _ _ hs (fun h => mK t h)) ?_ | refine aE rfl rfl rfl (nb rfl) rfl rfl (by omega) ?_ | refine bI rfl rfl rfl (nb rfl) rfl rfl rfl (by omega) (by omega) ?_ | refine bJ rfl rfl rfl (nb rfl) rfl rfl rfl (by omega) (by omega) ?_ | refine bH tabOk rfl rfl rfl (nb rfl) rfl rfl rfl rfl rfl rfl rfl rfl rfl ?_ | refine aZ tabOk rfl rfl (nb rfl) rfl ?_ | refine aU tabOk rfl rfl rfl (nb rfl) rfl rfl rfl rfl rfl rfl ?_ | refine aV tabOk rfl rfl rfl (nb rfl) rfl rfl rfl rfl ?_ | refine aN tabOk rfl rfl rfl rfl rfl rfl rfl rfl rfl rfl rfl ?_ | refine aR tabOk rfl rfl rfl (nb rfl) rfl rfl rfl rfl (by first | assumption | omega) ?_ | refine aJ tabOk rfl rfl rfl (nb rfl) rfl rfl rfl rfl (by first | rfl | omega) (by first | omega | simp) ?_ | refine aC tabOk rfl rfl rfl (nb rfl) rfl rfl rfl (by assumption) ?_ | refine aC tabOk rfl rfl rfl (nb rfl) rfl rfl rfl (bS _ _ (by first | assumption | omega)) ?_ | refine aE rfl rfl rfl (nb rfl) rfl rfl (by omega) ?_ | ((fail_if_success (refine aG (b := true) rfl rfl rfl ?_)); (fail_if_success (refine aG (b := false) rfl rfl rfl ?_)); refine aW rfl rfl rfl (fun hq => ?_) (fun hq => ?_) <;> first | subst hq | (first | (simp only [sD, sE, sB, sC, sN, sM, sT, sF] at hq; try (exfalso; omega)) | skip)) | fail) | (refine bW ?_; first | refine bN ?_ | refine bT ?_ | refine aQ ?_ | refine bD ?_ | refine bU ?_ | refine bL ?_ | refine bK ?_ | refine aA (b := true) rfl (fun _ => ?_) nTf | refine aA (b := false) rfl nFt (fun _ => ?_) | refine bE ?_ | refine bC ?_ | refine bA mixed (by kernel_rfl) ?_ | refine aD mixed (by kernel_rfl) ?_ | (refine aA rfl (fun hq => ?_) (fun hq => ?_) <;> first | subst hq | (first | (simp only [sD, sE, sB, sC, sN, sM, sT, sF] at hq; try (exfalso; omega)) | skip)) | fail) | (refine bQ ?_; first | refine bZ ?_ | refine aK ?_ | refine aT ?_ | fail) | (refine bG ?_; first | refine bV ?_ | refine aH ?_ | refine aI (by decide) ?_ | refine aM ?_ | fail) | refine bR (bB (by kernel_rfl)) ?_ | fail)
  all_goals (refine cA (by first | exact .inl rfl | exact .inr rfl) (cB rfl (aY rfl)) rfl ?_; rfl)
end Go.Proofs.Ytlbemgokilhdnaa.Ab
namespace Go.Proofs.Ytlbemgokilhdnaa.Ab
set_option linter.unusedVariables false
set_option linter.unusedSimpArgs false
attribute [local irreducible] AWP AOps AExit AThen ABlock ANoGoto FeetOk
/-- How many constructors a node binds in its kids. -/
def bindsP (k : Int) : Int := if k = 117 ∨ k = 118 ∨ k = 119 ∨ k = 121 then 1 else 0
theorem fB (k : Int) : 0 ≤ bindsP k ∧ bindsP k ≤ 1 := by unfold bindsP; split <;> omega
def varT (n : Int) : Tree := .node 110 n emptyB emptyB []
mutual
/-- Are all variables of a tree such as a constructor may have? -/
def okVars : Tree → Bool
  | .nil => false
  | .node k n a b kids => if k = 110 then decide (0 ≤ n ∧ n ≤ 65536) && (decide (a = emptyB) && (decide (b = emptyB) && kids.isEmpty)) else okVarss kids
def okVarss : List Tree → Bool
  | [] => true
  | t :: ts => okVars t && okVarss ts
end
theorem kO : ∀ {l : List Tree}, okVarss l = true → ∀ t ∈ l, okVars t = true
  | x :: xs, h, t, ht => by
    simp only [okVarss, Bool.and_eq_true] at h
    rcases List.mem_cons.1 ht with rfl | ht
    · exact h.1
    · exact kO h.2 t ht
theorem gM : ∀ {l : List Tree}, (∀ t ∈ l, okVars t = true) → okVarss l = true
  | [], _ => by rw [okVarss]
  | x :: xs, h => by
    simp only [okVarss, Bool.and_eq_true]
    exact ⟨h x (by simp), gM fun t ht => h t (by simp [ht])⟩
theorem dL {k n : Int} {a b : ByteArray} {kids : List Tree} (hk : k = 110) (h : okVars (.node k n a b kids) = true) : 0 ≤ n ∧ n ≤ 65536 ∧ a = emptyB ∧ b = emptyB ∧ kids = [] := by
  simp only [okVars, if_pos hk, Bool.and_eq_true, decide_eq_true_eq, List.isEmpty_iff] at h
  exact ⟨h.1.1, h.1.2, h.2.1, h.2.2.1, h.2.2.2⟩
theorem dN {k n : Int} {a b : ByteArray} {kids : List Tree} (hk : ¬ k = 110) (h : okVars (.node k n a b kids) = true) : ∀ t ∈ kids, okVars t = true := by
  simp only [okVars, if_neg hk] at h
  exact kO h
mutual
/-- A tree made anew, in which V has changed each variable; d: how many binders lie around. -/
def walkS {σ : Type} (V : Int → Int → σ → Tree × σ) : Tree → Int → σ → Tree × σ
  | .nil, _, s => (.nil, s)
  | .node k n a b kids, d, s => if k = 110 then V n d s else if kids.length = 0 then (.node k n a b kids, s) else
      (.node k n a b (walkSs V kids (d + bindsP k) s).1, (walkSs V kids (d + bindsP k) s).2)
def walkSs {σ : Type} (V : Int → Int → σ → Tree × σ) : List Tree → Int → σ → List Tree × σ
  | [], _, s => ([], s)
  | t :: ts, d, s => ((walkS V t d s).1 :: (walkSs V ts d (walkS V t d s).2).1, (walkSs V ts d (walkS V t d s).2).2)
end
section
variable {σ : Type} (V : Int → Int → σ → Tree × σ)
theorem dT (n d : Int) (s : σ) (a b : ByteArray) (kids : List Tree) : walkS V (.node 110 n a b kids) d s = V n d s := by rw [walkS, if_pos rfl]
theorem gN {k : Int} (n d : Int) (s : σ) {a b : ByteArray} (hk : ¬ k = 110) : walkS V (.node k n a b []) d s = (.node k n a b [], s) := by rw [walkS, if_neg hk, if_pos List.length_nil]
theorem gO {k : Int} (n d : Int) (s : σ) {a b : ByteArray} {kids : List Tree} (hk : ¬ k = 110) (h0 : ¬ kids.length = 0) : walkS V (.node k n a b kids) d s = (.node k n a b (walkSs V kids (d + bindsP k) s).1, (walkSs V kids (d + bindsP k) s).2) := by rw [walkS, if_neg hk, if_neg h0]
theorem cU (d : Int) (s : σ) : walkSs V [] d s = ([], s) := by rw [walkSs]
theorem kP (d : Int) : ∀ (l : List Tree) (t : Tree) (s : σ), walkSs V (l ++ [t]) d s = ((walkSs V l d s).1 ++ [(walkS V t d (walkSs V l d s).2).1], (walkS V t d (walkSs V l d s).2).2)
  | [], t, s => by simp [walkSs]
  | x :: l, t, s => by rw [List.cons_append, walkSs, kP d l t, walkSs]; rfl
theorem eA (d : Int) (s : σ) {l : List Tree} {j : Nat} (h : j < l.length) : walkSs V (l.take (j + 1)) d s = ((walkSs V (l.take j) d s).1 ++ [(walkS V l[j] d (walkSs V (l.take j) d s).2).1], (walkS V l[j] d (walkSs V (l.take j) d s).2).2) := by
  rw [List.take_succ_eq_append_getElem h, kP]
theorem dO : ∀ (l : List Tree) (d : Int) (s : σ), (walkSs V l d s).1.length = l.length
  | [], d, s => by rw [walkSs]
  | t :: ts, d, s => by rw [walkSs, List.length_cons, List.length_cons, dO ts]
end
theorem fR {t : Tree} (h : t ≠ .nil) : ∃ pc, t.iv = .ptr pc 0 := by
  cases t with
  | nil => exact absurd rfl h
  | node k n a b kids => exact ⟨_, by rw [Tree.iv]⟩
set_option maxRecDepth 10000 in
theorem uW (k n : Int) (a b : ByteArray) (kids : List Tree) : ACalls Try.prog 137 [.imm (Tree.iv (.node k n a b kids))] [] (.imm (.lit (.int .i64 (bindsP k)))) [] := by
  refine bY Try.func137 rfl rfl (nb rfl) rfl ?_
  repeat' (first | refine bM ?_ | (refine bP ?_; first | refine aX tabOk rfl rfl rfl (nb rfl) rfl ?_ | refine bF rfl rfl (nb rfl) ?_ | (refine bO rfl rfl rfl (nb rfl) rfl rfl rfl (fun hq => ?_) (fun hq => ?_) <;> (first | (simp only [sD, sE, sB, sC, sN, sM, sT, sF] at hq; try (exfalso; omega)) | skip)) | refine aE rfl rfl rfl (nb rfl) rfl rfl (by omega) ?_ | refine bI rfl rfl rfl (nb rfl) rfl rfl rfl (by omega) (by omega) ?_ | refine bJ rfl rfl rfl (nb rfl) rfl rfl rfl (by omega) (by omega) ?_ | refine bH tabOk rfl rfl rfl (nb rfl) rfl rfl rfl rfl rfl rfl rfl rfl rfl ?_ | refine aZ tabOk rfl rfl (nb rfl) rfl ?_ | refine aU tabOk rfl rfl rfl (nb rfl) rfl rfl rfl rfl rfl rfl ?_ | refine aV tabOk rfl rfl rfl (nb rfl) rfl rfl rfl rfl ?_ | refine aN tabOk rfl rfl rfl rfl rfl rfl rfl rfl rfl rfl rfl ?_ | refine aR tabOk rfl rfl rfl (nb rfl) rfl rfl rfl rfl (by first | assumption | omega) ?_ | refine aJ tabOk rfl rfl rfl (nb rfl) rfl rfl rfl rfl (by first | rfl | omega) (by first | omega | simp) ?_ | refine aC tabOk rfl rfl rfl (nb rfl) rfl rfl rfl (by assumption) ?_ | refine aC tabOk rfl rfl rfl (nb rfl) rfl rfl rfl (bS _ _ (by first | assumption | omega)) ?_ | refine aE rfl rfl rfl (nb rfl) rfl rfl (by omega) ?_ | ((fail_if_success (refine aG (b := true) rfl rfl rfl ?_)); (fail_if_success (refine aG (b := false) rfl rfl rfl ?_)); refine aW rfl rfl rfl (fun hq => ?_) (fun hq => ?_) <;> first | subst hq | (first | (simp only [sD, sE, sB, sC, sN, sM, sT, sF] at hq; try (exfalso; omega)) | skip)) | fail) | (refine bW ?_; first | refine bN ?_ | refine bT ?_ | refine aQ ?_ | refine bD ?_ | refine bU ?_ | refine bL ?_ | refine bK ?_ | refine aA (b := true) rfl (fun _ => ?_) nTf | refine aA (b := false) rfl nFt (fun _ => ?_) | refine bE ?_ | refine bC ?_ | refine bA mixed (by kernel_rfl) ?_ | refine aD mixed (by kernel_rfl) ?_ | (refine aA rfl (fun hq => ?_) (fun hq => ?_) <;> first | subst hq | (first | (simp only [sD, sE, sB, sC, sN, sM, sT, sF] at hq; try (exfalso; omega)) | skip)) | fail) | (refine bQ ?_; first | refine bZ ?_ | refine aK ?_ | refine aT ?_ | fail) | (refine bG ?_; first | refine bV ?_ | refine aH ?_ | refine aI (by decide) ?_ | refine aM ?_ | fail) | refine bR (bB (by kernel_rfl)) ?_ | fail)
  all_goals (refine cA (by first | exact .inl rfl | exact .inr rfl) (cB rfl (aY rfl)) rfl ?_; refine kE ?_; unfold bindsP; first | (rw [if_pos (by omega)]; done) | (rw [if_neg (by omega)]; done))
/-- What is a kind, or a constructor, has no other variables. -/
theorem rB (t : Tree) : isKindP t = true → okVars t = true := by
  induction t using Tree.ind with
  | h1 => intro h; simp [isKindP] at h
  | h2 k n a b kids ih =>
    intro h
    rw [isKindP] at h
    split at h
    · rename_i e
      simp only [Bool.and_eq_true, beq_iff_eq] at h
      have e0 : kids = [] := List.eq_nil_of_length_eq_zero (by omega)
      subst e0
      rw [okVars, if_neg (by omega), okVarss]
    · split at h
      · rename_i e0 e
        simp only [Bool.and_eq_true] at h
        rw [okVars, if_neg (by omega)]
        refine gM fun t ht => ih t ht ?_
        rw [eX, List.all_map] at h
        exact List.all_eq_true.1 h.2 t ht
      · cases h
end Go.Proofs.Ytlbemgokilhdnaa.Ab
namespace Go.Proofs.Ytlbemgokilhdnaa.Ab
set_option linter.unusedVariables false
set_option linter.unusedSimpArgs false
attribute [local irreducible] AWP AOps AExit AThen ABlock ANoGoto FeetOk
set_option maxHeartbeats 8000000 in
set_option maxRecDepth 10000 in
theorem zE {σ : Type} (V : Int → Int → σ → Tree × σ) (F : FuncId) (X0 X1 X2 : σ → IV) (J : σ → Prop)
    (hV : ∀ (n d : Int) s, J s → 0 ≤ n → n ≤ 65536 → 0 ≤ d → d ≤ 1000000 → ACalls Try.prog F ([.imm (varT n).iv, .imm (.lit (.int .i64 d)), .obj 1000 0, .obj 1001 0, .obj 1002 0]) [(1000, .cells [.imm (X0 s)]), (1001, .cells [.imm (X1 s)]), (1002, .cells [.imm (X2 s)])] (.imm (V n d s).1.iv) [(1000, .cells [.imm (X0 ((V n d s).2))]), (1001, .cells [.imm (X1 ((V n d s).2))]), (1002, .cells [.imm (X2 ((V n d s).2))])] ∧ J (V n d s).2 ∧ (V n d s).1 ≠ .nil) (t : Tree) :
    ∀ (d : Int) s, okVars t = true → t.whole = true → 0 ≤ d → d + t.size ≤ 1000000 → J s → ACalls Try.prog 124 [.imm t.iv, .imm (.lit (.int .i64 d)), .func F [] [.obj 1000 0, .obj 1001 0, .obj 1002 0]] [(1000, .cells [.imm (X0 s)]), (1001, .cells [.imm (X1 s)]), (1002, .cells [.imm (X2 s)])] (.imm (walkS V t d s).1.iv) [(1000, .cells [.imm (X0 ((walkS V t d s).2))]), (1001, .cells [.imm (X1 ((walkS V t d s).2))]), (1002, .cells [.imm (X2 ((walkS V t d s).2))])] ∧ J (walkS V t d s).2 ∧ (walkS V t d s).1 ≠ .nil := by
  induction t using Tree.ind with
  | h1 => intro d s _ h; simp [Tree.whole] at h
  | h2 k n a b kids ih =>
    intro d s hv hw hd hs hJ
    have hl := cI kids hw
    have hsz : (Tree.node k n a b kids).size = 1 + Tree.sizes kids := by rw [Tree.size]
    rw [hsz] at hs
    by_cases k110 : k = 110
    · obtain ⟨q1, q2, rfl, rfl, rfl⟩ := dL k110 hv
      subst k110
      have hc := hV n d s hJ q1 q2 hd (by omega)
      rw [dT]
      refine ⟨?_, hc.2⟩
      have hc := hc.1
      generalize V n d s = R at *
      obtain ⟨R1, R2⟩ := R
      dsimp only at hc ⊢
      refine cJ [1000, 1001, 1002] Try.func124 rfl rfl (nb rfl) rfl rfl ?_
      repeat' (first | refine bM ?_ | (refine bP ?_; first | refine aX tabOk rfl rfl rfl (nb rfl) rfl ?_ | refine bF rfl rfl (nb rfl) ?_ | (refine bO rfl rfl rfl (nb rfl) rfl rfl rfl (fun hq => ?_) (fun hq => ?_) <;> (first | (simp only [sD, sE, sB, sC, sN, sM, sT, sF] at hq; try (exfalso; omega)) | skip))| refine cL rfl rfl (nb rfl) rfl rfl rfl rfl hc (by repeat' first | exact trivial | refine ⟨rfl, ?_⟩) rfl (by show ([1000, 1001, 1002] : List Nat).Nodup; decide) ?_ | refine aE rfl rfl rfl (nb rfl) rfl rfl (by omega) ?_ | refine bI rfl rfl rfl (nb rfl) rfl rfl rfl (by omega) (by omega) ?_ | refine bJ rfl rfl rfl (nb rfl) rfl rfl rfl (by omega) (by omega) ?_ | refine bH tabOk rfl rfl rfl (nb rfl) rfl rfl rfl rfl rfl rfl rfl rfl rfl ?_ | refine aZ tabOk rfl rfl (nb rfl) rfl ?_ | refine aU tabOk rfl rfl rfl (nb rfl) rfl rfl rfl rfl rfl rfl ?_ | refine aV tabOk rfl rfl rfl (nb rfl) rfl rfl rfl rfl ?_ | refine aN tabOk rfl rfl rfl rfl rfl rfl rfl rfl rfl rfl rfl ?_ | refine aR tabOk rfl rfl rfl (nb rfl) rfl rfl rfl rfl (by first | assumption | omega) ?_ | refine aJ tabOk rfl rfl rfl (nb rfl) rfl rfl rfl rfl (by first | rfl | omega) (by first | omega | simp) ?_ | refine aC tabOk rfl rfl rfl (nb rfl) rfl rfl rfl (by assumption) ?_ | refine aC tabOk rfl rfl rfl (nb rfl) rfl rfl rfl (bS _ _ (by first | assumption | omega)) ?_ | refine aE rfl rfl rfl (nb rfl) rfl rfl (by omega) ?_ | ((fail_if_success (refine aG (b := true) rfl rfl rfl ?_)); (fail_if_success (refine aG (b := false) rfl rfl rfl ?_)); refine aW rfl rfl rfl (fun hq => ?_) (fun hq => ?_) <;> first | subst hq | (first | (simp only [sD, sE, sB, sC, sN, sM, sT, sF] at hq; try (exfalso; omega)) | skip)) | fail) | (refine bW ?_; first | refine bN ?_ | refine bT ?_ | refine aQ ?_ | refine bD ?_ | refine bU ?_ | refine bL ?_ | refine bK ?_ | refine aA (b := true) rfl (fun _ => ?_) nTf | refine aA (b := false) rfl nFt (fun _ => ?_) | refine bE ?_ | refine bC ?_ | refine bA mixed (by kernel_rfl) ?_ | refine aD mixed (by kernel_rfl) ?_ | (refine aA rfl (fun hq => ?_) (fun hq => ?_) <;> first | subst hq | (first | (simp only [sD, sE, sB, sC, sN, sM, sT, sF] at hq; try (exfalso; omega)) | skip)) | fail) | (refine bQ ?_; first | refine bZ ?_ | refine aK ?_ | refine aT ?_ | fail) | (refine bG ?_; first | refine bV ?_ | refine aH ?_ | refine aI (by decide) ?_ | refine aM ?_ | fail) | refine bR (bB (by kernel_rfl)) ?_ | fail)
      all_goals first
        | exact absurd rfl (by assumption)
        | (refine cO (cM (by first | exact .inl rfl | exact .inr rfl) (cB rfl (aY rfl)) rfl (by repeat' first | exact trivial | refine ⟨rfl, ?_⟩) rfl ?_); rfl)
    · by_cases hk0 : kids.length = 0
      · have e0 : kids = [] := List.eq_nil_of_length_eq_zero hk0
        subst e0
        rw [gN _ _ _ _ k110]
        refine ⟨?_, hJ, by simp⟩
        refine cJ [1000, 1001, 1002] Try.func124 rfl rfl (nb rfl) rfl rfl ?_
        repeat' (first | refine bM ?_ | (refine bP ?_; first | refine aX tabOk rfl rfl rfl (nb rfl) rfl ?_ | refine bF rfl rfl (nb rfl) ?_ | (refine bO rfl rfl rfl (nb rfl) rfl rfl rfl (fun hq => ?_) (fun hq => ?_) <;> (first | (simp only [sD, sE, sB, sC, sN, sM, sT, sF] at hq; try (exfalso; omega)) | skip)) | refine aE rfl rfl rfl (nb rfl) rfl rfl (by omega) ?_ | refine bI rfl rfl rfl (nb rfl) rfl rfl rfl (by omega) (by omega) ?_ | refine bJ rfl rfl rfl (nb rfl) rfl rfl rfl (by omega) (by omega) ?_ | refine bH tabOk rfl rfl rfl (nb rfl) rfl rfl rfl rfl rfl rfl rfl rfl rfl ?_ | refine aZ tabOk rfl rfl (nb rfl) rfl ?_ | refine aU tabOk rfl rfl rfl (nb rfl) rfl rfl rfl rfl rfl rfl ?_ | refine aV tabOk rfl rfl rfl (nb rfl) rfl rfl rfl rfl ?_ | refine aN tabOk rfl rfl rfl rfl rfl rfl rfl rfl rfl rfl rfl ?_ | refine aR tabOk rfl rfl rfl (nb rfl) rfl rfl rfl rfl (by first | assumption | omega) ?_ | refine aJ tabOk rfl rfl rfl (nb rfl) rfl rfl rfl rfl (by first | rfl | omega) (by first | omega | simp) ?_ | refine aC tabOk rfl rfl rfl (nb rfl) rfl rfl rfl (by assumption) ?_ | refine aC tabOk rfl rfl rfl (nb rfl) rfl rfl rfl (bS _ _ (by first | assumption | omega)) ?_ | refine aE rfl rfl rfl (nb rfl) rfl rfl (by omega) ?_ | ((fail_if_success (refine aG (b := true) rfl rfl rfl ?_)); (fail_if_success (refine aG (b := false) rfl rfl rfl ?_)); refine aW rfl rfl rfl (fun hq => ?_) (fun hq => ?_) <;> first | subst hq | (first | (simp only [sD, sE, sB, sC, sN, sM, sT, sF] at hq; try (exfalso; omega)) | skip)) | fail) | (refine bW ?_; first | refine bN ?_ | refine bT ?_ | refine aQ ?_ | refine bD ?_ | refine bU ?_ | refine bL ?_ | refine bK ?_ | refine aA (b := true) rfl (fun _ => ?_) nTf | refine aA (b := false) rfl nFt (fun _ => ?_) | refine bE ?_ | refine bC ?_ | refine bA mixed (by kernel_rfl) ?_ | refine aD mixed (by kernel_rfl) ?_ | (refine aA rfl (fun hq => ?_) (fun hq => ?_) <;> first | subst hq | (first | (simp only [sD, sE, sB, sC, sN, sM, sT, sF] at hq; try (exfalso; omega)) | skip)) | fail) | (refine bQ ?_; first | refine bZ ?_ | refine aK ?_ | refine aT ?_ | fail) | (refine bG ?_; first | refine bV ?_ | refine aH ?_ | refine aI (by decide) ?_ | refine aM ?_ | fail) | refine bR (bB (by kernel_rfl)) ?_ | fail)
        all_goals first
          | exact absurd rfl (by assumption)
          | exact absurd (by assumption) k110
          | (refine cO (cM (by first | exact .inl rfl | exact .inr rfl) (cB rfl (aY rfl)) rfl (by repeat' first | exact trivial | refine ⟨rfl, ?_⟩) rfl ?_); rfl)
      · rw [gO _ _ _ _ k110 hk0]
        dsimp only
        have hb := fB k
        have hvs := dN k110 hv
        have hind : ∀ j (h : j < kids.length) s', J s' → ACalls Try.prog 124 [.imm kids[j].iv, .imm (.lit (.int .i64 (d + bindsP k))), .func F [] [.obj 1000 0, .obj 1001 0, .obj 1002 0]] [(1000, .cells [.imm (X0 s')]), (1001, .cells [.imm (X1 s')]), (1002, .cells [.imm (X2 s')])] (.imm (walkS V kids[j] (d + bindsP k) s').1.iv) [(1000, .cells [.imm (X0 ((walkS V kids[j] (d + bindsP k) s').2))]), (1001, .cells [.imm (X1 ((walkS V kids[j] (d + bindsP k) s').2))]), (1002, .cells [.imm (X2 ((walkS V kids[j] (d + bindsP k) s').2))])] ∧ J (walkS V kids[j] (d + bindsP k) s').2 ∧ (walkS V kids[j] (d + bindsP k) s').1 ≠ .nil := fun j h s' hJ' => by
          have hm := List.getElem_mem h
          have hz := cT hm
          exact ih _ hm _ s' (hvs _ hm) (cD hw hm) (by omega) (by omega) hJ'
        clear ih
        have hJs : ∀ j, j ≤ kids.length → J (walkSs V (kids.take j) (d + bindsP k) s).2 := by
          intro j
          induction j with
          | zero => intro _; rw [List.take_zero, cU]; exact hJ
          | succ j ihj =>
            intro hj
            rw [eA V (d + bindsP k) s hj]
            exact (hind j hj _ (ihj (by omega))).2.1
        have hJe := hJs kids.length (Nat.le_refl _)
        rw [List.take_length] at hJe
        refine ⟨?_, hJe, by simp⟩
        clear hJe
        have cb := uW k n a b kids
        refine cJ [1000, 1001, 1002] Try.func124 rfl rfl (nb rfl) rfl rfl ?_
        repeat' (first | refine bM ?_ | (refine bP ?_; first | refine aX tabOk rfl rfl rfl (nb rfl) rfl ?_ | refine bF rfl rfl (nb rfl) ?_ | (refine bO rfl rfl rfl (nb rfl) rfl rfl rfl (fun hq => ?_) (fun hq => ?_) <;> (first | (simp only [sD, sE, sB, sC, sN, sM, sT, sF] at hq; try (exfalso; omega)) | skip)) | refine aE rfl rfl rfl (nb rfl) rfl rfl (by omega) ?_ | refine bI rfl rfl rfl (nb rfl) rfl rfl rfl (by omega) (by omega) ?_ | refine bJ rfl rfl rfl (nb rfl) rfl rfl rfl (by omega) (by omega) ?_ | refine bH tabOk rfl rfl rfl (nb rfl) rfl rfl rfl rfl rfl rfl rfl rfl rfl ?_ | refine aZ tabOk rfl rfl (nb rfl) rfl ?_ | refine aU tabOk rfl rfl rfl (nb rfl) rfl rfl rfl rfl rfl rfl ?_ | refine aV tabOk rfl rfl rfl (nb rfl) rfl rfl rfl rfl ?_ | refine aN tabOk rfl rfl rfl rfl rfl rfl rfl rfl rfl rfl rfl ?_ | refine aR tabOk rfl rfl rfl (nb rfl) rfl rfl rfl rfl (by first | assumption | omega) ?_ | refine aJ tabOk rfl rfl rfl (nb rfl) rfl rfl rfl rfl (by first | rfl | omega) (by first | omega | simp) ?_ | refine aC tabOk rfl rfl rfl (nb rfl) rfl rfl rfl (by assumption) ?_ | refine aC tabOk rfl rfl rfl (nb rfl) rfl rfl rfl (bS _ _ (by first | assumption | omega)) ?_ | refine aE rfl rfl rfl (nb rfl) rfl rfl (by omega) ?_ | ((fail_if_success (refine aG (b := true) rfl rfl rfl ?_)); (fail_if_success (refine aG (b := false) rfl rfl rfl ?_)); refine aW rfl rfl rfl (fun hq => ?_) (fun hq => ?_) <;> first | subst hq | (first | (simp only [sD, sE, sB, sC, sN, sM, sT, sF] at hq; try (exfalso; omega)) | skip)) | fail) | (refine bW ?_; first | refine bN ?_ | refine bT ?_ | refine aQ ?_ | refine bD ?_ | refine bU ?_ | refine bL ?_ | refine bK ?_ | refine aA (b := true) rfl (fun _ => ?_) nTf | refine aA (b := false) rfl nFt (fun _ => ?_) | refine bE ?_ | refine bC ?_ | refine bA mixed (by kernel_rfl) ?_ | refine aD mixed (by kernel_rfl) ?_ | (refine aA rfl (fun hq => ?_) (fun hq => ?_) <;> first | subst hq | (first | (simp only [sD, sE, sB, sC, sN, sM, sT, sF] at hq; try (exfalso; omega)) | skip)) | fail) | (refine bQ ?_; first | refine bZ ?_ | refine aK ?_ | refine aT ?_ | fail) | (refine bG ?_; first | refine bV ?_ | refine aH ?_ | refine aI (by decide) ?_ | refine aM ?_ | fail) | refine bR (bB (by kernel_rfl)) ?_ | fail)
        all_goals first
          | exact absurd (by assumption) k110
          | (exfalso; omega)
          | skip
        refine cY (dU (h0 := 7) (k0 := 4) 500 25 1 rfl rfl (by simp) rfl rfl) ?_
        refine cH (ι := {j : Nat // j ≤ kids.length}) (fun j => S.f ⟨[(35, .imm (.lit (.int .i64 (j.1 : Int)))), (34, .imm (.lit (.int .i64 (kids.length : Int)))), (33, .imm (.sl false kids.length (Tree.ivs kids))), (7, .obj 7 0), (0, .imm (Tree.iv (.node k n a b kids))), (1, .imm (.lit (.int .i64 d))), (2, .func F [] [.obj 1000 0, .obj 1001 0, .obj 1002 0])], (500, .arr 25 1 j.1 (Tree.ivs (walkSs V (kids.take j.1) (d + bindsP k) s).1)) :: (7, .cells [.imm (.lit (.int .i64 k)), .imm (.lit (.int .i64 n)), .imm (.lit (.string a)), .imm (.lit (.string b)), .ref 500 j.1]) :: [(1000, .cells [.imm (X0 ((walkSs V (kids.take j.1) (d + bindsP k) s).2))]), (1001, .cells [.imm (X1 ((walkSs V (kids.take j.1) (d + bindsP k) s).2))]), (1002, .cells [.imm (X2 ((walkSs V (kids.take j.1) (d + bindsP k) s).2))])]⟩) (fun j => kids.length - j.1) ⟨0, Nat.zero_le _⟩ (cF (by repeat' first | exact trivial | refine ⟨rfl, ?_⟩) (by repeat' first | exact trivial | refine ⟨rfl, ?_⟩)) ?_
        rintro ⟨j, hj⟩
        dsimp only
        by_cases hlt : j < kids.length
        · have hget := bS kids j hlt
          have hnx := eA V (d + bindsP k) s hlt
          obtain ⟨hc, _, hnn⟩ := hind j hlt _ (hJs j hj)
          obtain ⟨pc, hpc⟩ := fR hnn
          rw [hpc] at hc
          have hll := dO V (kids.take j) (d + bindsP k) s
          rw [List.length_take, Nat.min_eq_left hj] at hll
          have hiv : Tree.ivs (walkSs V (kids.take (j + 1)) (d + bindsP k) s).1 = Tree.ivs (walkSs V (kids.take j) (d + bindsP k) s).1 ++ [(walkS V kids[j] (d + bindsP k) (walkSs V (kids.take j) (d + bindsP k) s).2).1.iv] := by
            rw [hnx, dK, dK, List.map_append]; rfl
          rw [hpc] at hiv
          clear hpc hnn
          have hst : (walkSs V (kids.take (j + 1)) (d + bindsP k) s).2 = (walkS V kids[j] (d + bindsP k) (walkSs V (kids.take j) (d + bindsP k) s).2).2 := by rw [hnx]
          clear hnx hind hJs
          have hil := eH (walkSs V (kids.take j) (d + bindsP k) s).1
          rw [hll] at hil
          generalize walkS V kids[j] (d + bindsP k) (walkSs V (kids.take j) (d + bindsP k) s).2 = W at *
          generalize walkSs V (kids.take j) (d + bindsP k) s = Z at *
          obtain ⟨W1, W2⟩ := W
          obtain ⟨Z1, Z2⟩ := Z
          dsimp only at *
          generalize Tree.ivs Z1 = ZI at *
          generalize hsum : d + bindsP k = dk at *
          repeat' (first | refine bM ?_ | (refine bP ?_; first | refine aX tabOk rfl rfl rfl (nb rfl) rfl ?_ | refine bF rfl rfl (nb rfl) ?_ | (refine bO rfl rfl rfl (nb rfl) rfl rfl rfl (fun hq => ?_) (fun hq => ?_) <;> (first | (simp only [sD, sE, sB, sC, sN, sM, sT, sF] at hq; try (exfalso; omega)) | skip))| refine aC tabOk rfl rfl rfl (nb rfl) rfl rfl rfl hget ?_ | refine bX rfl rfl (nb rfl) rfl rfl rfl rfl (cb) ?_ | refine bI (z := dk) rfl rfl rfl (nb rfl) rfl rfl hsum (by omega) (by omega) ?_ | refine cL rfl rfl (nb rfl) rfl rfl rfl rfl hc (by repeat' first | exact trivial | refine ⟨rfl, ?_⟩) rfl (by show ([1000, 1001, 1002] : List Nat).Nodup; decide) ?_ | refine dF tabOk rfl rfl rfl (nb rfl) rfl rfl rfl rfl rfl rfl rfl (by first | omega | decide) rfl (by first | omega | (dsimp only; omega)) (by first | omega | (dsimp only; omega)) ?_ | refine aE rfl rfl rfl (nb rfl) rfl rfl (by omega) ?_ | refine bI rfl rfl rfl (nb rfl) rfl rfl rfl (by omega) (by omega) ?_ | refine bJ rfl rfl rfl (nb rfl) rfl rfl rfl (by omega) (by omega) ?_ | refine bH tabOk rfl rfl rfl (nb rfl) rfl rfl rfl rfl rfl rfl rfl rfl rfl ?_ | refine aZ tabOk rfl rfl (nb rfl) rfl ?_ | refine aU tabOk rfl rfl rfl (nb rfl) rfl rfl rfl rfl rfl rfl ?_ | refine aV tabOk rfl rfl rfl (nb rfl) rfl rfl rfl rfl ?_ | refine aN tabOk rfl rfl rfl rfl rfl rfl rfl rfl rfl rfl rfl ?_ | refine aR tabOk rfl rfl rfl (nb rfl) rfl rfl rfl rfl (by first | assumption | omega) ?_ | refine aJ tabOk rfl rfl rfl (nb rfl) rfl rfl rfl rfl (by first | rfl | omega) (by first | omega | simp) ?_ | refine aC tabOk rfl rfl rfl (nb rfl) rfl rfl rfl (by assumption) ?_ | refine aC tabOk rfl rfl rfl (nb rfl) rfl rfl rfl (bS _ _ (by first | assumption | omega)) ?_ | refine aE rfl rfl rfl (nb rfl) rfl rfl (by omega) ?_ | ((fail_if_success (refine aG (b := true) rfl rfl rfl ?_)); (fail_if_success (refine aG (b := false) rfl rfl rfl ?_)); refine aW rfl rfl rfl (fun hq => ?_) (fun hq => ?_) <;> first | subst hq | (first | (simp only [sD, sE, sB, sC, sN, sM, sT, sF] at hq; try (exfalso; omega)) | skip)) | fail) | (refine bW ?_; first | refine bN ?_ | refine bT ?_ | refine aQ ?_ | refine bD ?_ | refine bU ?_ | refine bL ?_ | refine bK ?_ | refine aA (b := true) rfl (fun _ => ?_) nTf | refine aA (b := false) rfl nFt (fun _ => ?_) | refine bE ?_ | refine bC ?_ | refine bA mixed (by kernel_rfl) ?_ | refine aD mixed (by kernel_rfl) ?_ | (refine aA rfl (fun hq => ?_) (fun hq => ?_) <;> first | subst hq | (first | (simp only [sD, sE, sB, sC, sN, sM, sT, sF] at hq; try (exfalso; omega)) | skip)) | fail) | (refine bQ ?_; first | refine bZ ?_ | refine aK ?_ | refine aT ?_ | fail) | (refine bG ?_; first | refine bV ?_ | refine aH ?_ | refine aI (by decide) ?_ | refine aM ?_ | fail) | refine bR (bB (by kernel_rfl)) ?_ | fail)
          all_goals first
            | (exfalso; omega)
            | (refine ⟨⟨j + 1, hlt⟩, (by show kids.length - (j + 1) < kids.length - j; omega), ?_⟩; dsimp only; rw [hiv, hst]; exact (cF (by repeat' first | exact trivial | refine ⟨rfl, ?_⟩) (by repeat' first | exact trivial | refine ⟨rfl, ?_⟩)))
        · have ej : j = kids.length := by omega
          subst ej
          rw [List.take_length]
          have hll := dO V kids (d + bindsP k) s
          clear hind hJs
          generalize walkSs V kids (d + bindsP k) s = Z at *
          obtain ⟨Z1, Z2⟩ := Z
          dsimp only at *
          have hiv : (Tree.node k n a b Z1).iv = .ptr [.lit (.int .i64 k), .lit (.int .i64 n), .lit (.string a), .lit (.string b), .sl false kids.length (Tree.ivs Z1)] 0 := by rw [Tree.iv, hll]
          rw [hiv]
          generalize Tree.ivs Z1 = ZI at *
          repeat' (first | refine bM ?_ | (refine bP ?_; first | refine aX tabOk rfl rfl rfl (nb rfl) rfl ?_ | refine bF rfl rfl (nb rfl) ?_ | (refine bO rfl rfl rfl (nb rfl) rfl rfl rfl (fun hq => ?_) (fun hq => ?_) <;> (first | (simp only [sD, sE, sB, sC, sN, sM, sT, sF] at hq; try (exfalso; omega)) | skip)) | refine aE rfl rfl rfl (nb rfl) rfl rfl (by omega) ?_ | refine bI rfl rfl rfl (nb rfl) rfl rfl rfl (by omega) (by omega) ?_ | refine bJ rfl rfl rfl (nb rfl) rfl rfl rfl (by omega) (by omega) ?_ | refine bH tabOk rfl rfl rfl (nb rfl) rfl rfl rfl rfl rfl rfl rfl rfl rfl ?_ | refine aZ tabOk rfl rfl (nb rfl) rfl ?_ | refine aU tabOk rfl rfl rfl (nb rfl) rfl rfl rfl rfl rfl rfl ?_ | refine aV tabOk rfl rfl rfl (nb rfl) rfl rfl rfl rfl ?_ | refine aN tabOk rfl rfl rfl rfl rfl rfl rfl rfl rfl rfl rfl ?_ | refine aR tabOk rfl rfl rfl (nb rfl) rfl rfl rfl rfl (by first | assumption | omega) ?_ | refine aJ tabOk rfl rfl rfl (nb rfl) rfl rfl rfl rfl (by first | rfl | omega) (by first | omega | simp) ?_ | refine aC tabOk rfl rfl rfl (nb rfl) rfl rfl rfl (by assumption) ?_ | refine aC tabOk rfl rfl rfl (nb rfl) rfl rfl rfl (bS _ _ (by first | assumption | omega)) ?_ | refine aE rfl rfl rfl (nb rfl) rfl rfl (by omega) ?_ | ((fail_if_success (refine aG (b := true) rfl rfl rfl ?_)); (fail_if_success (refine aG (b := false) rfl rfl rfl ?_)); refine aW rfl rfl rfl (fun hq => ?_) (fun hq => ?_) <;> first | subst hq | (first | (simp only [sD, sE, sB, sC, sN, sM, sT, sF] at hq; try (exfalso; omega)) | skip)) | fail) | (refine bW ?_; first | refine bN ?_ | refine bT ?_ | refine aQ ?_ | refine bD ?_ | refine bU ?_ | refine bL ?_ | refine bK ?_ | refine aA (b := true) rfl (fun _ => ?_) nTf | refine aA (b := false) rfl nFt (fun _ => ?_) | refine bE ?_ | refine bC ?_ | refine bA mixed (by kernel_rfl) ?_ | refine aD mixed (by kernel_rfl) ?_ | (refine aA rfl (fun hq => ?_) (fun hq => ?_) <;> first | subst hq | (first | (simp only [sD, sE, sB, sC, sN, sM, sT, sF] at hq; try (exfalso; omega)) | skip)) | fail) | (refine bQ ?_; first | refine bZ ?_ | refine aK ?_ | refine aT ?_ | fail) | (refine bG ?_; first | refine bV ?_ | refine aH ?_ | refine aI (by decide) ?_ | refine aM ?_ | fail) | refine bR (bB (by kernel_rfl)) ?_ | fail)
          all_goals first
            | (exfalso; omega)
            | (refine oL ((Imp.of_le (σ' := S.f ⟨[(6, .obj 7 0)], (500, .arr 25 1 kids.length ZI) :: (7, .cells [.imm (.lit (.int .i64 k)), .imm (.lit (.int .i64 n)), .imm (.lit (.string a)), .imm (.lit (.string b)), .ref 500 kids.length]) :: [(1000, .cells [.imm (X0 Z2)]), (1001, .cells [.imm (X1 Z2)]), (1002, .cells [.imm (X2 Z2)])]⟩) (cF (by repeat' first | exact trivial | refine ⟨rfl, ?_⟩) (by repeat' first | exact trivial | refine ⟨rfl, ?_⟩))).trans ((cW (g := 500) rfl (by repeat' first | exact trivial | exact fun _ => rfl | refine ⟨?_, ?_⟩) (by repeat' first | exact trivial | exact fun _ => rfl | refine ⟨?_, ?_⟩)).trans (dE (g := 7) rfl rfl))) ?_
               refine cM (by first | exact .inl rfl | exact .inr rfl) (cB rfl (aY rfl)) rfl (by repeat' first | exact trivial | refine ⟨rfl, ?_⟩) rfl rfl)
set_option maxHeartbeats 8000000 in
set_option maxRecDepth 10000 in
theorem zF {σ : Type} (V : Int → Int → σ → Tree × σ) (F : FuncId) (X0 X1 X2 X3 X4 : σ → IV) (J : σ → Prop)
    (hV : ∀ (n d : Int) s, J s → 0 ≤ n → n ≤ 65536 → 0 ≤ d → d ≤ 1000000 → ACalls Try.prog F ([.imm (varT n).iv, .imm (.lit (.int .i64 d)), .obj 1000 0, .obj 1001 0, .obj 1002 0, .obj 1003 0, .obj 1004 0]) [(1000, .cells [.imm (X0 s)]), (1001, .cells [.imm (X1 s)]), (1002, .cells [.imm (X2 s)]), (1003, .cells [.imm (X3 s)]), (1004, .cells [.imm (X4 s)])] (.imm (V n d s).1.iv) [(1000, .cells [.imm (X0 ((V n d s).2))]), (1001, .cells [.imm (X1 ((V n d s).2))]), (1002, .cells [.imm (X2 ((V n d s).2))]), (1003, .cells [.imm (X3 ((V n d s).2))]), (1004, .cells [.imm (X4 ((V n d s).2))])] ∧ J (V n d s).2 ∧ (V n d s).1 ≠ .nil) (t : Tree) :
    ∀ (d : Int) s, okVars t = true → t.whole = true → 0 ≤ d → d + t.size ≤ 1000000 → J s → ACalls Try.prog 124 [.imm t.iv, .imm (.lit (.int .i64 d)), .func F [] [.obj 1000 0, .obj 1001 0, .obj 1002 0, .obj 1003 0, .obj 1004 0]] [(1000, .cells [.imm (X0 s)]), (1001, .cells [.imm (X1 s)]), (1002, .cells [.imm (X2 s)]), (1003, .cells [.imm (X3 s)]), (1004, .cells [.imm (X4 s)])] (.imm (walkS V t d s).1.iv) [(1000, .cells [.imm (X0 ((walkS V t d s).2))]), (1001, .cells [.imm (X1 ((walkS V t d s).2))]), (1002, .cells [.imm (X2 ((walkS V t d s).2))]), (1003, .cells [.imm (X3 ((walkS V t d s).2))]), (1004, .cells [.imm (X4 ((walkS V t d s).2))])] ∧ J (walkS V t d s).2 ∧ (walkS V t d s).1 ≠ .nil := by
  induction t using Tree.ind with
  | h1 => intro d s _ h; simp [Tree.whole] at h
  | h2 k n a b kids ih =>
    intro d s hv hw hd hs hJ
    have hl := cI kids hw
    have hsz : (Tree.node k n a b kids).size = 1 + Tree.sizes kids := by rw [Tree.size]
    rw [hsz] at hs
    by_cases k110 : k = 110
    · obtain ⟨q1, q2, rfl, rfl, rfl⟩ := dL k110 hv
      subst k110
      have hc := hV n d s hJ q1 q2 hd (by omega)
      rw [dT]
      refine ⟨?_, hc.2⟩
      have hc := hc.1
      generalize V n d s = R at *
      obtain ⟨R1, R2⟩ := R
      dsimp only at hc ⊢
      refine cJ [1000, 1001, 1002, 1003, 1004] Try.func124 rfl rfl (nb rfl) rfl rfl ?_
      repeat' (first | refine bM ?_ | (refine bP ?_; first | refine aX tabOk rfl rfl rfl (nb rfl) rfl ?_ | refine bF rfl rfl (nb rfl) ?_ | (refine bO rfl rfl rfl (nb rfl) rfl rfl rfl (fun hq => ?_) (fun hq => ?_) <;> (first | (simp only [sD, sE, sB, sC, sN, sM, sT, sF] at hq; try (exfalso; omega)) | skip))| refine cL rfl rfl (nb rfl) rfl rfl rfl rfl hc (by repeat' first | exact trivial | refine ⟨rfl, ?_⟩) rfl (by show ([1000, 1001, 1002, 1003, 1004] : List Nat).Nodup; decide) ?_ | refine aE rfl rfl rfl (nb rfl) rfl rfl (by omega) ?_ | refine bI rfl rfl rfl (nb rfl) rfl rfl rfl (by omega) (by omega) ?_ | refine bJ rfl rfl rfl (nb rfl) rfl rfl rfl (by omega) (by omega) ?_ | refine bH tabOk rfl rfl rfl (nb rfl) rfl rfl rfl rfl rfl rfl rfl rfl rfl ?_ | refine aZ tabOk rfl rfl (nb rfl) rfl ?_ | refine aU tabOk rfl rfl rfl (nb rfl) rfl rfl rfl rfl rfl rfl ?_ | refine aV tabOk rfl rfl rfl (nb rfl) rfl rfl rfl rfl ?_ | refine aN tabOk rfl rfl rfl rfl rfl rfl rfl rfl rfl rfl rfl ?_ | refine aR tabOk rfl rfl rfl (nb rfl) rfl rfl rfl rfl (by first | assumption | omega) ?_ | refine aJ tabOk rfl rfl rfl (nb rfl) rfl rfl rfl rfl (by first | rfl | omega) (by first | omega | simp) ?_ | refine aC tabOk rfl rfl rfl (nb rfl) rfl rfl rfl (by assumption) ?_ | refine aC tabOk rfl rfl rfl (nb rfl) rfl rfl rfl (bS _ _ (by first | assumption | omega)) ?_ | refine aE rfl rfl rfl (nb rfl) rfl rfl (by omega) ?_ | ((fail_if_success (refine aG (b := true) rfl rfl rfl ?_)); (fail_if_success (refine aG (b := false) rfl rfl rfl ?_)); refine aW rfl rfl rfl (fun hq => ?_) (fun hq => ?_) <;> first | subst hq | (first | (simp only [sD, sE, sB, sC, sN, sM, sT, sF] at hq; try (exfalso; omega)) | skip)) | fail) | (refine bW ?_; first | refine bN ?_ | refine bT ?_ | refine aQ ?_ | refine bD ?_ | refine bU ?_ | refine bL ?_ | refine bK ?_ | refine aA (b := true) rfl (fun _ => ?_) nTf | refine aA (b := false) rfl nFt (fun _ => ?_) | refine bE ?_ | refine bC ?_ | refine bA mixed (by kernel_rfl) ?_ | refine aD mixed (by kernel_rfl) ?_ | (refine aA rfl (fun hq => ?_) (fun hq => ?_) <;> first | subst hq | (first | (simp only [sD, sE, sB, sC, sN, sM, sT, sF] at hq; try (exfalso; omega)) | skip)) | fail) | (refine bQ ?_; first | refine bZ ?_ | refine aK ?_ | refine aT ?_ | fail) | (refine bG ?_; first | refine bV ?_ | refine aH ?_ | refine aI (by decide) ?_ | refine aM ?_ | fail) | refine bR (bB (by kernel_rfl)) ?_ | fail)
      all_goals first
        | exact absurd rfl (by assumption)
        | (refine cO (cM (by first | exact .inl rfl | exact .inr rfl) (cB rfl (aY rfl)) rfl (by repeat' first | exact trivial | refine ⟨rfl, ?_⟩) rfl ?_); rfl)
    · by_cases hk0 : kids.length = 0
      · have e0 : kids = [] := List.eq_nil_of_length_eq_zero hk0
        subst e0
        rw [gN _ _ _ _ k110]
        refine ⟨?_, hJ, by simp⟩
        refine cJ [1000, 1001, 1002, 1003, 1004] Try.func124 rfl rfl (nb rfl) rfl rfl ?_
        repeat' (first | refine bM ?_ | (refine bP ?_; first | refine aX tabOk rfl rfl rfl (nb rfl) rfl ?_ | refine bF rfl rfl (nb rfl) ?_ | (refine bO rfl rfl rfl (nb rfl) rfl rfl rfl (fun hq => ?_) (fun hq => ?_) <;> (first | (simp only [sD, sE, sB, sC, sN, sM, sT, sF] at hq; try (exfalso; omega)) | skip)) | refine aE rfl rfl rfl (nb rfl) rfl rfl (by omega) ?_ | refine bI rfl rfl rfl (nb rfl) rfl rfl rfl (by omega) (by omega) ?_ | refine bJ rfl rfl rfl (nb rfl) rfl rfl rfl (by omega) (by omega) ?_ | refine bH tabOk rfl rfl rfl (nb rfl) rfl rfl rfl rfl rfl rfl rfl rfl rfl ?_ | refine aZ tabOk rfl rfl (nb rfl) rfl ?_ | refine aU tabOk rfl rfl rfl (nb rfl) rfl rfl rfl rfl rfl rfl ?_ | refine aV tabOk rfl rfl rfl (nb rfl) rfl rfl rfl rfl ?_ | refine aN tabOk rfl rfl rfl rfl rfl rfl rfl rfl rfl rfl rfl ?_ | refine aR tabOk rfl rfl rfl (nb rfl) rfl rfl rfl rfl (by first | assumption | omega) ?_ | refine aJ tabOk rfl rfl rfl (nb rfl) rfl rfl rfl rfl (by first | rfl | omega) (by first | omega | simp) ?_ | refine aC tabOk rfl rfl rfl (nb rfl) rfl rfl rfl (by assumption) ?_ | refine aC tabOk rfl rfl rfl (nb rfl) rfl rfl rfl (bS _ _ (by first | assumption | omega)) ?_ | refine aE rfl rfl rfl (nb rfl) rfl rfl (by omega) ?_ | ((fail_if_success (refine aG (b := true) rfl rfl rfl ?_)); (fail_if_success (refine aG (b := false) rfl rfl rfl ?_)); refine aW rfl rfl rfl (fun hq => ?_) (fun hq => ?_) <;> first | subst hq | (first | (simp only [sD, sE, sB, sC, sN, sM, sT, sF] at hq; try (exfalso; omega)) | skip)) | fail) | (refine bW ?_; first | refine bN ?_ | refine bT ?_ | refine aQ ?_ | refine bD ?_ | refine bU ?_ | refine bL ?_ | refine bK ?_ | refine aA (b := true) rfl (fun _ => ?_) nTf | refine aA (b := false) rfl nFt (fun _ => ?_) | refine bE ?_ | refine bC ?_ | refine bA mixed (by kernel_rfl) ?_ | refine aD mixed (by kernel_rfl) ?_ | (refine aA rfl (fun hq => ?_) (fun hq => ?_) <;> first | subst hq | (first | (simp only [sD, sE, sB, sC, sN, sM, sT, sF] at hq; try (exfalso; omega)) | skip)) | fail) | (refine bQ ?_; first | refine bZ ?_ | refine aK ?_ | refine aT ?_ | fail) | (refine bG ?_; first | refine bV ?_ | refine aH ?_ | refine aI (by decide) ?_ | refine aM ?_ | fail) | refine bR (bB (by kernel_rfl)) ?_ | fail)
        all_goals first
          | exact absurd rfl (by assumption)
          | exact absurd (by assumption) k110
          | (refine cO (cM (by first | exact .inl rfl | exact .inr rfl) (cB rfl (aY rfl)) rfl (by repeat' first | exact trivial | refine ⟨rfl, ?_⟩) rfl ?_); rfl)
      · rw [gO _ _ _ _ k110 hk0]
        dsimp only
        have hb := fB k
        have hvs := dN k110 hv
        have hind : ∀ j (h : j < kids.length) s', J s' → ACalls Try.prog 124 [.imm kids[j].iv, .imm (.lit (.int .i64 (d + bindsP k))), .func F [] [.obj 1000 0, .obj 1001 0, .obj 1002 0, .obj 1003 0, .obj 1004 0]] [(1000, .cells [.imm (X0 s')]), (1001, .cells [.imm (X1 s')]), (1002, .cells [.imm (X2 s')]), (1003, .cells [.imm (X3 s')]), (1004, .cells [.imm (X4 s')])] (.imm (walkS V kids[j] (d + bindsP k) s').1.iv) [(1000, .cells [.imm (X0 ((walkS V kids[j] (d + bindsP k) s').2))]), (1001, .cells [.imm (X1 ((walkS V kids[j] (d + bindsP k) s').2))]), (1002, .cells [.imm (X2 ((walkS V kids[j] (d + bindsP k) s').2))]), (1003, .cells [.imm (X3 ((walkS V kids[j] (d + bindsP k) s').2))]), (1004, .cells [.imm (X4 ((walkS V kids[j] (d + bindsP k) s').2))])] ∧ J (walkS V kids[j] (d + bindsP k) s').2 ∧ (walkS V kids[j] (d + bindsP k) s').1 ≠ .nil := fun j h s' hJ' => by
          have hm := List.getElem_mem h
          have hz := cT hm
          exact ih _ hm _ s' (hvs _ hm) (cD hw hm) (by omega) (by omega) hJ'
        clear ih
        have hJs : ∀ j, j ≤ kids.length → J (walkSs V (kids.take j) (d + bindsP k) s).2 := by
          intro j
          induction j with
          | zero => intro _; rw [List.take_zero, cU]; exact hJ
          | succ j ihj =>
            intro hj
            rw [eA V (d + bindsP k) s hj]
            exact (hind j hj _ (ihj (by omega))).2.1
        have hJe := hJs kids.length (Nat.le_refl _)
        rw [List.take_length] at hJe
        refine ⟨?_, hJe, by simp⟩
        clear hJe
        have cb := uW k n a b kids
        refine cJ [1000, 1001, 1002, 1003, 1004] Try.func124 rfl rfl (nb rfl) rfl rfl ?_
        repeat' (first | refine bM ?_ | (refine bP ?_; first | refine aX tabOk rfl rfl rfl (nb rfl) rfl ?_ | refine bF rfl rfl (nb rfl) ?_ | (refine bO rfl rfl rfl (nb rfl) rfl rfl rfl (fun hq => ?_) (fun hq => ?_) <;> (first | (simp only [sD, sE, sB, sC, sN, sM, sT, sF] at hq; try (exfalso; omega)) | skip)) | refine aE rfl rfl rfl (nb rfl) rfl rfl (by omega) ?_ | refine bI rfl rfl rfl (nb rfl) rfl rfl rfl (by omega) (by omega) ?_ | refine bJ rfl rfl rfl (nb rfl) rfl rfl rfl (by omega) (by omega) ?_ | refine bH tabOk rfl rfl rfl (nb rfl) rfl rfl rfl rfl rfl rfl rfl rfl rfl ?_ | refine aZ tabOk rfl rfl (nb rfl) rfl ?_ | refine aU tabOk rfl rfl rfl (nb rfl) rfl rfl rfl rfl rfl rfl ?_ | refine aV tabOk rfl rfl rfl (nb rfl) rfl rfl rfl rfl ?_ | refine aN tabOk rfl rfl rfl rfl rfl rfl rfl rfl rfl rfl rfl ?_ | refine aR tabOk rfl rfl rfl (nb rfl) rfl rfl rfl rfl (by first | assumption | omega) ?_ | refine aJ tabOk rfl rfl rfl (nb rfl) rfl rfl rfl rfl (by first | rfl | omega) (by first | omega | simp) ?_ | refine aC tabOk rfl rfl rfl (nb rfl) rfl rfl rfl (by assumption) ?_ | refine aC tabOk rfl rfl rfl (nb rfl) rfl rfl rfl (bS _ _ (by first | assumption | omega)) ?_ | refine aE rfl rfl rfl (nb rfl) rfl rfl (by omega) ?_ | ((fail_if_success (refine aG (b := true) rfl rfl rfl ?_)); (fail_if_success (refine aG (b := false) rfl rfl rfl ?_)); refine aW rfl rfl rfl (fun hq => ?_) (fun hq => ?_) <;> first | subst hq | (first | (simp only [sD, sE, sB, sC, sN, sM, sT, sF] at hq; try (exfalso; omega)) | skip)) | fail) | (refine bW ?_; first | refine bN ?_ | refine bT ?_ | refine aQ ?_ | refine bD ?_ | refine bU ?_ | refine bL ?_ | refine bK ?_ | refine aA (b := true) rfl (fun _ => ?_) nTf | refine aA (b := false) rfl nFt (fun _ => ?_) | refine bE ?_ | refine bC ?_ | refine bA mixed (by kernel_rfl) ?_ | refine aD mixed (by kernel_rfl) ?_ | (refine aA rfl (fun hq => ?_) (fun hq => ?_) <;> first | subst hq | (first | (simp only [sD, sE, sB, sC, sN, sM, sT, sF] at hq; try (exfalso; omega)) | skip)) | fail) | (refine bQ ?_; first | refine bZ ?_ | refine aK ?_ | refine aT ?_ | fail) | (refine bG ?_; first | refine bV ?_ | refine aH ?_ | refine aI (by decide) ?_ | refine aM ?_ | fail) | refine bR (bB (by kernel_rfl)) ?_ | fail)
        all_goals first
          | exact absurd (by assumption) k110
          | (exfalso; omega)
          | skip
        refine cY (dU (h0 := 7) (k0 := 4) 500 25 1 rfl rfl (by simp) rfl rfl) ?_
        refine cH (ι := {j : Nat // j ≤ kids.length}) (fun j => S.f ⟨[(35, .imm (.lit (.int .i64 (j.1 : Int)))), (34, .imm (.lit (.int .i64 (kids.length : Int)))), (33, .imm (.sl false kids.length (Tree.ivs kids))), (7, .obj 7 0), (0, .imm (Tree.iv (.node k n a b kids))), (1, .imm (.lit (.int .i64 d))), (2, .func F [] [.obj 1000 0, .obj 1001 0, .obj 1002 0, .obj 1003 0, .obj 1004 0])], (500, .arr 25 1 j.1 (Tree.ivs (walkSs V (kids.take j.1) (d + bindsP k) s).1)) :: (7, .cells [.imm (.lit (.int .i64 k)), .imm (.lit (.int .i64 n)), .imm (.lit (.string a)), .imm (.lit (.string b)), .ref 500 j.1]) :: [(1000, .cells [.imm (X0 ((walkSs V (kids.take j.1) (d + bindsP k) s).2))]), (1001, .cells [.imm (X1 ((walkSs V (kids.take j.1) (d + bindsP k) s).2))]), (1002, .cells [.imm (X2 ((walkSs V (kids.take j.1) (d + bindsP k) s).2))]), (1003, .cells [.imm (X3 ((walkSs V (kids.take j.1) (d + bindsP k) s).2))]), (1004, .cells [.imm (X4 ((walkSs V (kids.take j.1) (d + bindsP k) s).2))])]⟩) (fun j => kids.length - j.1) ⟨0, Nat.zero_le _⟩ (cF (by repeat' first | exact trivial | refine ⟨rfl, ?_⟩) (by repeat' first | exact trivial | refine ⟨rfl, ?_⟩)) ?_
        rintro ⟨j, hj⟩
        dsimp only
        by_cases hlt : j < kids.length
        · have hget := bS kids j hlt
          have hnx := eA V (d + bindsP k) s hlt
          obtain ⟨hc, _, hnn⟩ := hind j hlt _ (hJs j hj)
          obtain ⟨pc, hpc⟩ := fR hnn
          rw [hpc] at hc
          have hll := dO V (kids.take j) (d + bindsP k) s
          rw [List.length_take, Nat.min_eq_left hj] at hll
          have hiv : Tree.ivs (walkSs V (kids.take (j + 1)) (d + bindsP k) s).1 = Tree.ivs (walkSs V (kids.take j) (d + bindsP k) s).1 ++ [(walkS V kids[j] (d + bindsP k) (walkSs V (kids.take j) (d + bindsP k) s).2).1.iv] := by
            rw [hnx, dK, dK, List.map_append]; rfl
          rw [hpc] at hiv
          clear hpc hnn
          have hst : (walkSs V (kids.take (j + 1)) (d + bindsP k) s).2 = (walkS V kids[j] (d + bindsP k) (walkSs V (kids.take j) (d + bindsP k) s).2).2 := by rw [hnx]
          clear hnx hind hJs
          have hil := eH (walkSs V (kids.take j) (d + bindsP k) s).1
          rw [hll] at hil
          generalize walkS V kids[j] (d + bindsP k) (walkSs V (kids.take j) (d + bindsP k) s).2 = W at *
          generalize walkSs V (kids.take j) (d + bindsP k) s = Z at *
          obtain ⟨W1, W2⟩ := W
          obtain ⟨Z1, Z2⟩ := Z
          dsimp only at *
          generalize Tree.ivs Z1 = ZI at *
          generalize hsum : d + bindsP k = dk at *
          repeat' (first | refine bM ?_ | (refine bP ?_; first | refine aX tabOk rfl rfl rfl (nb rfl) rfl ?_ | refine bF rfl rfl (nb rfl) ?_ | (refine bO rfl rfl rfl (nb rfl) rfl rfl rfl (fun hq => ?_) (fun hq => ?_) <;> (first | (simp only [sD, sE, sB, sC, sN, sM, sT, sF] at hq; try (exfalso; omega)) | skip))| refine aC tabOk rfl rfl rfl (nb rfl) rfl rfl rfl hget ?_ | refine bX rfl rfl (nb rfl) rfl rfl rfl rfl (cb) ?_ | refine bI (z := dk) rfl rfl rfl (nb rfl) rfl rfl hsum (by omega) (by omega) ?_ | refine cL rfl rfl (nb rfl) rfl rfl rfl rfl hc (by repeat' first | exact trivial | refine ⟨rfl, ?_⟩) rfl (by show ([1000, 1001, 1002, 1003, 1004] : List Nat).Nodup; decide) ?_ | refine dF tabOk rfl rfl rfl (nb rfl) rfl rfl rfl rfl rfl rfl rfl (by first | omega | decide) rfl (by first | omega | (dsimp only; omega)) (by first | omega | (dsimp only; omega)) ?_ | refine aE rfl rfl rfl (nb rfl) rfl rfl (by omega) ?_ | refine bI rfl rfl rfl (nb rfl) rfl rfl rfl (by omega) (by omega) ?_ | refine bJ rfl rfl rfl (nb rfl) rfl rfl rfl (by omega) (by omega) ?_ | refine bH tabOk rfl rfl rfl (nb rfl) rfl rfl rfl rfl rfl rfl rfl rfl rfl ?_ | refine aZ tabOk rfl rfl (nb rfl) rfl ?_ | refine aU tabOk rfl rfl rfl (nb rfl) rfl rfl rfl rfl rfl rfl ?_ | refine aV tabOk rfl rfl rfl (nb rfl) rfl rfl rfl rfl ?_ | refine aN tabOk rfl rfl rfl rfl rfl rfl rfl rfl rfl rfl rfl ?_ | refine aR tabOk rfl rfl rfl (nb rfl) rfl rfl rfl rfl (by first | assumption | omega) ?_ | refine aJ tabOk rfl rfl rfl (nb rfl) rfl rfl rfl rfl (by first | rfl | omega) (by first | omega | simp) ?_ | refine aC tabOk rfl rfl rfl (nb rfl) rfl rfl rfl (by assumption) ?_ | refine aC tabOk rfl rfl rfl (nb rfl) rfl rfl rfl (bS _ _ (by first | assumption | omega)) ?_ | refine aE rfl rfl rfl (nb rfl) rfl rfl (by omega) ?_ | ((fail_if_success (refine aG (b := true) rfl rfl rfl ?_)); (fail_if_success (refine aG (b := false) rfl rfl rfl ?_)); refine aW rfl rfl rfl (fun hq => ?_) (fun hq => ?_) <;> first | subst hq | (first | (simp only [sD, sE, sB, sC, sN, sM, sT, sF] at hq; try (exfalso; omega)) | skip)) | fail) | (refine bW ?_; first | refine bN ?_ | refine bT ?_ | refine aQ ?_ | refine bD ?_ | refine bU ?_ | refine bL ?_ | refine bK ?_ | refine aA (b := true) rfl (fun _ => ?_) nTf | refine aA (b := false) rfl nFt (fun _ => ?_) | refine bE ?_ | refine bC ?_ | refine bA mixed (by kernel_rfl) ?_ | refine aD mixed (by kernel_rfl) ?_ | (refine aA rfl (fun hq => ?_) (fun hq => ?_) <;> first | subst hq | (first | (simp only [sD, sE, sB, sC, sN, sM, sT, sF] at hq; try (exfalso; omega)) | skip)) | fail) | (refine bQ ?_; first | refine bZ ?_ | refine aK ?_ | refine aT ?_ | fail) | (refine bG ?_; first | refine bV ?_ | refine aH ?_ | refine aI (by decide) ?_ | refine aM ?_ | fail) | refine bR (bB (by kernel_rfl)) ?_ | fail)
          all_goals first
            | (exfalso; omega)
            | (refine ⟨⟨j + 1, hlt⟩, (by show kids.length - (j + 1) < kids.length - j; omega), ?_⟩; dsimp only; rw [hiv, hst]; exact (cF (by repeat' first | exact trivial | refine ⟨rfl, ?_⟩) (by repeat' first | exact trivial | refine ⟨rfl, ?_⟩)))
        · have ej : j = kids.length := by omega
          subst ej
          rw [List.take_length]
          have hll := dO V kids (d + bindsP k) s
          clear hind hJs
          generalize walkSs V kids (d + bindsP k) s = Z at *
          obtain ⟨Z1, Z2⟩ := Z
          dsimp only at *
          have hiv : (Tree.node k n a b Z1).iv = .ptr [.lit (.int .i64 k), .lit (.int .i64 n), .lit (.string a), .lit (.string b), .sl false kids.length (Tree.ivs Z1)] 0 := by rw [Tree.iv, hll]
          rw [hiv]
          generalize Tree.ivs Z1 = ZI at *
          repeat' (first | refine bM ?_ | (refine bP ?_; first | refine aX tabOk rfl rfl rfl (nb rfl) rfl ?_ | refine bF rfl rfl (nb rfl) ?_ | (refine bO rfl rfl rfl (nb rfl) rfl rfl rfl (fun hq => ?_) (fun hq => ?_) <;> (first | (simp only [sD, sE, sB, sC, sN, sM, sT, sF] at hq; try (exfalso; omega)) | skip)) | refine aE rfl rfl rfl (nb rfl) rfl rfl (by omega) ?_ | refine bI rfl rfl rfl (nb rfl) rfl rfl rfl (by omega) (by omega) ?_ | refine bJ rfl rfl rfl (nb rfl) rfl rfl rfl (by omega) (by omega) ?_ | refine bH tabOk rfl rfl rfl (nb rfl) rfl rfl rfl rfl rfl rfl rfl rfl rfl ?_ | refine aZ tabOk rfl rfl (nb rfl) rfl ?_ | refine aU tabOk rfl rfl rfl (nb rfl) rfl rfl rfl rfl rfl rfl ?_ | refine aV tabOk rfl rfl rfl (nb rfl) rfl rfl rfl rfl ?_ | refine aN tabOk rfl rfl rfl rfl rfl rfl rfl rfl rfl rfl rfl ?_ | refine aR tabOk rfl rfl rfl (nb rfl) rfl rfl rfl rfl (by first | assumption | omega) ?_ | refine aJ tabOk rfl rfl rfl (nb rfl) rfl rfl rfl rfl (by first | rfl | omega) (by first | omega | simp) ?_ | refine aC tabOk rfl rfl rfl (nb rfl) rfl rfl rfl (by assumption) ?_ | refine aC tabOk rfl rfl rfl (nb rfl) rfl rfl rfl (bS _ _ (by first | assumption | omega)) ?_ | refine aE rfl rfl rfl (nb rfl) rfl rfl (by omega) ?_ | ((fail_if_success (refine aG (b := true) rfl rfl rfl ?_)); (fail_if_success (refine aG (b := false) rfl rfl rfl ?_)); refine aW rfl rfl rfl (fun hq => ?_) (fun hq => ?_) <;> first | subst hq | (first | (simp only [sD, sE, sB, sC, sN, sM, sT, sF] at hq; try (exfalso; omega)) | skip)) | fail) | (refine bW ?_; first | refine bN ?_ | refine bT ?_ | refine aQ ?_ | refine bD ?_ | refine bU ?_ | refine bL ?_ | refine bK ?_ | refine aA (b := true) rfl (fun _ => ?_) nTf | refine aA (b := false) rfl nFt (fun _ => ?_) | refine bE ?_ | refine bC ?_ | refine bA mixed (by kernel_rfl) ?_ | refine aD mixed (by kernel_rfl) ?_ | (refine aA rfl (fun hq => ?_) (fun hq => ?_) <;> first | subst hq | (first | (simp only [sD, sE, sB, sC, sN, sM, sT, sF] at hq; try (exfalso; omega)) | skip)) | fail) | (refine bQ ?_; first | refine bZ ?_ | refine aK ?_ | refine aT ?_ | fail) | (refine bG ?_; first | refine bV ?_ | refine aH ?_ | refine aI (by decide) ?_ | refine aM ?_ | fail) | refine bR (bB (by kernel_rfl)) ?_ | fail)
          all_goals first
            | (exfalso; omega)
            | (refine oL ((Imp.of_le (σ' := S.f ⟨[(6, .obj 7 0)], (500, .arr 25 1 kids.length ZI) :: (7, .cells [.imm (.lit (.int .i64 k)), .imm (.lit (.int .i64 n)), .imm (.lit (.string a)), .imm (.lit (.string b)), .ref 500 kids.length]) :: [(1000, .cells [.imm (X0 Z2)]), (1001, .cells [.imm (X1 Z2)]), (1002, .cells [.imm (X2 Z2)]), (1003, .cells [.imm (X3 Z2)]), (1004, .cells [.imm (X4 Z2)])]⟩) (cF (by repeat' first | exact trivial | refine ⟨rfl, ?_⟩) (by repeat' first | exact trivial | refine ⟨rfl, ?_⟩))).trans ((cW (g := 500) rfl (by repeat' first | exact trivial | exact fun _ => rfl | refine ⟨?_, ?_⟩) (by repeat' first | exact trivial | exact fun _ => rfl | refine ⟨?_, ?_⟩)).trans (dE (g := 7) rfl rfl))) ?_
               refine cM (by first | exact .inl rfl | exact .inr rfl) (cB rfl (aY rfl)) rfl (by repeat' first | exact trivial | refine ⟨rfl, ?_⟩) rfl rfl)
end Go.Proofs.Ytlbemgokilhdnaa.Ab
namespace Go.Proofs.Ytlbemgokilhdnaa.Ab
set_option linter.unusedVariables false
set_option linter.unusedSimpArgs false
attribute [local irreducible] AWP AOps AExit AThen ABlock ANoGoto FeetOk
set_option maxHeartbeats 4000000 in
set_option maxRecDepth 10000 in
theorem uX (k n : Int) (a b : ByteArray) (kids : List Tree) (by_ : Int) (h1 : 0 ≤ n + by_) (h2 : n + by_ ≤ 65536) : ACalls Try.prog 126 [.imm (Tree.iv (.node k n a b kids)), .imm (.lit (.int .i64 by_))] [] (.imm (varT (n + by_)).iv) [] := by
  generalize hz : n + by_ = z at *
  refine cS Try.func126 rfl rfl (nb rfl) rfl ?_
  repeat' (first | refine bM ?_ | (refine bP ?_; first | refine aX tabOk rfl rfl rfl (nb rfl) rfl ?_ | refine bF rfl rfl (nb rfl) ?_ | (refine bO rfl rfl rfl (nb rfl) rfl rfl rfl (fun hq => ?_) (fun hq => ?_) <;> (first | (simp only [sD, sE, sB, sC, sN, sM, sT, sF] at hq; try (exfalso; omega)) | skip))| refine bI (z := z) rfl rfl rfl (nb rfl) rfl rfl hz (by omega) (by omega) ?_ | refine dG tabOk rfl rfl rfl (nb rfl) rfl rfl rfl rfl rfl ?_ | refine oI (t := 38) rfl rfl rfl (nb rfl) rfl rfl rfl rfl rfl rfl rfl ?_ | refine aE rfl rfl rfl (nb rfl) rfl rfl (by omega) ?_ | refine bI rfl rfl rfl (nb rfl) rfl rfl rfl (by omega) (by omega) ?_ | refine bJ rfl rfl rfl (nb rfl) rfl rfl rfl (by omega) (by omega) ?_ | refine bH tabOk rfl rfl rfl (nb rfl) rfl rfl rfl rfl rfl rfl rfl rfl rfl ?_ | refine aZ tabOk rfl rfl (nb rfl) rfl ?_ | refine aU tabOk rfl rfl rfl (nb rfl) rfl rfl rfl rfl rfl rfl ?_ | refine aV tabOk rfl rfl rfl (nb rfl) rfl rfl rfl rfl ?_ | refine aN tabOk rfl rfl rfl rfl rfl rfl rfl rfl rfl rfl rfl ?_ | refine aR tabOk rfl rfl rfl (nb rfl) rfl rfl rfl rfl (by first | assumption | omega) ?_ | refine aJ tabOk rfl rfl rfl (nb rfl) rfl rfl rfl rfl (by first | rfl | omega) (by first | omega | simp) ?_ | refine aC tabOk rfl rfl rfl (nb rfl) rfl rfl rfl (by assumption) ?_ | refine aC tabOk rfl rfl rfl (nb rfl) rfl rfl rfl (bS _ _ (by first | assumption | omega)) ?_ | refine aE rfl rfl rfl (nb rfl) rfl rfl (by omega) ?_ | ((fail_if_success (refine aG (b := true) rfl rfl rfl ?_)); (fail_if_success (refine aG (b := false) rfl rfl rfl ?_)); refine aW rfl rfl rfl (fun hq => ?_) (fun hq => ?_) <;> first | subst hq | (first | (simp only [sD, sE, sB, sC, sN, sM, sT, sF] at hq; try (exfalso; omega)) | skip)) | fail) | (refine bW ?_; first | refine bN ?_ | refine bT ?_ | refine aQ ?_ | refine bD ?_ | refine bU ?_ | refine bL ?_ | refine bK ?_ | refine aA (b := true) rfl (fun _ => ?_) nTf | refine aA (b := false) rfl nFt (fun _ => ?_) | refine bE ?_ | refine bC ?_ | refine bA mixed (by kernel_rfl) ?_ | refine aD mixed (by kernel_rfl) ?_ | (refine aA rfl (fun hq => ?_) (fun hq => ?_) <;> first | subst hq | (first | (simp only [sD, sE, sB, sC, sN, sM, sT, sF] at hq; try (exfalso; omega)) | skip)) | fail) | (refine bQ ?_; first | refine bZ ?_ | refine aK ?_ | refine aT ?_ | fail) | (refine bG ?_; first | refine bV ?_ | refine aH ?_ | refine aI (by decide) ?_ | refine aM ?_ | fail) | refine bR (bB (by kernel_rfl)) ?_ | fail)
  all_goals (refine dR (dE (g := 12) rfl rfl) ?_; refine cA (by first | exact .inl rfl | exact .inr rfl) (cB rfl (aY rfl)) rfl ?_; rfl)
/-- What Shift makes of a variable. -/
def shiftV (by_ from_ : Int) (n d : Int) (ok : Bool) : Tree × Bool :=
  if n < d ∨ n - d < from_ then (varT n, ok)
  else if ok = true ∧ d - n ≤ by_ ∧ by_ ≤ 65536 - n then (varT (n + by_), true) else (varT n, false)
set_option maxHeartbeats 8000000 in
set_option maxRecDepth 10000 in
theorem xR (by_ from_ : Int) (n d : Int) (ok : Bool) (hn0 : 0 ≤ n) (hn : n ≤ 65536) (hd0 : 0 ≤ d) (hd : d ≤ 1000000) :
    ACalls Try.prog 125 [.imm (varT n).iv, .imm (.lit (.int .i64 d)), .obj 1000 0, .obj 1001 0, .obj 1002 0] [(1000, .cells [.imm (.lit (.int .i64 from_))]), (1001, .cells [.imm (.lit (.bool ok))]), (1002, .cells [.imm (.lit (.int .i64 by_))])]
      (.imm (shiftV by_ from_ n d ok).1.iv) [(1000, .cells [.imm (.lit (.int .i64 from_))]), (1001, .cells [.imm (.lit (.bool (shiftV by_ from_ n d ok).2))]), (1002, .cells [.imm (.lit (.int .i64 by_))])] := by
  by_cases h1 : n < d ∨ n - d < from_
  · have e : shiftV by_ from_ n d ok = (varT n, ok) := if_pos h1
    rw [e]
    unfold varT
    refine cJ [1000, 1001, 1002] Try.func125 rfl rfl (nb rfl) rfl rfl ?_
    repeat' (first | refine bM ?_ | (refine bP ?_; first | refine aX tabOk rfl rfl rfl (nb rfl) rfl ?_ | refine bF rfl rfl (nb rfl) ?_ | (refine bO rfl rfl rfl (nb rfl) rfl rfl rfl (fun hq => ?_) (fun hq => ?_) <;> (first | (simp only [sD, sE, sB, sC, sN, sM, sT, sF] at hq; try (exfalso; omega)) | skip)) | refine aE rfl rfl rfl (nb rfl) rfl rfl (by omega) ?_ | refine bI rfl rfl rfl (nb rfl) rfl rfl rfl (by omega) (by omega) ?_ | refine bJ rfl rfl rfl (nb rfl) rfl rfl rfl (by omega) (by omega) ?_ | refine bH tabOk rfl rfl rfl (nb rfl) rfl rfl rfl rfl rfl rfl rfl rfl rfl ?_ | refine aZ tabOk rfl rfl (nb rfl) rfl ?_ | refine aU tabOk rfl rfl rfl (nb rfl) rfl rfl rfl rfl rfl rfl ?_ | refine aV tabOk rfl rfl rfl (nb rfl) rfl rfl rfl rfl ?_ | refine aN tabOk rfl rfl rfl rfl rfl rfl rfl rfl rfl rfl rfl ?_ | refine aR tabOk rfl rfl rfl (nb rfl) rfl rfl rfl rfl (by first | assumption | omega) ?_ | refine aJ tabOk rfl rfl rfl (nb rfl) rfl rfl rfl rfl (by first | rfl | omega) (by first | omega | simp) ?_ | refine aC tabOk rfl rfl rfl (nb rfl) rfl rfl rfl (by assumption) ?_ | refine aC tabOk rfl rfl rfl (nb rfl) rfl rfl rfl (bS _ _ (by first | assumption | omega)) ?_ | refine aE rfl rfl rfl (nb rfl) rfl rfl (by omega) ?_ | ((fail_if_success (refine aG (b := true) rfl rfl rfl ?_)); (fail_if_success (refine aG (b := false) rfl rfl rfl ?_)); refine aW rfl rfl rfl (fun hq => ?_) (fun hq => ?_) <;> first | subst hq | (first | (simp only [sD, sE, sB, sC, sN, sM, sT, sF] at hq; try (exfalso; omega)) | skip)) | fail) | (refine bW ?_; first | refine bN ?_ | refine bT ?_ | refine aQ ?_ | refine bD ?_ | refine bU ?_ | refine bL ?_ | refine bK ?_ | refine aA (b := true) rfl (fun _ => ?_) nTf | refine aA (b := false) rfl nFt (fun _ => ?_) | refine bE ?_ | refine bC ?_ | refine bA mixed (by kernel_rfl) ?_ | refine aD mixed (by kernel_rfl) ?_ | (refine aA rfl (fun hq => ?_) (fun hq => ?_) <;> first | subst hq | (first | (simp only [sD, sE, sB, sC, sN, sM, sT, sF] at hq; try (exfalso; omega)) | skip)) | fail) | (refine bQ ?_; first | refine bZ ?_ | refine aK ?_ | refine aT ?_ | fail) | (refine bG ?_; first | refine bV ?_ | refine aH ?_ | refine aI (by decide) ?_ | refine aM ?_ | fail) | refine bR (bB (by kernel_rfl)) ?_ | fail)
    all_goals first
      | exact absurd rfl (by assumption)
      | (exfalso; omega)
      | (refine cO (cM (by first | exact .inl rfl | exact .inr rfl) (cB rfl (aY rfl)) rfl (by repeat' first | exact trivial | refine ⟨rfl, ?_⟩) rfl ?_); rfl)
  · by_cases h2 : ok = true ∧ d - n ≤ by_ ∧ by_ ≤ 65536 - n
    · have e : shiftV by_ from_ n d ok = (varT (n + by_), true) := by unfold shiftV; rw [if_neg h1, if_pos h2]
      rw [e]
      have cm := uX 110 n emptyB emptyB [] by_ (by omega) (by omega)
      obtain ⟨hok, h3, h4⟩ := h2
      subst hok
      generalize varT (n + by_) = Z at *
      unfold varT
      refine cJ [1000, 1001, 1002] Try.func125 rfl rfl (nb rfl) rfl rfl ?_
      repeat' (first | refine bM ?_ | (refine bP ?_; first | refine aX tabOk rfl rfl rfl (nb rfl) rfl ?_ | refine bF rfl rfl (nb rfl) ?_ | (refine bO rfl rfl rfl (nb rfl) rfl rfl rfl (fun hq => ?_) (fun hq => ?_) <;> (first | (simp only [sD, sE, sB, sC, sN, sM, sT, sF] at hq; try (exfalso; omega)) | skip))| refine bX rfl rfl (nb rfl) rfl rfl rfl rfl (cm) ?_ | refine aE rfl rfl rfl (nb rfl) rfl rfl (by omega) ?_ | refine bI rfl rfl rfl (nb rfl) rfl rfl rfl (by omega) (by omega) ?_ | refine bJ rfl rfl rfl (nb rfl) rfl rfl rfl (by omega) (by omega) ?_ | refine bH tabOk rfl rfl rfl (nb rfl) rfl rfl rfl rfl rfl rfl rfl rfl rfl ?_ | refine aZ tabOk rfl rfl (nb rfl) rfl ?_ | refine aU tabOk rfl rfl rfl (nb rfl) rfl rfl rfl rfl rfl rfl ?_ | refine aV tabOk rfl rfl rfl (nb rfl) rfl rfl rfl rfl ?_ | refine aN tabOk rfl rfl rfl rfl rfl rfl rfl rfl rfl rfl rfl ?_ | refine aR tabOk rfl rfl rfl (nb rfl) rfl rfl rfl rfl (by first | assumption | omega) ?_ | refine aJ tabOk rfl rfl rfl (nb rfl) rfl rfl rfl rfl (by first | rfl | omega) (by first | omega | simp) ?_ | refine aC tabOk rfl rfl rfl (nb rfl) rfl rfl rfl (by assumption) ?_ | refine aC tabOk rfl rfl rfl (nb rfl) rfl rfl rfl (bS _ _ (by first | assumption | omega)) ?_ | refine aE rfl rfl rfl (nb rfl) rfl rfl (by omega) ?_ | ((fail_if_success (refine aG (b := true) rfl rfl rfl ?_)); (fail_if_success (refine aG (b := false) rfl rfl rfl ?_)); refine aW rfl rfl rfl (fun hq => ?_) (fun hq => ?_) <;> first | subst hq | (first | (simp only [sD, sE, sB, sC, sN, sM, sT, sF] at hq; try (exfalso; omega)) | skip)) | fail) | (refine bW ?_; first | refine bN ?_ | refine bT ?_ | refine aQ ?_ | refine bD ?_ | refine bU ?_ | refine bL ?_ | refine bK ?_ | refine aA (b := true) rfl (fun _ => ?_) nTf | refine aA (b := false) rfl nFt (fun _ => ?_) | refine bE ?_ | refine bC ?_ | refine bA mixed (by kernel_rfl) ?_ | refine aD mixed (by kernel_rfl) ?_ | (refine aA rfl (fun hq => ?_) (fun hq => ?_) <;> first | subst hq | (first | (simp only [sD, sE, sB, sC, sN, sM, sT, sF] at hq; try (exfalso; omega)) | skip)) | fail) | (refine bQ ?_; first | refine bZ ?_ | refine aK ?_ | refine aT ?_ | fail) | (refine bG ?_; first | refine bV ?_ | refine aH ?_ | refine aI (by decide) ?_ | refine aM ?_ | fail) | refine bR (bB (by kernel_rfl)) ?_ | fail)
      all_goals first
        | exact absurd rfl (by assumption)
        | (exfalso; omega)
        | (refine cO (cM (by first | exact .inl rfl | exact .inr rfl) (cB rfl (aY rfl)) rfl (by repeat' first | exact trivial | refine ⟨rfl, ?_⟩) rfl ?_); rfl)
    · have e : shiftV by_ from_ n d ok = (varT n, false) := by unfold shiftV; rw [if_neg h1, if_neg h2]
      rw [e]
      unfold varT
      cases ok with
      | false =>
        refine cJ [1000, 1001, 1002] Try.func125 rfl rfl (nb rfl) rfl rfl ?_
        repeat' (first | refine bM ?_ | (refine bP ?_; first | refine aX tabOk rfl rfl rfl (nb rfl) rfl ?_ | refine bF rfl rfl (nb rfl) ?_ | (refine bO rfl rfl rfl (nb rfl) rfl rfl rfl (fun hq => ?_) (fun hq => ?_) <;> (first | (simp only [sD, sE, sB, sC, sN, sM, sT, sF] at hq; try (exfalso; omega)) | skip)) | refine aE rfl rfl rfl (nb rfl) rfl rfl (by omega) ?_ | refine bI rfl rfl rfl (nb rfl) rfl rfl rfl (by omega) (by omega) ?_ | refine bJ rfl rfl rfl (nb rfl) rfl rfl rfl (by omega) (by omega) ?_ | refine bH tabOk rfl rfl rfl (nb rfl) rfl rfl rfl rfl rfl rfl rfl rfl rfl ?_ | refine aZ tabOk rfl rfl (nb rfl) rfl ?_ | refine aU tabOk rfl rfl rfl (nb rfl) rfl rfl rfl rfl rfl rfl ?_ | refine aV tabOk rfl rfl rfl (nb rfl) rfl rfl rfl rfl ?_ | refine aN tabOk rfl rfl rfl rfl rfl rfl rfl rfl rfl rfl rfl ?_ | refine aR tabOk rfl rfl rfl (nb rfl) rfl rfl rfl rfl (by first | assumption | omega) ?_ | refine aJ tabOk rfl rfl rfl (nb rfl) rfl rfl rfl rfl (by first | rfl | omega) (by first | omega | simp) ?_ | refine aC tabOk rfl rfl rfl (nb rfl) rfl rfl rfl (by assumption) ?_ | refine aC tabOk rfl rfl rfl (nb rfl) rfl rfl rfl (bS _ _ (by first | assumption | omega)) ?_ | refine aE rfl rfl rfl (nb rfl) rfl rfl (by omega) ?_ | ((fail_if_success (refine aG (b := true) rfl rfl rfl ?_)); (fail_if_success (refine aG (b := false) rfl rfl rfl ?_)); refine aW rfl rfl rfl (fun hq => ?_) (fun hq => ?_) <;> first | subst hq | (first | (simp only [sD, sE, sB, sC, sN, sM, sT, sF] at hq; try (exfalso; omega)) | skip)) | fail) | (refine bW ?_; first | refine bN ?_ | refine bT ?_ | refine aQ ?_ | refine bD ?_ | refine bU ?_ | refine bL ?_ | refine bK ?_ | refine aA (b := true) rfl (fun _ => ?_) nTf | refine aA (b := false) rfl nFt (fun _ => ?_) | refine bE ?_ | refine bC ?_ | refine bA mixed (by kernel_rfl) ?_ | refine aD mixed (by kernel_rfl) ?_ | (refine aA rfl (fun hq => ?_) (fun hq => ?_) <;> first | subst hq | (first | (simp only [sD, sE, sB, sC, sN, sM, sT, sF] at hq; try (exfalso; omega)) | skip)) | fail) | (refine bQ ?_; first | refine bZ ?_ | refine aK ?_ | refine aT ?_ | fail) | (refine bG ?_; first | refine bV ?_ | refine aH ?_ | refine aI (by decide) ?_ | refine aM ?_ | fail) | refine bR (bB (by kernel_rfl)) ?_ | fail)
        all_goals first
          | exact absurd rfl (by assumption)
          | (exfalso; omega)
          | (refine cO (cM (by first | exact .inl rfl | exact .inr rfl) (cB rfl (aY rfl)) rfl (by repeat' first | exact trivial | refine ⟨rfl, ?_⟩) rfl ?_); rfl)
      | true =>
        have h2 : ¬ (d - n ≤ by_ ∧ by_ ≤ 65536 - n) := fun h => h2 ⟨rfl, h⟩
        refine cJ [1000, 1001, 1002] Try.func125 rfl rfl (nb rfl) rfl rfl ?_
        repeat' (first | refine bM ?_ | (refine bP ?_; first | refine aX tabOk rfl rfl rfl (nb rfl) rfl ?_ | refine bF rfl rfl (nb rfl) ?_ | (refine bO rfl rfl rfl (nb rfl) rfl rfl rfl (fun hq => ?_) (fun hq => ?_) <;> (first | (simp only [sD, sE, sB, sC, sN, sM, sT, sF] at hq; try (exfalso; omega)) | skip)) | refine aE rfl rfl rfl (nb rfl) rfl rfl (by omega) ?_ | refine bI rfl rfl rfl (nb rfl) rfl rfl rfl (by omega) (by omega) ?_ | refine bJ rfl rfl rfl (nb rfl) rfl rfl rfl (by omega) (by omega) ?_ | refine bH tabOk rfl rfl rfl (nb rfl) rfl rfl rfl rfl rfl rfl rfl rfl rfl ?_ | refine aZ tabOk rfl rfl (nb rfl) rfl ?_ | refine aU tabOk rfl rfl rfl (nb rfl) rfl rfl rfl rfl rfl rfl ?_ | refine aV tabOk rfl rfl rfl (nb rfl) rfl rfl rfl rfl ?_ | refine aN tabOk rfl rfl rfl rfl rfl rfl rfl rfl rfl rfl rfl ?_ | refine aR tabOk rfl rfl rfl (nb rfl) rfl rfl rfl rfl (by first | assumption | omega) ?_ | refine aJ tabOk rfl rfl rfl (nb rfl) rfl rfl rfl rfl (by first | rfl | omega) (by first | omega | simp) ?_ | refine aC tabOk rfl rfl rfl (nb rfl) rfl rfl rfl (by assumption) ?_ | refine aC tabOk rfl rfl rfl (nb rfl) rfl rfl rfl (bS _ _ (by first | assumption | omega)) ?_ | refine aE rfl rfl rfl (nb rfl) rfl rfl (by omega) ?_ | ((fail_if_success (refine aG (b := true) rfl rfl rfl ?_)); (fail_if_success (refine aG (b := false) rfl rfl rfl ?_)); refine aW rfl rfl rfl (fun hq => ?_) (fun hq => ?_) <;> first | subst hq | (first | (simp only [sD, sE, sB, sC, sN, sM, sT, sF] at hq; try (exfalso; omega)) | skip)) | fail) | (refine bW ?_; first | refine bN ?_ | refine bT ?_ | refine aQ ?_ | refine bD ?_ | refine bU ?_ | refine bL ?_ | refine bK ?_ | refine aA (b := true) rfl (fun _ => ?_) nTf | refine aA (b := false) rfl nFt (fun _ => ?_) | refine bE ?_ | refine bC ?_ | refine bA mixed (by kernel_rfl) ?_ | refine aD mixed (by kernel_rfl) ?_ | (refine aA rfl (fun hq => ?_) (fun hq => ?_) <;> first | subst hq | (first | (simp only [sD, sE, sB, sC, sN, sM, sT, sF] at hq; try (exfalso; omega)) | skip)) | fail) | (refine bQ ?_; first | refine bZ ?_ | refine aK ?_ | refine aT ?_ | fail) | (refine bG ?_; first | refine bV ?_ | refine aH ?_ | refine aI (by decide) ?_ | refine aM ?_ | fail) | refine bR (bB (by kernel_rfl)) ?_ | fail)
        all_goals first
          | exact absurd rfl (by assumption)
          | (exfalso; omega)
          | (refine cO (cM (by first | exact .inl rfl | exact .inr rfl) (cB rfl (aY rfl)) rfl (by repeat' first | exact trivial | refine ⟨rfl, ?_⟩) rfl ?_); rfl)
end Go.Proofs.Ytlbemgokilhdnaa.Ab
namespace Go.Proofs.Ytlbemgokilhdnaa.Ab
set_option linter.unusedVariables false
set_option linter.unusedSimpArgs false
attribute [local irreducible] AWP AOps AExit AThen ABlock ANoGoto FeetOk
theorem pR {a b : ByteArray} (h : eqB a b = true) : a = b := (dW a b).1 h
theorem hU {kind : Int} (hk : kind ≠ 110) {t : Tree} (ih : ∀ t' : Tree, t'.size < t.size → isConP t' = true → okVars t' = true) (h : okNamed kind t = true) : okVars t = true := by
  cases t with
  | nil => simp [okNamed] at h
  | node k n a b ks =>
    simp only [okNamed, Bool.and_eq_true, beq_iff_eq] at h
    obtain ⟨⟨⟨rfl, _⟩, _⟩, h⟩ := h
    by_cases h1 : ks.length = 1
    · obtain ⟨c, rfl⟩ := one_of h1
      rw [okVars, if_neg hk]
      refine gM fun t ht => ?_
      obtain rfl := List.mem_singleton.1 ht
      exact ih t (cG (by simp)) (by simpa [isCon1] using h)
    · rw [fA h1] at h; cases h
/-- A constructor has no other variables than may be. -/
theorem dP (t : Tree) : isConP t = true → okVars t = true := by
  induction t using Tree.sind with
  | h t ih =>
    intro h
    cases t with
    | nil => simp [isConP] at h
    | node k n a b kids =>
      rw [isConP, Bool.and_eq_true] at h
      obtain ⟨hb, h⟩ := h
      by_cases k0 : k = 110
      · rw [if_pos k0] at h
        subst k0
        simp only [bareP, Bool.and_eq_true, Bool.or_eq_true, beq_self_eq_true, true_or, or_true, Bool.false_eq_true, false_or, decide_eq_true_eq, beq_iff_eq, and_true] at hb h
        rw [okVars, if_pos rfl]
        have e0 : kids = [] := List.eq_nil_of_length_eq_zero (by omega)
        rw [decide_eq_true ⟨h.1.1, h.1.2⟩, decide_eq_true (pR hb.2), decide_eq_true (pR hb.1), e0]
        rfl
      · rw [if_neg k0] at h
        have kid : ∀ t ∈ kids, isConP t = true → okVars t = true := fun t ht => ih t (cG ht)
        rw [okVars, if_neg k0]
        refine gM fun t ht => ?_
        by_cases k1 : k = 111 ∨ k = 112 ∨ k = 113
        · rw [if_pos k1] at h
          have e0 : kids = [] := List.eq_nil_of_length_eq_zero (by simpa using h)
          rw [e0] at ht
          cases ht
        · rw [if_neg k1] at h
          by_cases k2 : k = 114 ∨ k = 120
          · rw [if_pos k2, Bool.and_eq_true, jK] at h
            exact kid t ht (List.all_eq_true.1 h.2 t ht)
          · rw [if_neg k2] at h
            by_cases k3 : k = 115
            · rw [if_pos k3, Bool.and_eq_true, dC] at h
              have hz := cG (k := k) (n := n) (a := a) (b := b) ht
              exact hU (by decide) (fun t' h1 h2 => ih t' (by omega) h2) (List.all_eq_true.1 h.1 t ht)
            · rw [if_neg k3] at h
              by_cases k4 : k = 117 ∨ k = 118 ∨ k = 119
              · rw [if_pos k4] at h
                by_cases h2 : kids.length = 2
                · obtain ⟨x, y, rfl⟩ := two h2
                  simp only [isCon2, Bool.and_eq_true] at h
                  rcases List.mem_cons.1 ht with rfl | ht'
                  · exact rB _ h.1
                  · obtain rfl := List.mem_singleton.1 ht'
                    exact kid _ ht h.2
                · rw [eI h2] at h; cases h
              · rw [if_neg k4] at h
                by_cases k5 : k = 121
                · rw [if_pos k5, Bool.and_eq_true, Bool.and_eq_true, dC] at h
                  have hz := cG (k := k) (n := n) (a := a) (b := b) ht
                  exact hU (by decide) (fun t' h1 h2 => ih t' (by omega) h2) (List.all_eq_true.1 h.1.2 t ht)
                · rw [if_neg k5] at h; cases h
/-- A tree that was found whole has no more nodes than may be. -/
theorem rC (t : Tree) : ∀ l : Int, 0 ≤ l → (wholeP t l).1 = 0 → (wholeP t l).2 = l - t.size := by
  induction t using Tree.ind with
  | h1 => intro l _ h; simp [wholeP] at h
  | h2 k n a b kids ih =>
    intro l hl h
    rw [wholeP] at h ⊢
    split at h
    · cases h
    · rename_i hn
      rw [if_neg hn]
      have key : ∀ (ts : List Tree) (x : Int), (∀ t ∈ ts, t ∈ kids) → 0 ≤ x → (wholePs ts x).1 = 0 → (wholePs ts x).2 = x - Tree.sizes ts := by
        intro ts
        induction ts with
        | nil => intro x _ hx _; simp [wholePs, Tree.sizes]
        | cons t ts ih2 =>
          intro x hm hx he
          rw [wholePs] at he ⊢
          split at he
          · rename_i e
            rw [if_pos e]
            have h1 := ih t (hm t (by simp)) x hx e
            have h0 := gL t x hx e
            have h2 := ih2 (wholeP t x).2 (fun t' ht' => hm t' (by simp [ht'])) h0.1 he
            rw [h2, h1, Tree.sizes]
            omega
          · rename_i e; exact absurd he e
      rw [key kids (l - 1) (fun _ h => h) (by omega) h, Tree.size]
      omega
theorem cQ {form : Tree → Bool} {t : Tree} (h : checkP form t = 0) : t.whole = true ∧ t.size ≤ 65536 ∧ form t = true := by
  unfold checkP at h
  split at h
  · rename_i h0
    split at h
    · rename_i hf
      have h1 := rC t 65536 (by omega) h0
      have h2 := gL t 65536 (by omega) h0
      exact ⟨eD t _ h0, by omega, hf⟩
    · cases h
  · rename_i h0; exact absurd h h0
/-- What Shift tells. -/
def shiftP (t : Tree) (by_ from_ : Int) : Tree × Int :=
  if checkP isConP t = 0 then
    (if (walkS (shiftV by_ from_) t 0 (decide (0 ≤ from_))).2 = true then ((walkS (shiftV by_ from_) t 0 (decide (0 ≤ from_))).1, 0) else (.nil, 2))
  else (.nil, checkP isConP t)
set_option maxHeartbeats 8000000 in
set_option maxRecDepth 10000 in
theorem zG (t : Tree) (by_ from_ : Int) (hs : t.size ≤ 1000000) : ACalls Try.prog 105 [.imm t.iv, .imm (.lit (.int .i64 by_)), .imm (.lit (.int .i64 from_))] [] (.imm (.tup [(shiftP t by_ from_).1.iv, .lit (.int .i64 (shiftP t by_ from_).2)])) [] := by
  have c1 := gC t hs
  unfold shiftP
  obtain ⟨ok0, hok0⟩ : ∃ b, decide (0 ≤ from_) = b := ⟨_, rfl⟩
  rw [hok0]
  have hfr : (ok0 = true ∧ 0 ≤ from_) ∨ (ok0 = false ∧ ¬ 0 ≤ from_) := by
    cases ok0 with
    | true => exact .inl ⟨rfl, of_decide_eq_true hok0⟩
    | false => exact .inr ⟨rfl, of_decide_eq_false hok0⟩
  clear hok0
  by_cases hc : checkP isConP t = 0
  · rw [if_pos hc]
    obtain ⟨hw, hz, hf⟩ := cQ hc
    have hv := dP t hf
    have cw := (zE (σ := Bool) (shiftV by_ from_) 125 (fun _ => .lit (.int .i64 from_)) (fun ok => .lit (.bool ok)) (fun _ => .lit (.int .i64 by_)) (fun _ => True)
      (fun n d s _ h1 h2 h3 h4 => ⟨xR by_ from_ n d s h1 h2 h3 h4, trivial, by unfold shiftV varT; split <;> (try split) <;> simp⟩) t 0 ok0 hv hw (Int.le_refl _) (by omega) trivial)
    obtain ⟨cw, _, hne⟩ := cw
    obtain ⟨pc, hpc⟩ := fR hne
    rw [hpc] at cw
    rw [hc] at c1
    cases hR : (walkS (shiftV by_ from_) t 0 ok0).2 with
    | true =>
      rw [if_pos rfl]
      dsimp only
      rw [hpc]
      rw [hR] at cw
      clear hc hw hz hf hv hne hpc hR
      generalize (walkS (shiftV by_ from_) t 0 ok0).1 = W at *
      rcases hfr with ⟨rfl, hfr⟩ | ⟨rfl, hfr⟩ <;>
      (refine bY Try.func105 rfl rfl (nb rfl) rfl ?_
       repeat' (first | refine bM ?_ | (refine bP ?_; first | refine aX tabOk rfl rfl rfl (nb rfl) rfl ?_ | refine bF rfl rfl (nb rfl) ?_ | (refine bO rfl rfl rfl (nb rfl) rfl rfl rfl (fun hq => ?_) (fun hq => ?_) <;> (first | (simp only [sD, sE, sB, sC, sN, sM, sT, sF] at hq; try (exfalso; omega)) | skip))| refine bX rfl rfl (nb rfl) rfl rfl rfl rfl (c1) ?_ | refine cR 1002 (d := 4) rfl rfl rfl (nb rfl) rfl rfl rfl rfl rfl rfl rfl ?_ | refine cR 1000 (d := 5) rfl rfl rfl (nb rfl) rfl rfl rfl rfl rfl rfl rfl ?_ | refine cX 1001 tabOk rfl rfl rfl (nb rfl) rfl rfl rfl rfl rfl rfl ?_ | refine cL rfl rfl (nb rfl) rfl rfl rfl rfl cw (by repeat' first | exact trivial | refine ⟨rfl, ?_⟩) rfl (by show ([1000, 1001, 1002] : List Nat).Nodup; decide) ?_ | refine aE rfl rfl rfl (nb rfl) rfl rfl (by omega) ?_ | refine bI rfl rfl rfl (nb rfl) rfl rfl rfl (by omega) (by omega) ?_ | refine bJ rfl rfl rfl (nb rfl) rfl rfl rfl (by omega) (by omega) ?_ | refine bH tabOk rfl rfl rfl (nb rfl) rfl rfl rfl rfl rfl rfl rfl rfl rfl ?_ | refine aZ tabOk rfl rfl (nb rfl) rfl ?_ | refine aU tabOk rfl rfl rfl (nb rfl) rfl rfl rfl rfl rfl rfl ?_ | refine aV tabOk rfl rfl rfl (nb rfl) rfl rfl rfl rfl ?_ | refine aN tabOk rfl rfl rfl rfl rfl rfl rfl rfl rfl rfl rfl ?_ | refine aR tabOk rfl rfl rfl (nb rfl) rfl rfl rfl rfl (by first | assumption | omega) ?_ | refine aJ tabOk rfl rfl rfl (nb rfl) rfl rfl rfl rfl (by first | rfl | omega) (by first | omega | simp) ?_ | refine aC tabOk rfl rfl rfl (nb rfl) rfl rfl rfl (by assumption) ?_ | refine aC tabOk rfl rfl rfl (nb rfl) rfl rfl rfl (bS _ _ (by first | assumption | omega)) ?_ | refine aE rfl rfl rfl (nb rfl) rfl rfl (by omega) ?_ | ((fail_if_success (refine aG (b := true) rfl rfl rfl ?_)); (fail_if_success (refine aG (b := false) rfl rfl rfl ?_)); refine aW rfl rfl rfl (fun hq => ?_) (fun hq => ?_) <;> first | subst hq | (first | (simp only [sD, sE, sB, sC, sN, sM, sT, sF] at hq; try (exfalso; omega)) | skip)) | fail) | (refine bW ?_; first | refine bN ?_ | refine bT ?_ | refine aQ ?_ | refine bD ?_ | refine bU ?_ | refine bL ?_ | refine bK ?_ | refine aA (b := true) rfl (fun _ => ?_) nTf | refine aA (b := false) rfl nFt (fun _ => ?_) | refine bE ?_ | refine bC ?_ | refine bA mixed (by kernel_rfl) ?_ | refine aD mixed (by kernel_rfl) ?_ | (refine aA rfl (fun hq => ?_) (fun hq => ?_) <;> first | subst hq | (first | (simp only [sD, sE, sB, sC, sN, sM, sT, sF] at hq; try (exfalso; omega)) | skip)) | fail) | (refine bQ ?_; first | refine bZ ?_ | refine aK ?_ | refine aT ?_ | fail) | (refine bG ?_; first | refine bV ?_ | refine aH ?_ | refine aI (by decide) ?_ | refine aM ?_ | fail) | refine bR (bB (by kernel_rfl)) ?_ | fail)
       all_goals first
         | exact absurd rfl (by assumption)
         | (exfalso; omega)
         | (refine cA (by first | exact .inl rfl | exact .inr rfl) (cC rfl (aY rfl) (aY rfl)) rfl ?_; rfl))
    | false =>
      rw [if_neg (by simp)]
      dsimp only
      rw [hR] at cw
      clear hc hw hz hf hv hne hpc hR
      rcases hfr with ⟨rfl, hfr⟩ | ⟨rfl, hfr⟩ <;>
      (refine bY Try.func105 rfl rfl (nb rfl) rfl ?_
       repeat' (first | refine bM ?_ | (refine bP ?_; first | refine aX tabOk rfl rfl rfl (nb rfl) rfl ?_ | refine bF rfl rfl (nb rfl) ?_ | (refine bO rfl rfl rfl (nb rfl) rfl rfl rfl (fun hq => ?_) (fun hq => ?_) <;> (first | (simp only [sD, sE, sB, sC, sN, sM, sT, sF] at hq; try (exfalso; omega)) | skip))| refine bX rfl rfl (nb rfl) rfl rfl rfl rfl (c1) ?_ | refine cR 1002 (d := 4) rfl rfl rfl (nb rfl) rfl rfl rfl rfl rfl rfl rfl ?_ | refine cR 1000 (d := 5) rfl rfl rfl (nb rfl) rfl rfl rfl rfl rfl rfl rfl ?_ | refine cX 1001 tabOk rfl rfl rfl (nb rfl) rfl rfl rfl rfl rfl rfl ?_ | refine cL rfl rfl (nb rfl) rfl rfl rfl rfl cw (by repeat' first | exact trivial | refine ⟨rfl, ?_⟩) rfl (by show ([1000, 1001, 1002] : List Nat).Nodup; decide) ?_ | refine aE rfl rfl rfl (nb rfl) rfl rfl (by omega) ?_ | refine bI rfl rfl rfl (nb rfl) rfl rfl rfl (by omega) (by omega) ?_ | refine bJ rfl rfl rfl (nb rfl) rfl rfl rfl (by omega) (by omega) ?_ | refine bH tabOk rfl rfl rfl (nb rfl) rfl rfl rfl rfl rfl rfl rfl rfl rfl ?_ | refine aZ tabOk rfl rfl (nb rfl) rfl ?_ | refine aU tabOk rfl rfl rfl (nb rfl) rfl rfl rfl rfl rfl rfl ?_ | refine aV tabOk rfl rfl rfl (nb rfl) rfl rfl rfl rfl ?_ | refine aN tabOk rfl rfl rfl rfl rfl rfl rfl rfl rfl rfl rfl ?_ | refine aR tabOk rfl rfl rfl (nb rfl) rfl rfl rfl rfl (by first | assumption | omega) ?_ | refine aJ tabOk rfl rfl rfl (nb rfl) rfl rfl rfl rfl (by first | rfl | omega) (by first | omega | simp) ?_ | refine aC tabOk rfl rfl rfl (nb rfl) rfl rfl rfl (by assumption) ?_ | refine aC tabOk rfl rfl rfl (nb rfl) rfl rfl rfl (bS _ _ (by first | assumption | omega)) ?_ | refine aE rfl rfl rfl (nb rfl) rfl rfl (by omega) ?_ | ((fail_if_success (refine aG (b := true) rfl rfl rfl ?_)); (fail_if_success (refine aG (b := false) rfl rfl rfl ?_)); refine aW rfl rfl rfl (fun hq => ?_) (fun hq => ?_) <;> first | subst hq | (first | (simp only [sD, sE, sB, sC, sN, sM, sT, sF] at hq; try (exfalso; omega)) | skip)) | fail) | (refine bW ?_; first | refine bN ?_ | refine bT ?_ | refine aQ ?_ | refine bD ?_ | refine bU ?_ | refine bL ?_ | refine bK ?_ | refine aA (b := true) rfl (fun _ => ?_) nTf | refine aA (b := false) rfl nFt (fun _ => ?_) | refine bE ?_ | refine bC ?_ | refine bA mixed (by kernel_rfl) ?_ | refine aD mixed (by kernel_rfl) ?_ | (refine aA rfl (fun hq => ?_) (fun hq => ?_) <;> first | subst hq | (first | (simp only [sD, sE, sB, sC, sN, sM, sT, sF] at hq; try (exfalso; omega)) | skip)) | fail) | (refine bQ ?_; first | refine bZ ?_ | refine aK ?_ | refine aT ?_ | fail) | (refine bG ?_; first | refine bV ?_ | refine aH ?_ | refine aI (by decide) ?_ | refine aM ?_ | fail) | refine bR (bB (by kernel_rfl)) ?_ | fail)
       all_goals first
         | exact absurd rfl (by assumption)
         | (exfalso; omega)
         | (refine cA (by first | exact .inl rfl | exact .inr rfl) (cC rfl (aY rfl) (aY rfl)) rfl ?_; rfl))
  · rw [if_neg hc]
    generalize checkP isConP t = C at *
    refine bY Try.func105 rfl rfl (nb rfl) rfl ?_
    repeat' (first | refine bM ?_ | (refine bP ?_; first | refine aX tabOk rfl rfl rfl (nb rfl) rfl ?_ | refine bF rfl rfl (nb rfl) ?_ | (refine bO rfl rfl rfl (nb rfl) rfl rfl rfl (fun hq => ?_) (fun hq => ?_) <;> (first | (simp only [sD, sE, sB, sC, sN, sM, sT, sF] at hq; try (exfalso; omega)) | skip))| refine bX rfl rfl (nb rfl) rfl rfl rfl rfl (c1) ?_ | refine cR 1002 (d := 4) rfl rfl rfl (nb rfl) rfl rfl rfl rfl rfl rfl rfl ?_ | refine cR 1000 (d := 5) rfl rfl rfl (nb rfl) rfl rfl rfl rfl rfl rfl rfl ?_ | refine aE rfl rfl rfl (nb rfl) rfl rfl (by omega) ?_ | refine bI rfl rfl rfl (nb rfl) rfl rfl rfl (by omega) (by omega) ?_ | refine bJ rfl rfl rfl (nb rfl) rfl rfl rfl (by omega) (by omega) ?_ | refine bH tabOk rfl rfl rfl (nb rfl) rfl rfl rfl rfl rfl rfl rfl rfl rfl ?_ | refine aZ tabOk rfl rfl (nb rfl) rfl ?_ | refine aU tabOk rfl rfl rfl (nb rfl) rfl rfl rfl rfl rfl rfl ?_ | refine aV tabOk rfl rfl rfl (nb rfl) rfl rfl rfl rfl ?_ | refine aN tabOk rfl rfl rfl rfl rfl rfl rfl rfl rfl rfl rfl ?_ | refine aR tabOk rfl rfl rfl (nb rfl) rfl rfl rfl rfl (by first | assumption | omega) ?_ | refine aJ tabOk rfl rfl rfl (nb rfl) rfl rfl rfl rfl (by first | rfl | omega) (by first | omega | simp) ?_ | refine aC tabOk rfl rfl rfl (nb rfl) rfl rfl rfl (by assumption) ?_ | refine aC tabOk rfl rfl rfl (nb rfl) rfl rfl rfl (bS _ _ (by first | assumption | omega)) ?_ | refine aE rfl rfl rfl (nb rfl) rfl rfl (by omega) ?_ | ((fail_if_success (refine aG (b := true) rfl rfl rfl ?_)); (fail_if_success (refine aG (b := false) rfl rfl rfl ?_)); refine aW rfl rfl rfl (fun hq => ?_) (fun hq => ?_) <;> first | subst hq | (first | (simp only [sD, sE, sB, sC, sN, sM, sT, sF] at hq; try (exfalso; omega)) | skip)) | fail) | (refine bW ?_; first | refine bN ?_ | refine bT ?_ | refine aQ ?_ | refine bD ?_ | refine bU ?_ | refine bL ?_ | refine bK ?_ | refine aA (b := true) rfl (fun _ => ?_) nTf | refine aA (b := false) rfl nFt (fun _ => ?_) | refine bE ?_ | refine bC ?_ | refine bA mixed (by kernel_rfl) ?_ | refine aD mixed (by kernel_rfl) ?_ | (refine aA rfl (fun hq => ?_) (fun hq => ?_) <;> first | subst hq | (first | (simp only [sD, sE, sB, sC, sN, sM, sT, sF] at hq; try (exfalso; omega)) | skip)) | fail) | (refine bQ ?_; first | refine bZ ?_ | refine aK ?_ | refine aT ?_ | fail) | (refine bG ?_; first | refine bV ?_ | refine aH ?_ | refine aI (by decide) ?_ | refine aM ?_ | fail) | refine bR (bB (by kernel_rfl)) ?_ | fail)
    all_goals first
      | exact absurd (by assumption) hc
      | (exfalso; omega)
      | (refine cA (by first | exact .inl rfl | exact .inr rfl) (cC rfl (aY rfl) (aY rfl)) rfl ?_; rfl)
end Go.Proofs.Ytlbemgokilhdnaa.Ab
namespace Go.Proofs.Ytlbemgokilhdnaa.Ab
set_option linter.unusedVariables false
set_option linter.unusedSimpArgs false
attribute [local irreducible] AWP AOps AExit AThen ABlock ANoGoto FeetOk
theorem fF {t : Tree} (h : t.whole = true) : t ≠ .nil := by intro e; subst e; simp [Tree.whole] at h
theorem fC : ∀ (a b : List Tree), Tree.sizes (a ++ b) = Tree.sizes a + Tree.sizes b
  | [], b => by simp [Tree.sizes]
  | x :: a, b => by rw [List.cons_append, Tree.sizes, fC a b, Tree.sizes]; omega
theorem gD (n : Int) : (varT n).size = 1 := rfl
section
variable {σ : Type} (V : Int → Int → σ → Tree × σ) (J : σ → Prop) (f : σ → Nat)
/-- What is made anew of a whole tree is whole; as much more is counted as it has more nodes. -/
theorem jM (hV : ∀ n d s, J s → 0 ≤ n → n ≤ 65536 → 0 ≤ d → d ≤ 1000000 → (V n d s).1.whole = true ∧ J (V n d s).2 ∧ (V n d s).1.size + f s ≤ 1 + f (V n d s).2) (t : Tree) :
    ∀ (d : Int) s, okVars t = true → t.whole = true → 0 ≤ d → d + t.size ≤ 1000000 → J s → (walkS V t d s).1.whole = true ∧ J (walkS V t d s).2 ∧ (walkS V t d s).1.size + f s ≤ t.size + f (walkS V t d s).2 := by
  induction t using Tree.ind with
  | h1 => intro d s _ h; simp [Tree.whole] at h
  | h2 k n a b kids ih =>
    intro d s hv hw hd hs hJ
    have hsz : (Tree.node k n a b kids).size = 1 + Tree.sizes kids := by rw [Tree.size]
    rw [hsz] at hs ⊢
    by_cases k110 : k = 110
    · obtain ⟨q1, q2, rfl, rfl, rfl⟩ := dL k110 hv
      subst k110
      rw [dT]
      have := hV n d s hJ q1 q2 hd (by omega)
      exact ⟨this.1, this.2.1, by simp only [Tree.sizes]; omega⟩
    · by_cases hk0 : kids.length = 0
      · have e0 : kids = [] := List.eq_nil_of_length_eq_zero hk0
        subst e0
        rw [gN _ _ _ _ k110]
        exact ⟨hw, hJ, by simp only [Tree.size]; omega⟩
      · rw [gO _ _ _ _ k110 hk0]
        have hb := fB k
        have hvs := dN k110 hv
        have key : ∀ (l : List Tree) s, (∀ t ∈ l, t ∈ kids) → J s → Tree.wholes (walkSs V l (d + bindsP k) s).1 = true ∧ J (walkSs V l (d + bindsP k) s).2 ∧ Tree.sizes (walkSs V l (d + bindsP k) s).1 + f s ≤ Tree.sizes l + f (walkSs V l (d + bindsP k) s).2 := by
          intro l
          induction l with
          | nil => intro s _ hJ; rw [cU]; exact ⟨rfl, hJ, Nat.le_refl _⟩
          | cons t l ihl =>
            intro s hm hJ
            have hmt := hm t (by simp)
            have hz := cT hmt
            have h1 := ih t hmt (d + bindsP k) s (hvs _ hmt) (cD hw hmt) (by omega) (by omega) hJ
            have h2 := ihl (walkS V t (d + bindsP k) s).2 (fun t' h => hm t' (by simp [h])) h1.2.1
            rw [walkSs]
            refine ⟨?_, h2.2.1, ?_⟩
            · simp only [Tree.wholes, Bool.and_eq_true]; exact ⟨h1.1, h2.1⟩
            · simp only [Tree.sizes]; have := h1.2.2; have := h2.2.2; omega
        have := key kids s (fun _ h => h) hJ
        refine ⟨this.1, this.2.1, ?_⟩
        simp only [Tree.size]
        have := this.2.2
        omega
end
theorem eB (by_ from_ : Int) (n d : Int) (ok : Bool) : (shiftV by_ from_ n d ok).1.whole = true ∧ (shiftV by_ from_ n d ok).1.size = 1 := by
  unfold shiftV
  split
  · exact ⟨rfl, rfl⟩
  · split <;> exact ⟨rfl, rfl⟩
theorem rD (t : Tree) (by_ from_ : Int) (h : (shiftP t by_ from_).2 = 0) : (shiftP t by_ from_).1.whole = true ∧ (shiftP t by_ from_).1.size ≤ t.size ∧ checkP isConP t = 0 := by
  unfold shiftP at h ⊢
  by_cases hc : checkP isConP t = 0
  · rw [if_pos hc] at h ⊢
    obtain ⟨hw, hz, hf⟩ := cQ hc
    have := jM (shiftV by_ from_) (fun _ => True) (fun _ => 0) (fun n d s _ _ _ _ _ => ⟨(eB by_ from_ n d s).1, trivial, by rw [(eB by_ from_ n d s).2]; omega⟩) t 0 (decide (0 ≤ from_)) (dP t hf) hw (Int.le_refl _) (by omega) trivial
    split at h
    · rename_i h2
      rw [if_pos h2]
      exact ⟨this.1, by have := this.2.2; dsimp only; omega, hc⟩
    · cases h
  · rw [if_neg hc] at h
    exact absurd h hc
set_option maxHeartbeats 4000000 in
set_option maxRecDepth 10000 in
theorem aAg (t : Tree) : t.size ≤ 1000000 → (t = .nil ∨ t.whole = true) → ACalls Try.prog 51 [.imm t.iv] [] (.imm (.lit (.int .i64 (t.size : Int)))) [] := by
  induction t using Tree.ind with
  | h1 =>
    intro _ _
    refine bY Try.func51 rfl rfl (nb rfl) rfl ?_
    repeat' (first | refine bM ?_ | (refine bP ?_; first | refine aX tabOk rfl rfl rfl (nb rfl) rfl ?_ | refine bF rfl rfl (nb rfl) ?_ | (refine bO rfl rfl rfl (nb rfl) rfl rfl rfl (fun hq => ?_) (fun hq => ?_) <;> (first | (simp only [sD, sE, sB, sC, sN, sM, sT, sF] at hq; try (exfalso; omega)) | skip)) | refine aE rfl rfl rfl (nb rfl) rfl rfl (by omega) ?_ | refine bI rfl rfl rfl (nb rfl) rfl rfl rfl (by omega) (by omega) ?_ | refine bJ rfl rfl rfl (nb rfl) rfl rfl rfl (by omega) (by omega) ?_ | refine bH tabOk rfl rfl rfl (nb rfl) rfl rfl rfl rfl rfl rfl rfl rfl rfl ?_ | refine aZ tabOk rfl rfl (nb rfl) rfl ?_ | refine aU tabOk rfl rfl rfl (nb rfl) rfl rfl rfl rfl rfl rfl ?_ | refine aV tabOk rfl rfl rfl (nb rfl) rfl rfl rfl rfl ?_ | refine aN tabOk rfl rfl rfl rfl rfl rfl rfl rfl rfl rfl rfl ?_ | refine aR tabOk rfl rfl rfl (nb rfl) rfl rfl rfl rfl (by first | assumption | omega) ?_ | refine aJ tabOk rfl rfl rfl (nb rfl) rfl rfl rfl rfl (by first | rfl | omega) (by first | omega | simp) ?_ | refine aC tabOk rfl rfl rfl (nb rfl) rfl rfl rfl (by assumption) ?_ | refine aC tabOk rfl rfl rfl (nb rfl) rfl rfl rfl (bS _ _ (by first | assumption | omega)) ?_ | refine aE rfl rfl rfl (nb rfl) rfl rfl (by omega) ?_ | ((fail_if_success (refine aG (b := true) rfl rfl rfl ?_)); (fail_if_success (refine aG (b := false) rfl rfl rfl ?_)); refine aW rfl rfl rfl (fun hq => ?_) (fun hq => ?_) <;> first | subst hq | (first | (simp only [sD, sE, sB, sC, sN, sM, sT, sF] at hq; try (exfalso; omega)) | skip)) | fail) | (refine bW ?_; first | refine bN ?_ | refine bT ?_ | refine aQ ?_ | refine bD ?_ | refine bU ?_ | refine bL ?_ | refine bK ?_ | refine aA (b := true) rfl (fun _ => ?_) nTf | refine aA (b := false) rfl nFt (fun _ => ?_) | refine bE ?_ | refine bC ?_ | refine bA mixed (by kernel_rfl) ?_ | refine aD mixed (by kernel_rfl) ?_ | (refine aA rfl (fun hq => ?_) (fun hq => ?_) <;> first | subst hq | (first | (simp only [sD, sE, sB, sC, sN, sM, sT, sF] at hq; try (exfalso; omega)) | skip)) | fail) | (refine bQ ?_; first | refine bZ ?_ | refine aK ?_ | refine aT ?_ | fail) | (refine bG ?_; first | refine bV ?_ | refine aH ?_ | refine aI (by decide) ?_ | refine aM ?_ | fail) | refine bR (bB (by kernel_rfl)) ?_ | fail)
    all_goals (refine cA (by first | exact .inl rfl | exact .inr rfl) (cB rfl (aY rfl)) rfl ?_; rfl)
  | h2 k n a b kids ih =>
    intro hs hw
    have hw : (Tree.node k n a b kids).whole = true := by
      rcases hw with h | h
      · cases h
      · exact h
    have hl := cI kids hw
    have hsz : (Tree.node k n a b kids).size = 1 + Tree.sizes kids := by rw [Tree.size]
    rw [hsz] at hs ⊢
    have htk : ∀ j (h : j < kids.length), Tree.sizes (kids.take (j + 1)) = Tree.sizes (kids.take j) + kids[j].size := fun j h => by
      rw [List.take_succ_eq_append_getElem h, fC]
      simp only [Tree.sizes]; omega
    have hle : ∀ j, Tree.sizes (kids.take j) ≤ Tree.sizes kids := fun j => by
      have := fC (kids.take j) (kids.drop j)
      rw [List.take_append_drop] at this
      omega
    refine bY Try.func51 rfl rfl (nb rfl) rfl ?_
    repeat' (first | refine bM ?_ | (refine bP ?_; first | refine aX tabOk rfl rfl rfl (nb rfl) rfl ?_ | refine bF rfl rfl (nb rfl) ?_ | (refine bO rfl rfl rfl (nb rfl) rfl rfl rfl (fun hq => ?_) (fun hq => ?_) <;> (first | (simp only [sD, sE, sB, sC, sN, sM, sT, sF] at hq; try (exfalso; omega)) | skip)) | refine aE rfl rfl rfl (nb rfl) rfl rfl (by omega) ?_ | refine bI rfl rfl rfl (nb rfl) rfl rfl rfl (by omega) (by omega) ?_ | refine bJ rfl rfl rfl (nb rfl) rfl rfl rfl (by omega) (by omega) ?_ | refine bH tabOk rfl rfl rfl (nb rfl) rfl rfl rfl rfl rfl rfl rfl rfl rfl ?_ | refine aZ tabOk rfl rfl (nb rfl) rfl ?_ | refine aU tabOk rfl rfl rfl (nb rfl) rfl rfl rfl rfl rfl rfl ?_ | refine aV tabOk rfl rfl rfl (nb rfl) rfl rfl rfl rfl ?_ | refine aN tabOk rfl rfl rfl rfl rfl rfl rfl rfl rfl rfl rfl ?_ | refine aR tabOk rfl rfl rfl (nb rfl) rfl rfl rfl rfl (by first | assumption | omega) ?_ | refine aJ tabOk rfl rfl rfl (nb rfl) rfl rfl rfl rfl (by first | rfl | omega) (by first | omega | simp) ?_ | refine aC tabOk rfl rfl rfl (nb rfl) rfl rfl rfl (by assumption) ?_ | refine aC tabOk rfl rfl rfl (nb rfl) rfl rfl rfl (bS _ _ (by first | assumption | omega)) ?_ | refine aE rfl rfl rfl (nb rfl) rfl rfl (by omega) ?_ | ((fail_if_success (refine aG (b := true) rfl rfl rfl ?_)); (fail_if_success (refine aG (b := false) rfl rfl rfl ?_)); refine aW rfl rfl rfl (fun hq => ?_) (fun hq => ?_) <;> first | subst hq | (first | (simp only [sD, sE, sB, sC, sN, sM, sT, sF] at hq; try (exfalso; omega)) | skip)) | fail) | (refine bW ?_; first | refine bN ?_ | refine bT ?_ | refine aQ ?_ | refine bD ?_ | refine bU ?_ | refine bL ?_ | refine bK ?_ | refine aA (b := true) rfl (fun _ => ?_) nTf | refine aA (b := false) rfl nFt (fun _ => ?_) | refine bE ?_ | refine bC ?_ | refine bA mixed (by kernel_rfl) ?_ | refine aD mixed (by kernel_rfl) ?_ | (refine aA rfl (fun hq => ?_) (fun hq => ?_) <;> first | subst hq | (first | (simp only [sD, sE, sB, sC, sN, sM, sT, sF] at hq; try (exfalso; omega)) | skip)) | fail) | (refine bQ ?_; first | refine bZ ?_ | refine aK ?_ | refine aT ?_ | fail) | (refine bG ?_; first | refine bV ?_ | refine aH ?_ | refine aI (by decide) ?_ | refine aM ?_ | fail) | refine bR (bB (by kernel_rfl)) ?_ | fail)
    refine cH (ι := {j : Nat // j ≤ kids.length}) (fun j => S.f ⟨[(13, .imm (.lit (.int .i64 (j.1 : Int)))), (12, .imm (.lit (.int .i64 (kids.length : Int)))), (11, .imm (.sl false kids.length (Tree.ivs kids))), (3, .imm (.lit (.int .i64 ((1 + Tree.sizes (kids.take j.1) : Nat) : Int))))], []⟩) (fun j => kids.length - j.1) ⟨0, Nat.zero_le _⟩ (cF (by repeat' first | exact trivial | refine ⟨rfl, ?_⟩) (by repeat' first | exact trivial | refine ⟨rfl, ?_⟩)) ?_
    rintro ⟨j, hj⟩
    dsimp only
    by_cases hlt : j < kids.length
    · have hm := List.getElem_mem hlt
      have h1 := htk j hlt
      have h2 := hle j
      have h3 := hle (j + 1)
      have hc := ih _ hm (by omega) (.inr (cD hw hm))
      repeat' (first | refine bM ?_ | (refine bP ?_; first | refine aX tabOk rfl rfl rfl (nb rfl) rfl ?_ | refine bF rfl rfl (nb rfl) ?_ | (refine bO rfl rfl rfl (nb rfl) rfl rfl rfl (fun hq => ?_) (fun hq => ?_) <;> (first | (simp only [sD, sE, sB, sC, sN, sM, sT, sF] at hq; try (exfalso; omega)) | skip))| refine bX rfl rfl (nb rfl) rfl rfl rfl rfl (hc) ?_ | refine bI (z := ((1 + Tree.sizes (kids.take (j + 1)) : Nat) : Int)) rfl rfl rfl (nb rfl) rfl rfl (by omega) (by omega) (by omega) ?_ | refine aE rfl rfl rfl (nb rfl) rfl rfl (by omega) ?_ | refine bI rfl rfl rfl (nb rfl) rfl rfl rfl (by omega) (by omega) ?_ | refine bJ rfl rfl rfl (nb rfl) rfl rfl rfl (by omega) (by omega) ?_ | refine bH tabOk rfl rfl rfl (nb rfl) rfl rfl rfl rfl rfl rfl rfl rfl rfl ?_ | refine aZ tabOk rfl rfl (nb rfl) rfl ?_ | refine aU tabOk rfl rfl rfl (nb rfl) rfl rfl rfl rfl rfl rfl ?_ | refine aV tabOk rfl rfl rfl (nb rfl) rfl rfl rfl rfl ?_ | refine aN tabOk rfl rfl rfl rfl rfl rfl rfl rfl rfl rfl rfl ?_ | refine aR tabOk rfl rfl rfl (nb rfl) rfl rfl rfl rfl (by first | assumption | omega) ?_ | refine aJ tabOk rfl rfl rfl (nb rfl) rfl rfl rfl rfl (by first | rfl | omega) (by first | omega | simp) ?_ | refine aC tabOk rfl rfl rfl (nb rfl) rfl rfl rfl (by assumption) ?_ | refine aC tabOk rfl rfl rfl (nb rfl) rfl rfl rfl (bS _ _ (by first | assumption | omega)) ?_ | refine aE rfl rfl rfl (nb rfl) rfl rfl (by omega) ?_ | ((fail_if_success (refine aG (b := true) rfl rfl rfl ?_)); (fail_if_success (refine aG (b := false) rfl rfl rfl ?_)); refine aW rfl rfl rfl (fun hq => ?_) (fun hq => ?_) <;> first | subst hq | (first | (simp only [sD, sE, sB, sC, sN, sM, sT, sF] at hq; try (exfalso; omega)) | skip)) | fail) | (refine bW ?_; first | refine bN ?_ | refine bT ?_ | refine aQ ?_ | refine bD ?_ | refine bU ?_ | refine bL ?_ | refine bK ?_ | refine aA (b := true) rfl (fun _ => ?_) nTf | refine aA (b := false) rfl nFt (fun _ => ?_) | refine bE ?_ | refine bC ?_ | refine bA mixed (by kernel_rfl) ?_ | refine aD mixed (by kernel_rfl) ?_ | (refine aA rfl (fun hq => ?_) (fun hq => ?_) <;> first | subst hq | (first | (simp only [sD, sE, sB, sC, sN, sM, sT, sF] at hq; try (exfalso; omega)) | skip)) | fail) | (refine bQ ?_; first | refine bZ ?_ | refine aK ?_ | refine aT ?_ | fail) | (refine bG ?_; first | refine bV ?_ | refine aH ?_ | refine aI (by decide) ?_ | refine aM ?_ | fail) | refine bR (bB (by kernel_rfl)) ?_ | fail)
      all_goals first
        | (exfalso; omega)
        | exact ⟨⟨j + 1, hlt⟩, (by show kids.length - (j + 1) < kids.length - j; omega), (cF (by repeat' first | exact trivial | refine ⟨rfl, ?_⟩) (by repeat' first | exact trivial | refine ⟨rfl, ?_⟩))⟩
    · have ej : j = kids.length := by omega
      subst ej
      rw [List.take_length]
      repeat' (first | refine bM ?_ | (refine bP ?_; first | refine aX tabOk rfl rfl rfl (nb rfl) rfl ?_ | refine bF rfl rfl (nb rfl) ?_ | (refine bO rfl rfl rfl (nb rfl) rfl rfl rfl (fun hq => ?_) (fun hq => ?_) <;> (first | (simp only [sD, sE, sB, sC, sN, sM, sT, sF] at hq; try (exfalso; omega)) | skip)) | refine aE rfl rfl rfl (nb rfl) rfl rfl (by omega) ?_ | refine bI rfl rfl rfl (nb rfl) rfl rfl rfl (by omega) (by omega) ?_ | refine bJ rfl rfl rfl (nb rfl) rfl rfl rfl (by omega) (by omega) ?_ | refine bH tabOk rfl rfl rfl (nb rfl) rfl rfl rfl rfl rfl rfl rfl rfl rfl ?_ | refine aZ tabOk rfl rfl (nb rfl) rfl ?_ | refine aU tabOk rfl rfl rfl (nb rfl) rfl rfl rfl rfl rfl rfl ?_ | refine aV tabOk rfl rfl rfl (nb rfl) rfl rfl rfl rfl ?_ | refine aN tabOk rfl rfl rfl rfl rfl rfl rfl rfl rfl rfl rfl ?_ | refine aR tabOk rfl rfl rfl (nb rfl) rfl rfl rfl rfl (by first | assumption | omega) ?_ | refine aJ tabOk rfl rfl rfl (nb rfl) rfl rfl rfl rfl (by first | rfl | omega) (by first | omega | simp) ?_ | refine aC tabOk rfl rfl rfl (nb rfl) rfl rfl rfl (by assumption) ?_ | refine aC tabOk rfl rfl rfl (nb rfl) rfl rfl rfl (bS _ _ (by first | assumption | omega)) ?_ | refine aE rfl rfl rfl (nb rfl) rfl rfl (by omega) ?_ | ((fail_if_success (refine aG (b := true) rfl rfl rfl ?_)); (fail_if_success (refine aG (b := false) rfl rfl rfl ?_)); refine aW rfl rfl rfl (fun hq => ?_) (fun hq => ?_) <;> first | subst hq | (first | (simp only [sD, sE, sB, sC, sN, sM, sT, sF] at hq; try (exfalso; omega)) | skip)) | fail) | (refine bW ?_; first | refine bN ?_ | refine bT ?_ | refine aQ ?_ | refine bD ?_ | refine bU ?_ | refine bL ?_ | refine bK ?_ | refine aA (b := true) rfl (fun _ => ?_) nTf | refine aA (b := false) rfl nFt (fun _ => ?_) | refine bE ?_ | refine bC ?_ | refine bA mixed (by kernel_rfl) ?_ | refine aD mixed (by kernel_rfl) ?_ | (refine aA rfl (fun hq => ?_) (fun hq => ?_) <;> first | subst hq | (first | (simp only [sD, sE, sB, sC, sN, sM, sT, sF] at hq; try (exfalso; omega)) | skip)) | fail) | (refine bQ ?_; first | refine bZ ?_ | refine aK ?_ | refine aT ?_ | fail) | (refine bG ?_; first | refine bV ?_ | refine aH ?_ | refine aI (by decide) ?_ | refine aM ?_ | fail) | refine bR (bB (by kernel_rfl)) ?_ | fail)
      all_goals first
        | (exfalso; omega)
        | (refine cA (by first | exact .inl rfl | exact .inr rfl) (cB rfl (aY rfl)) rfl ?_; rfl)
mutual
/-- How many nodes a tree has, as far as a bound. -/
def largeP : Tree → Int → Int
  | .nil, _ => 1
  | .node _ _ _ _ kids, m => largePs kids 1 m
def largePs : List Tree → Int → Int → Int
  | [], s, _ => s
  | t :: ts, s, m => if s > m then s else largePs ts (s + largeP t (m - s)) m
end
theorem pS (l : List Tree) (s m : Int) (h : s > m) : largePs l s m = s := by
  cases l with
  | nil => rfl
  | cons t ts => rw [largePs, if_pos h]
theorem kQ (t : Tree) : t.whole = true → ∀ m : Int, 0 ≤ m → 1 ≤ largeP t m ∧ largeP t m ≤ t.size ∧ ((t.size : Int) ≤ m → largeP t m = t.size) ∧ (m < t.size → m < largeP t m) := by
  induction t using Tree.ind with
  | h1 => intro h; simp [Tree.whole] at h
  | h2 k n a b kids ih =>
    intro hw m hm
    have key : ∀ (l : List Tree), (∀ t ∈ l, t ∈ kids) → ∀ s : Int, 1 ≤ s → 1 ≤ largePs l s m ∧ largePs l s m ≤ s + Tree.sizes l ∧ (s + Tree.sizes l ≤ m → largePs l s m = s + Tree.sizes l) ∧ (m < s + Tree.sizes l → m < largePs l s m) := by
      intro l
      induction l with
      | nil => intro _ s hs; simp only [largePs, Tree.sizes]; omega
      | cons t ts ihl =>
        intro hmem s hs
        rw [largePs]
        simp only [Tree.sizes]
        by_cases h : s > m
        · rw [if_pos h]; omega
        · rw [if_neg h]
          have h1 := ih t (hmem t (by simp)) (cD hw (hmem t (by simp))) (m - s) (by omega)
          have h2 := ihl (fun t' h' => hmem t' (by simp [h'])) (s + largeP t (m - s)) (by omega)
          by_cases h3 : m - s < t.size
          · have h4 := h1.2.2.2 h3
            have h5 := pS ts (s + largeP t (m - s)) m (by omega)
            rw [h5]
            refine ⟨by omega, by omega, by omega, by omega⟩
          · have h4 := h1.2.2.1 (by omega)
            rw [h4] at h2 ⊢
            refine ⟨h2.1, by omega, fun h => ?_, fun h => ?_⟩
            · rw [h2.2.2.1 (by omega)]; omega
            · exact h2.2.2.2 (by omega)
    have := key kids (fun _ h => h) 1 (by omega)
    rw [largeP, Tree.size]
    refine ⟨this.1, by omega, fun h => ?_, fun h => this.2.2.2 (by omega)⟩
    rw [this.2.2.1 (by omega)]; omega
set_option maxHeartbeats 4000000 in
set_option maxRecDepth 10000 in
theorem zH (t : Tree) : t.whole = true → t.size ≤ 1000000 → ∀ m : Int, 0 ≤ m → m ≤ 1000000 → ACalls Try.prog 134 [.imm t.iv, .imm (.lit (.int .i64 m))] [] (.imm (.lit (.int .i64 (largeP t m)))) [] := by
  induction t using Tree.ind with
  | h1 => intro h; simp [Tree.whole] at h
  | h2 k n a b kids ih =>
    intro hw hs m hm0 hm1
    have hl := cI kids hw
    have hsz : (Tree.node k n a b kids).size = 1 + Tree.sizes kids := by rw [Tree.size]
    rw [hsz] at hs
    generalize hR : largeP (.node k n a b kids) m = R
    rw [largeP] at hR
    refine bY Try.func134 rfl rfl (nb rfl) rfl ?_
    repeat' (first | refine bM ?_ | (refine bP ?_; first | refine aX tabOk rfl rfl rfl (nb rfl) rfl ?_ | refine bF rfl rfl (nb rfl) ?_ | (refine bO rfl rfl rfl (nb rfl) rfl rfl rfl (fun hq => ?_) (fun hq => ?_) <;> (first | (simp only [sD, sE, sB, sC, sN, sM, sT, sF] at hq; try (exfalso; omega)) | skip)) | refine aE rfl rfl rfl (nb rfl) rfl rfl (by omega) ?_ | refine bI rfl rfl rfl (nb rfl) rfl rfl rfl (by omega) (by omega) ?_ | refine bJ rfl rfl rfl (nb rfl) rfl rfl rfl (by omega) (by omega) ?_ | refine bH tabOk rfl rfl rfl (nb rfl) rfl rfl rfl rfl rfl rfl rfl rfl rfl ?_ | refine aZ tabOk rfl rfl (nb rfl) rfl ?_ | refine aU tabOk rfl rfl rfl (nb rfl) rfl rfl rfl rfl rfl rfl ?_ | refine aV tabOk rfl rfl rfl (nb rfl) rfl rfl rfl rfl ?_ | refine aN tabOk rfl rfl rfl rfl rfl rfl rfl rfl rfl rfl rfl ?_ | refine aR tabOk rfl rfl rfl (nb rfl) rfl rfl rfl rfl (by first | assumption | omega) ?_ | refine aJ tabOk rfl rfl rfl (nb rfl) rfl rfl rfl rfl (by first | rfl | omega) (by first | omega | simp) ?_ | refine aC tabOk rfl rfl rfl (nb rfl) rfl rfl rfl (by assumption) ?_ | refine aC tabOk rfl rfl rfl (nb rfl) rfl rfl rfl (bS _ _ (by first | assumption | omega)) ?_ | refine aE rfl rfl rfl (nb rfl) rfl rfl (by omega) ?_ | ((fail_if_success (refine aG (b := true) rfl rfl rfl ?_)); (fail_if_success (refine aG (b := false) rfl rfl rfl ?_)); refine aW rfl rfl rfl (fun hq => ?_) (fun hq => ?_) <;> first | subst hq | (first | (simp only [sD, sE, sB, sC, sN, sM, sT, sF] at hq; try (exfalso; omega)) | skip)) | fail) | (refine bW ?_; first | refine bN ?_ | refine bT ?_ | refine aQ ?_ | refine bD ?_ | refine bU ?_ | refine bL ?_ | refine bK ?_ | refine aA (b := true) rfl (fun _ => ?_) nTf | refine aA (b := false) rfl nFt (fun _ => ?_) | refine bE ?_ | refine bC ?_ | refine bA mixed (by kernel_rfl) ?_ | refine aD mixed (by kernel_rfl) ?_ | (refine aA rfl (fun hq => ?_) (fun hq => ?_) <;> first | subst hq | (first | (simp only [sD, sE, sB, sC, sN, sM, sT, sF] at hq; try (exfalso; omega)) | skip)) | fail) | (refine bQ ?_; first | refine bZ ?_ | refine aK ?_ | refine aT ?_ | fail) | (refine bG ?_; first | refine bV ?_ | refine aH ?_ | refine aI (by decide) ?_ | refine aM ?_ | fail) | refine bR (bB (by kernel_rfl)) ?_ | fail)
    refine cH (ι := {x : Nat × Int // x.1 ≤ kids.length ∧ largePs (kids.drop x.1) x.2 m = R ∧ 1 ≤ x.2 ∧ x.2 + Tree.sizes (kids.drop x.1) ≤ 1000000}) (fun x => S.f ⟨[(13, .imm (.lit (.int .i64 (x.1.1 : Int)))), (12, .imm (.lit (.int .i64 (kids.length : Int)))), (11, .imm (.sl false kids.length (Tree.ivs kids))), (5, .imm (.lit (.int .i64 x.1.2))), (1, .imm (.lit (.int .i64 m)))], []⟩) (fun x => kids.length - x.1.1) ⟨(0, 1), Nat.zero_le _, hR, Int.le_refl _, by rw [List.drop_zero]; omega⟩ (cF (by repeat' first | exact trivial | refine ⟨rfl, ?_⟩) (by repeat' first | exact trivial | refine ⟨rfl, ?_⟩)) ?_
    clear hR
    rintro ⟨⟨j, s⟩, hj, hR, hs1, hs2⟩
    have hj : j ≤ kids.length := hj
    have hR : largePs (kids.drop j) s m = R := hR
    have hs1 : 1 ≤ s := hs1
    have hs2 : s + Tree.sizes (kids.drop j) ≤ 1000000 := hs2
    dsimp only
    by_cases hlt : j < kids.length
    · have hmm := List.getElem_mem hlt
      have hz := cT hmm
      have hwk := cD hw hmm
      rw [List.drop_eq_getElem_cons hlt] at hR hs2
      rw [largePs] at hR
      simp only [Tree.sizes] at hs2
      by_cases hgt : s > m
      · rw [if_pos hgt] at hR
        subst hR
        repeat' (first | refine bM ?_ | (refine bP ?_; first | refine aX tabOk rfl rfl rfl (nb rfl) rfl ?_ | refine bF rfl rfl (nb rfl) ?_ | (refine bO rfl rfl rfl (nb rfl) rfl rfl rfl (fun hq => ?_) (fun hq => ?_) <;> (first | (simp only [sD, sE, sB, sC, sN, sM, sT, sF] at hq; try (exfalso; omega)) | skip)) | refine aE rfl rfl rfl (nb rfl) rfl rfl (by omega) ?_ | refine bI rfl rfl rfl (nb rfl) rfl rfl rfl (by omega) (by omega) ?_ | refine bJ rfl rfl rfl (nb rfl) rfl rfl rfl (by omega) (by omega) ?_ | refine bH tabOk rfl rfl rfl (nb rfl) rfl rfl rfl rfl rfl rfl rfl rfl rfl ?_ | refine aZ tabOk rfl rfl (nb rfl) rfl ?_ | refine aU tabOk rfl rfl rfl (nb rfl) rfl rfl rfl rfl rfl rfl ?_ | refine aV tabOk rfl rfl rfl (nb rfl) rfl rfl rfl rfl ?_ | refine aN tabOk rfl rfl rfl rfl rfl rfl rfl rfl rfl rfl rfl ?_ | refine aR tabOk rfl rfl rfl (nb rfl) rfl rfl rfl rfl (by first | assumption | omega) ?_ | refine aJ tabOk rfl rfl rfl (nb rfl) rfl rfl rfl rfl (by first | rfl | omega) (by first | omega | simp) ?_ | refine aC tabOk rfl rfl rfl (nb rfl) rfl rfl rfl (by assumption) ?_ | refine aC tabOk rfl rfl rfl (nb rfl) rfl rfl rfl (bS _ _ (by first | assumption | omega)) ?_ | refine aE rfl rfl rfl (nb rfl) rfl rfl (by omega) ?_ | ((fail_if_success (refine aG (b := true) rfl rfl rfl ?_)); (fail_if_success (refine aG (b := false) rfl rfl rfl ?_)); refine aW rfl rfl rfl (fun hq => ?_) (fun hq => ?_) <;> first | subst hq | (first | (simp only [sD, sE, sB, sC, sN, sM, sT, sF] at hq; try (exfalso; omega)) | skip)) | fail) | (refine bW ?_; first | refine bN ?_ | refine bT ?_ | refine aQ ?_ | refine bD ?_ | refine bU ?_ | refine bL ?_ | refine bK ?_ | refine aA (b := true) rfl (fun _ => ?_) nTf | refine aA (b := false) rfl nFt (fun _ => ?_) | refine bE ?_ | refine bC ?_ | refine bA mixed (by kernel_rfl) ?_ | refine aD mixed (by kernel_rfl) ?_ | (refine aA rfl (fun hq => ?_) (fun hq => ?_) <;> first | subst hq | (first | (simp only [sD, sE, sB, sC, sN, sM, sT, sF] at hq; try (exfalso; omega)) | skip)) | fail) | (refine bQ ?_; first | refine bZ ?_ | refine aK ?_ | refine aT ?_ | fail) | (refine bG ?_; first | refine bV ?_ | refine aH ?_ | refine aI (by decide) ?_ | refine aM ?_ | fail) | refine bR (bB (by kernel_rfl)) ?_ | fail)
        all_goals first
          | (exfalso; omega)
          | (refine cA (by first | exact .inl rfl | exact .inr rfl) (cB rfl (aY rfl)) rfl ?_; rfl)
      · rw [if_neg hgt] at hR
        have hc := ih _ hmm hwk (by omega) (m - s) (by omega) (by omega)
        have hsp := kQ _ hwk (m - s) (by omega)
        generalize largeP kids[j] (m - s) = L at *
        repeat' (first | refine bM ?_ | (refine bP ?_; first | refine aX tabOk rfl rfl rfl (nb rfl) rfl ?_ | refine bF rfl rfl (nb rfl) ?_ | (refine bO rfl rfl rfl (nb rfl) rfl rfl rfl (fun hq => ?_) (fun hq => ?_) <;> (first | (simp only [sD, sE, sB, sC, sN, sM, sT, sF] at hq; try (exfalso; omega)) | skip))| refine bX rfl rfl (nb rfl) rfl rfl rfl rfl (hc) ?_ | refine bJ (z := m - s) rfl rfl rfl (nb rfl) rfl rfl rfl (by omega) (by omega) ?_ | refine bI (z := s + L) rfl rfl rfl (nb rfl) rfl rfl rfl (by omega) (by omega) ?_ | refine aE rfl rfl rfl (nb rfl) rfl rfl (by omega) ?_ | refine bI rfl rfl rfl (nb rfl) rfl rfl rfl (by omega) (by omega) ?_ | refine bJ rfl rfl rfl (nb rfl) rfl rfl rfl (by omega) (by omega) ?_ | refine bH tabOk rfl rfl rfl (nb rfl) rfl rfl rfl rfl rfl rfl rfl rfl rfl ?_ | refine aZ tabOk rfl rfl (nb rfl) rfl ?_ | refine aU tabOk rfl rfl rfl (nb rfl) rfl rfl rfl rfl rfl rfl ?_ | refine aV tabOk rfl rfl rfl (nb rfl) rfl rfl rfl rfl ?_ | refine aN tabOk rfl rfl rfl rfl rfl rfl rfl rfl rfl rfl rfl ?_ | refine aR tabOk rfl rfl rfl (nb rfl) rfl rfl rfl rfl (by first | assumption | omega) ?_ | refine aJ tabOk rfl rfl rfl (nb rfl) rfl rfl rfl rfl (by first | rfl | omega) (by first | omega | simp) ?_ | refine aC tabOk rfl rfl rfl (nb rfl) rfl rfl rfl (by assumption) ?_ | refine aC tabOk rfl rfl rfl (nb rfl) rfl rfl rfl (bS _ _ (by first | assumption | omega)) ?_ | refine aE rfl rfl rfl (nb rfl) rfl rfl (by omega) ?_ | ((fail_if_success (refine aG (b := true) rfl rfl rfl ?_)); (fail_if_success (refine aG (b := false) rfl rfl rfl ?_)); refine aW rfl rfl rfl (fun hq => ?_) (fun hq => ?_) <;> first | subst hq | (first | (simp only [sD, sE, sB, sC, sN, sM, sT, sF] at hq; try (exfalso; omega)) | skip)) | fail) | (refine bW ?_; first | refine bN ?_ | refine bT ?_ | refine aQ ?_ | refine bD ?_ | refine bU ?_ | refine bL ?_ | refine bK ?_ | refine aA (b := true) rfl (fun _ => ?_) nTf | refine aA (b := false) rfl nFt (fun _ => ?_) | refine bE ?_ | refine bC ?_ | refine bA mixed (by kernel_rfl) ?_ | refine aD mixed (by kernel_rfl) ?_ | (refine aA rfl (fun hq => ?_) (fun hq => ?_) <;> first | subst hq | (first | (simp only [sD, sE, sB, sC, sN, sM, sT, sF] at hq; try (exfalso; omega)) | skip)) | fail) | (refine bQ ?_; first | refine bZ ?_ | refine aK ?_ | refine aT ?_ | fail) | (refine bG ?_; first | refine bV ?_ | refine aH ?_ | refine aI (by decide) ?_ | refine aM ?_ | fail) | refine bR (bB (by kernel_rfl)) ?_ | fail)
        all_goals first
          | (exfalso; omega)
          | exact ⟨⟨(j + 1, s + L), hlt, hR, by dsimp only; omega, by dsimp only; omega⟩, (by show kids.length - (j + 1) < kids.length - j; omega), (cF (by repeat' first | exact trivial | refine ⟨rfl, ?_⟩) (by repeat' first | exact trivial | refine ⟨rfl, ?_⟩))⟩
    · have ej : j = kids.length := by omega
      subst ej
      rw [List.drop_length, largePs] at hR
      subst hR
      repeat' (first | refine bM ?_ | (refine bP ?_; first | refine aX tabOk rfl rfl rfl (nb rfl) rfl ?_ | refine bF rfl rfl (nb rfl) ?_ | (refine bO rfl rfl rfl (nb rfl) rfl rfl rfl (fun hq => ?_) (fun hq => ?_) <;> (first | (simp only [sD, sE, sB, sC, sN, sM, sT, sF] at hq; try (exfalso; omega)) | skip)) | refine aE rfl rfl rfl (nb rfl) rfl rfl (by omega) ?_ | refine bI rfl rfl rfl (nb rfl) rfl rfl rfl (by omega) (by omega) ?_ | refine bJ rfl rfl rfl (nb rfl) rfl rfl rfl (by omega) (by omega) ?_ | refine bH tabOk rfl rfl rfl (nb rfl) rfl rfl rfl rfl rfl rfl rfl rfl rfl ?_ | refine aZ tabOk rfl rfl (nb rfl) rfl ?_ | refine aU tabOk rfl rfl rfl (nb rfl) rfl rfl rfl rfl rfl rfl ?_ | refine aV tabOk rfl rfl rfl (nb rfl) rfl rfl rfl rfl ?_ | refine aN tabOk rfl rfl rfl rfl rfl rfl rfl rfl rfl rfl rfl ?_ | refine aR tabOk rfl rfl rfl (nb rfl) rfl rfl rfl rfl (by first | assumption | omega) ?_ | refine aJ tabOk rfl rfl rfl (nb rfl) rfl rfl rfl rfl (by first | rfl | omega) (by first | omega | simp) ?_ | refine aC tabOk rfl rfl rfl (nb rfl) rfl rfl rfl (by assumption) ?_ | refine aC tabOk rfl rfl rfl (nb rfl) rfl rfl rfl (bS _ _ (by first | assumption | omega)) ?_ | refine aE rfl rfl rfl (nb rfl) rfl rfl (by omega) ?_ | ((fail_if_success (refine aG (b := true) rfl rfl rfl ?_)); (fail_if_success (refine aG (b := false) rfl rfl rfl ?_)); refine aW rfl rfl rfl (fun hq => ?_) (fun hq => ?_) <;> first | subst hq | (first | (simp only [sD, sE, sB, sC, sN, sM, sT, sF] at hq; try (exfalso; omega)) | skip)) | fail) | (refine bW ?_; first | refine bN ?_ | refine bT ?_ | refine aQ ?_ | refine bD ?_ | refine bU ?_ | refine bL ?_ | refine bK ?_ | refine aA (b := true) rfl (fun _ => ?_) nTf | refine aA (b := false) rfl nFt (fun _ => ?_) | refine bE ?_ | refine bC ?_ | refine bA mixed (by kernel_rfl) ?_ | refine aD mixed (by kernel_rfl) ?_ | (refine aA rfl (fun hq => ?_) (fun hq => ?_) <;> first | subst hq | (first | (simp only [sD, sE, sB, sC, sN, sM, sT, sF] at hq; try (exfalso; omega)) | skip)) | fail) | (refine bQ ?_; first | refine bZ ?_ | refine aK ?_ | refine aT ?_ | fail) | (refine bG ?_; first | refine bV ?_ | refine aH ?_ | refine aI (by decide) ?_ | refine aM ?_ | fail) | refine bR (bB (by kernel_rfl)) ?_ | fail)
      all_goals first
        | (exfalso; omega)
        | (refine cA (by first | exact .inl rfl | exact .inr rfl) (cB rfl (aY rfl)) rfl ?_; rfl)
end Go.Proofs.Ytlbemgokilhdnaa.Ab
