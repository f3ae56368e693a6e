/- Words, walks and laws under the claim's statement: what it uses of them. No condition of its own. -/
import Derived.Test.YtocaohipfiapkaaGreatTMAb0
import Derived.Test.YtocaohipfiapkaaGreatTMAb1
import Derived.Sort.Walk0
namespace Go.Proofs.YtocaohipfiapkaaGreat.Ab
set_option linter.unusedVariables false
set_option linter.unusedSimpArgs false
inductive Tree where
  | nil
  | node (k n : Int) (name mark : ByteArray) (kids : List Tree)
mutual
def Tree.iv : Tree → IV
  | .nil => .lit (.pointer none)
  | .node k n a b kids => .ptr [.lit (.int .i64 k), .lit (.int .i64 n), .lit (.string a), .lit (.string b), .sl false kids.length (Tree.ivs kids)] 0
def Tree.ivs : List Tree → List IV
  | [] => []
  | t :: ts => Tree.iv t :: Tree.ivs ts
end
theorem cX : ∀ l : List Tree, Tree.ivs l = l.map Tree.iv
  | [] => rfl
  | t :: ts => by simp [Tree.ivs, cX ts]
theorem dD (l : List Tree) : (Tree.ivs l).length = l.length := by simp [cX]
theorem cS (l : List Tree) (j : Nat) (h : j < l.length) : (Tree.ivs l)[j * 1]? = some (l[j].iv) := by simp [cX, h]
theorem Tree.ind {motive : Tree → Prop} (h1 : motive .nil) (h2 : ∀ k n a b kids, (∀ t ∈ kids, motive t) → motive (.node k n a b kids)) (t : Tree) : motive t :=
  Tree.rec (motive_1 := motive) (motive_2 := fun ts => ∀ t ∈ ts, motive t) h1 (fun k n a b kids ih => h2 k n a b kids ih) (fun t h => by cases h) (fun t ts h1 h2 t' h => by
    rcases List.mem_cons.1 h with rfl | h
    · exact h1
    · exact h2 t' h) t
mutual
def Tree.whole : Tree → Bool
  | .nil => false
  | .node _ _ _ _ kids => Tree.wholes kids
def Tree.wholes : List Tree → Bool
  | [] => true
  | t :: ts => t.whole && Tree.wholes ts
end
mutual
def Tree.size : Tree → Nat
  | .nil => 0
  | .node _ _ _ _ kids => 1 + Tree.sizes kids
def Tree.sizes : List Tree → Nat
  | [] => 0
  | t :: ts => t.size + Tree.sizes ts
end
mutual
/-- Nodes and bytes. -/
def Tree.wt : Tree → Nat
  | .nil => 1
  | .node _ _ a b kids => 1 + a.size + b.size + Tree.wts kids
def Tree.wts : List Tree → Nat
  | [] => 0
  | t :: ts => t.wt + Tree.wts ts
end
theorem bL {t : Tree} : ∀ {l : List Tree}, Tree.wholes l = true → t ∈ l → t.whole = true
  | x :: xs, h, hm => by
    simp only [Tree.wholes, Bool.and_eq_true] at h
    rcases List.mem_cons.1 hm with rfl | hm
    · exact h.1
    · exact bL h.2 hm
theorem cY {t : Tree} : ∀ {l : List Tree}, t ∈ l → t.size ≤ Tree.sizes l
  | x :: xs, hm => by
    simp only [Tree.sizes]
    rcases List.mem_cons.1 hm with rfl | hm
    · omega
    · have := cY hm; omega
theorem bR {k n : Int} {a b : ByteArray} {kids : List Tree} {t : Tree} (h : t ∈ kids) : t.size < (Tree.node k n a b kids).size := by
  have := cY h
  simp only [Tree.size]; omega
theorem lP {t : Tree} (h : t.whole = true) : 1 ≤ t.size := by cases t <;> simp [Tree.whole, Tree.size] at *
theorem cO : ∀ (l : List Tree), Tree.wholes l = true → l.length ≤ Tree.sizes l
  | [], _ => Nat.le_refl _
  | t :: ts, h => by
    simp only [Tree.wholes, Bool.and_eq_true] at h
    have := cO ts h.2
    have := lP h.1
    simp only [Tree.sizes, List.length_cons]; omega
theorem Tree.sind {motive : Tree → Prop} (h : ∀ t, (∀ t', t'.size < t.size → motive t') → motive t) (t : Tree) : motive t := by
  have key : ∀ n (t : Tree), t.size = n → motive t := fun n => by
    induction n using Nat.strongRecOn with
    | _ n ih => exact fun t e => h t fun t' ht => ih t'.size (by omega) t' rfl
  exact key t.size t rfl
theorem cJ {t : Tree} (h : t.whole = true) : ∃ k n a b kids, t = .node k n a b kids := by cases t with | nil => simp [Tree.whole] at h | node k n a b kids => exact ⟨k, n, a, b, kids, rfl⟩
end Go.Proofs.YtocaohipfiapkaaGreat.Ab
namespace Go.Proofs.YtocaohipfiapkaaGreat.Ab
set_option linter.unusedVariables false
set_option linter.unusedSimpArgs false
attribute [local irreducible] AWP AOps AExit AThen ABlock ANoGoto FeetOk
def eqB (a b : ByteArray) : Bool := a.toList == b.toList
def emptyB : ByteArray := ⟨#[]⟩
def labelP (s : ByteArray) : Bool := decide ((1 : Int) ≤ s.size) && decide ((s.size : Int) ≤ 160)
set_option maxRecDepth 10000 in
theorem zB (s : ByteArray) : ACalls Tryz.prog 97 [.imm (.lit (.string s))] [] (.imm (.lit (.bool (labelP s)))) [] := by
  refine aJ Tryz.func97 rfl rfl (nb rfl) rfl ?_
  repeat' (first | refine aG ?_ | (refine aI ?_;  first | refine aC tabOk rfl rfl rfl (nb rfl) rfl ?_ | refine cA rfl rfl (nb rfl) ?_ | (refine aK rfl rfl rfl (nb rfl) rfl rfl rfl (fun hq => ?_) (fun hq => ?_) <;> (first | (simp only [sD, sE, sB, sC, sN, sM, sT, sF] at hq; try (exfalso; omega)) | skip)) | refine aY tabOk rfl rfl (nb rfl) rfl ?_) | (refine aN ?_;  first | refine aH ?_ | refine aT ?_))
  all_goals (refine aU (by first | exact .inl rfl | exact .inr rfl) (bC rfl (aA rfl)) rfl ?_; refine cR ?_; simp_all [labelP] <;> omega)
def bareP (n : Int) (a b : ByteArray) (nm nu : Bool) : Bool := (eqB b emptyB && (nm || eqB a emptyB)) && (nu || (n == 0))
set_option maxRecDepth 10000 in
theorem oT (k n : Int) (a b : ByteArray) (kids : List Tree) (nm nu : Bool) : ACalls Tryz.prog 44 [.imm (Tree.iv (.node k n a b kids)), .imm (.lit (.bool nm)), .imm (.lit (.bool nu))] [] (.imm (.lit (.bool (bareP n a b nm nu)))) [] := by
  refine aJ Tryz.func44 rfl rfl (nb rfl) rfl ?_
  repeat' (first | refine aG ?_ | (refine aI ?_;  first | refine aC tabOk rfl rfl rfl (nb rfl) rfl ?_ | refine cA rfl rfl (nb rfl) ?_ | (refine aK rfl rfl rfl (nb rfl) rfl rfl rfl (fun hq => ?_) (fun hq => ?_) <;> (first | (simp only [sD, sE, sB, sC, sN, sM, sT, sF] at hq; try (exfalso; omega)) | skip)) | ((fail_if_success (refine gY (b := true) rfl rfl rfl ?_)); (fail_if_success (refine gY (b := false) rfl rfl rfl ?_)); refine kU rfl rfl rfl (fun hq => ?_) (fun hq => ?_) <;> first | subst hq | (first | (simp only [sD, sE, sB, sC, sN, sM, sT, sF] at hq; try (exfalso; omega)) | skip))) | (refine aN ?_;  first | refine aH ?_ | refine aT ?_))
  all_goals (refine aU (by first | exact .inl rfl | exact .inr rfl) (bC rfl (aA rfl)) rfl ?_; refine cR ?_; simp_all [bareP, eqB, emptyB])
mutual
def isKindP : Tree → Bool
  | .nil => false
  | .node k n a b kids => if k = 100 then bareP n a b false false && ((kids.length : Int) == 0) else if k = 101 then bareP n a b false false && ((kids.length : Int) == 2) && (isKindPs kids).all id else false
def isKindPs : List Tree → List Bool
  | [] => []
  | t :: ts => isKindP t :: isKindPs ts
end
theorem dR : ∀ l : List Tree, isKindPs l = l.map isKindP
  | [] => rfl
  | t :: ts => by simp [isKindPs, dR ts]
theorem two {α : Type} {l : List α} (h : l.length = 2) : ∃ x y, l = [x, y] := by
  match l, h with
  | [x, y], _ => exact ⟨x, y, rfl⟩
set_option maxRecDepth 10000 in
theorem oU (t : Tree) (h : t.whole = true) : ACalls Tryz.prog 26 [.imm t.iv] [] (.imm (.lit (.bool (isKindP t)))) [] := by
  induction t using Tree.ind with
  | h1 => simp [Tree.whole] at h
  | h2 k n a b kids ih =>
    refine aJ Tryz.func26 rfl rfl (nb rfl) rfl ?_
    repeat' (first | refine aG ?_ | (refine aI ?_;  first | refine aC tabOk rfl rfl rfl (nb rfl) rfl ?_ | refine cA rfl rfl (nb rfl) ?_ | (refine aK rfl rfl rfl (nb rfl) rfl rfl rfl (fun hq => ?_) (fun hq => ?_) <;> (first | (simp only [sD, sE, sB, sC, sN, sM, sT, sF] at hq; try (exfalso; omega)) | skip)) | (refine cE rfl rfl rfl (nb rfl) rfl rfl rfl (oT _ _ _ _ _ _ _) (fun hq => ?_) (fun hq => ?_)) | (refine cE rfl rfl rfl (nb rfl) rfl rfl rfl (ih _ (List.getElem_mem _) (bL h (List.getElem_mem _))) (fun hq => ?_) (fun hq => ?_)) | refine aY tabOk rfl rfl (nb rfl) rfl ?_ | refine bE tabOk rfl rfl rfl (nb rfl) rfl rfl rfl rfl (by first | rfl | omega) (by first | omega | simp) ?_ | refine bO tabOk rfl rfl rfl (nb rfl) rfl rfl rfl (cS _ _ (by first | assumption | omega)) ?_) | (refine aN ?_;  first | refine aH ?_ | refine aQ ?_ | refine aX ?_ | refine aT ?_ | refine aZ ?_ | refine aE (b := true) rfl (fun _ => ?_) nTf | refine aE (b := false) rfl nFt (fun _ => ?_)) | (refine aM ?_;  first | refine bA ?_ | refine aV ?_) | (refine aW ?_;  first | refine bS ?_ | refine bD ?_))
    all_goals (refine aU (by first | exact .inl rfl | exact .inr rfl) (bC rfl (aA rfl)) rfl ?_; refine cR ?_; by_cases h2 : kids.length = 2 <;> first | (obtain ⟨x, y, rfl⟩ := two h2; simp_all [isKindP, isKindPs]; done) | (simp_all [isKindP]; done) | (simp_all [isKindP]; omega))
end Go.Proofs.YtocaohipfiapkaaGreat.Ab
namespace Go.Proofs.YtocaohipfiapkaaGreat.Ab
set_option linter.unusedVariables false
set_option linter.unusedSimpArgs false
def Tree.name : Tree → ByteArray
  | .nil => emptyB
  | .node _ _ a _ _ => a
def ltB (a b : ByteArray) : Bool := Op.bytesLess a.toList b.toList
def risingP : List Tree → Bool
  | t :: u :: r => ltB t.name u.name && risingP (u :: r)
  | _ => true
def distinctP : List Tree → Bool
  | [] => true
  | t :: r => !(r.any fun u => eqB u.name t.name) && distinctP r
mutual
def isConP : Tree → Bool
  | .nil => false
  | .node k n a b kids => bareP n a b false (k == 110) &&
     (if k = 110 then decide (n ≥ 0) && decide (n ≤ 65536) && ((kids.length : Int) == 0)
      else if k = 111 ∨ k = 112 ∨ k = 113 then ((kids.length : Int) == 0)
      else if k = 114 ∨ k = 120 then ((kids.length : Int) == 2) && isCons kids
      else if k = 115 then namedPs kids 116 && risingP kids
      else if k = 117 ∨ k = 118 ∨ k = 119 then isCon2 kids
      else if k = 121 then decide ((kids.length : Int) > 0) && namedPs kids 122 && distinctP kids
      else false)
def isCons : List Tree → Bool
  | [] => true
  | t :: ts => isConP t && isCons ts
def namedPs : List Tree → Int → Bool
  | [], _ => true
  | .nil :: _, _ => false
  | .node k n a b ks :: ts, kind => (k == kind && bareP n a b true false && labelP a && isCon1 ks) && namedPs ts kind
def isCon1 : List Tree → Bool
  | [c] => isConP c
  | _ => false
def isCon2 : List Tree → Bool
  | [x, y] => isKindP x && isConP y
  | _ => false
end
/-- One field, one case. -/
def okNamed (kind : Int) : Tree → Bool
  | .nil => false
  | .node k n a b ks => k == kind && bareP n a b true false && labelP a && isCon1 ks
theorem dF (kind : Int) (l : List Tree) : namedPs l kind = l.all (okNamed kind) := by
  induction l with
  | nil => simp [namedPs]
  | cons t ts ih => cases t <;> simp [namedPs, okNamed, ih]
theorem iC (l : List Tree) : isCons l = l.all isConP := by
  induction l with
  | nil => simp [isCons]
  | cons t ts ih => simp [isCons, ih]
theorem one_of {α : Type} {l : List α} (h : l.length = 1) : ∃ x, l = [x] := by
  match l, h with
  | [x], _ => exact ⟨x, rfl⟩
theorem gZ {l : List Tree} (h : l.length ≠ 1) : isCon1 l = false := by
  match l, h with
  | [], _ => simp [isCon1]
  | [x], h => simp at h
  | x :: y :: r, _ => simp [isCon1]
theorem fQ {l : List Tree} (h : l.length ≠ 2) : isCon2 l = false := by
  match l, h with
  | [], _ => simp [isCon2]
  | [x], _ => simp [isCon2]
  | [x, y], h => simp at h
  | x :: y :: z :: r, _ => simp [isCon2]
theorem oV {α : Type} {p : α → Bool} {l : List α} (h : ∀ i (hi : i < l.length), p l[i] = true) : l.all p = true := by
  rw [List.all_eq_true]
  intro x hx
  obtain ⟨i, hi, rfl⟩ := List.getElem_of_mem hx
  exact h i hi
theorem mW {α : Type} {p : α → Bool} {l : List α} {j : Nat} (hj : j < l.length) (h : p l[j] = false) : l.all p = false := by
  cases hc : l.all p with
  | false => rfl
  | true =>
    rw [List.all_eq_true] at hc
    have := hc l[j] (List.getElem_mem hj)
    rw [h] at this
    cases this
theorem jF : ∀ (l : List Tree), risingP l = true ↔ ∀ i (hi : i + 1 < l.length), ltB (l[i]'(by omega)).name l[i + 1].name = true
  | [] => by simp [risingP]
  | [x] => by simp [risingP]
  | t :: u :: r => by
    rw [risingP, Bool.and_eq_true, jF (u :: r)]
    constructor
    · rintro ⟨h1, h2⟩ i hi
      cases i with
      | zero => simpa using h1
      | succ i => exact h2 i (by simpa using hi)
    · intro h
      exact ⟨h 0 (by simp), fun i hi => h (i + 1) (by simpa using hi)⟩
theorem dV (a b : ByteArray) : eqB a b = true ↔ a = b := by
  unfold eqB
  rw [beq_iff_eq]
  constructor
  · intro h
    have e : ∀ x : ByteArray, x = ⟨x.toList.toArray⟩ := fun x => by
      rw [ByteArray.toList_eq]
    rw [e a, e b, h]
  · rintro rfl; rfl
theorem eD : ∀ (l : List Tree), distinctP l = true ↔ ∀ i j (hij : i < j) (hj : j < l.length), eqB l[j].name (l[i]'(by omega)).name = false
  | [] => by simp [distinctP]
  | t :: r => by
    rw [distinctP, Bool.and_eq_true, eD r]
    constructor
    · rintro ⟨h1, h2⟩ i j hij hj
      cases j with
      | zero => omega
      | succ j =>
        cases i with
        | zero =>
          simp only [Bool.not_eq_true', List.any_eq_false] at h1
          have hj' : j < r.length := by simpa using hj
          have := h1 r[j] (List.getElem_mem hj')
          exact Bool.eq_false_iff.2 this
        | succ i => exact h2 i j (by omega) (by simpa using hj)
    · intro h
      refine ⟨?_, fun i j hij hj => h (i + 1) (j + 1) (by omega) (by simpa using hj)⟩
      simp only [Bool.not_eq_true', List.any_eq_false]
      intro u hu
      obtain ⟨j, hj, rfl⟩ := List.getElem_of_mem hu
      exact Bool.eq_false_iff.1 (h 0 (j + 1) (by omega) (by simpa using hj))
end Go.Proofs.YtocaohipfiapkaaGreat.Ab
namespace Go.Proofs.YtocaohipfiapkaaGreat.Ab
set_option linter.unusedVariables false
set_option linter.unusedSimpArgs false
attribute [local irreducible] AWP AOps AExit AThen ABlock ANoGoto FeetOk
/-- Kid j, written out. -/
theorem oW {kids : List Tree} (h : Tree.wholes kids = true) {j : Nat} (hj : j < kids.length) : ∃ k n a b ks, kids[j] = Tree.node k n a b ks ∧ (Tree.ivs kids)[j * 1]? = some (Tree.iv (.node k n a b ks)) ∧ Tree.wholes ks = true := by
  obtain ⟨k, n, a, b, ks, e⟩ := cJ (bL h (List.getElem_mem hj))
  have hw := bL h (List.getElem_mem hj)
  rw [e] at hw
  exact ⟨k, n, a, b, ks, e, by rw [cS _ _ hj, e], hw⟩
set_option maxHeartbeats 4000000 in
set_option maxRecDepth 10000 in
theorem zC (k n : Int) (a b : ByteArray) (kids : List Tree) (kind : Int) (h : Tree.wholes kids = true) (hl : kids.length < 1000000000)
    (hc : ∀ t', t'.size < (Tree.node k n a b kids).size → t'.whole = true → ACalls Tryz.prog 60 [.imm t'.iv] [] (.imm (.lit (.bool (isConP t')))) []) :
    ACalls Tryz.prog 82 [.imm (Tree.iv (.node k n a b kids)), .imm (.lit (.int .i64 kind))] [] (.imm (.lit (.bool (namedPs kids kind)))) [] := by
  refine aJ Tryz.func82 rfl rfl (nb rfl) rfl ?_
  repeat' (first | refine aG ?_ | (refine aI ?_;  first | refine aC tabOk rfl rfl rfl (nb rfl) rfl ?_ | refine aY tabOk rfl rfl (nb rfl) rfl ?_) | (refine aN ?_;  first | refine aH ?_ | refine aQ ?_ | refine aX ?_))
  refine cH (ι := {j : Nat // j ≤ kids.length ∧ ∀ i (hi : i < kids.length), i < j → okNamed kind kids[i] = true}) (fun j => S.f ⟨[(12, .imm (.lit (.int .i64 (j.1 : Int)))), (11, .imm (.lit (.int .i64 (kids.length : Int)))), (10, .imm (.sl false kids.length (Tree.ivs kids))), (1, .imm (.lit (.int .i64 kind)))], []⟩) (fun j => kids.length - j.1) ⟨0, Nat.zero_le _, fun i _ hi => absurd hi (Nat.not_lt_zero _)⟩ (bW (by repeat' first | exact trivial | refine ⟨rfl, ?_⟩) (by repeat' first | exact trivial | refine ⟨rfl, ?_⟩)) ?_
  rintro ⟨j, hj, hok⟩
  dsimp only
  by_cases hlt : j < kids.length
  · obtain ⟨k1, n1, a1, b1, ks1, e1, hget, hw1⟩ := oW h hlt
    have hsz : ∀ i (hi : i < ks1.length), ks1[i].size < (Tree.node k n a b kids).size := fun i hi => by
      have h1 := bR (k := k1) (n := n1) (a := a1) (b := b1) (List.getElem_mem hi)
      have h2 := bR (k := k) (n := n) (a := a) (b := b) (List.getElem_mem hlt)
      rw [e1] at h2
      omega
    have hbad : okNamed kind (Tree.node k1 n1 a1 b1 ks1) = false → namedPs kids kind = false := fun hb => by
      rw [dF]; exact mW hlt (by rw [e1]; exact hb)
    have hgood : okNamed kind (Tree.node k1 n1 a1 b1 ks1) = true → ∀ i (hi : i < kids.length), i < j + 1 → okNamed kind kids[i] = true := fun hb i hi hij => by
      by_cases e : i = j
      · subst e; rw [e1]; exact hb
      · exact hok i hi (by omega)
    repeat' (first | refine aG ?_ | (refine aI ?_;  first | refine aC tabOk rfl rfl rfl (nb rfl) rfl ?_ | refine cA rfl rfl (nb rfl) ?_ | (refine aK rfl rfl rfl (nb rfl) rfl rfl rfl (fun hq => ?_) (fun hq => ?_) <;> (first | (simp only [sD, sE, sB, sC, sN, sM, sT, sF] at hq; try (exfalso; omega)) | skip)) | (refine cE rfl rfl rfl (nb rfl) rfl rfl rfl (oT _ _ _ _ _ _ _) (fun hq => ?_) (fun hq => ?_)) | (refine cE rfl rfl rfl (nb rfl) rfl rfl rfl (zB _) (fun hq => ?_) (fun hq => ?_)) | (refine cE rfl rfl rfl (nb rfl) rfl rfl rfl (hc _ (hsz _ _) (bL hw1 (List.getElem_mem _))) (fun hq => ?_) (fun hq => ?_)) | refine bX rfl rfl rfl (nb rfl) rfl rfl (by omega) ?_ | refine aY tabOk rfl rfl (nb rfl) rfl ?_ | refine bH tabOk rfl rfl rfl (nb rfl) rfl rfl rfl rfl (by first | assumption | omega) ?_ | refine bE tabOk rfl rfl rfl (nb rfl) rfl rfl rfl rfl (by first | rfl | omega) (by first | omega | simp) ?_ | refine bO tabOk rfl rfl rfl (nb rfl) rfl rfl rfl (by assumption) ?_ | refine bO tabOk rfl rfl rfl (nb rfl) rfl rfl rfl (cS _ _ (by first | assumption | omega)) ?_) | (refine aN ?_;  first | refine aH ?_ | refine aQ ?_ | refine bI ?_ | refine aX ?_ | refine aT ?_ | refine aZ ?_ | refine aE (b := true) rfl (fun _ => ?_) nTf | refine aE (b := false) rfl nFt (fun _ => ?_)) | (refine aM ?_;  first | refine bA ?_ | refine aV ?_) | (refine aW ?_;  first | refine bS ?_ | refine bD ?_))
    all_goals first
      | (refine aU (by first | exact .inl rfl | exact .inr rfl) (bC rfl (aA rfl)) rfl ?_; refine cR (hbad ?_).symm; by_cases h1 : ks1.length = 1 <;> first | (obtain ⟨c, rfl⟩ := one_of h1; simp_all [okNamed, isCon1]; done) | (exfalso; omega) | (simp_all [okNamed, gZ]; done))
      | exact ⟨⟨j + 1, hlt, hgood (by obtain ⟨c, rfl⟩ := one_of (l := ks1) (by omega); simp_all [okNamed, isCon1])⟩, (by show kids.length - (j + 1) < kids.length - j; omega), (bW (by repeat' first | exact trivial | refine ⟨rfl, ?_⟩) (by repeat' first | exact trivial | refine ⟨rfl, ?_⟩))⟩
  · repeat' (first | refine aG ?_ | (refine aI ?_;  first | refine aC tabOk rfl rfl rfl (nb rfl) rfl ?_ | (refine aK rfl rfl rfl (nb rfl) rfl rfl rfl (fun hq => ?_) (fun hq => ?_) <;> (first | (simp only [sD, sE, sB, sC, sN, sM, sT, sF] at hq; try (exfalso; omega)) | skip))) | (refine aN ?_;  first | refine aH ?_ | refine aQ ?_ | refine aT ?_ | refine bY ?_ | refine aE (b := false) rfl nFt (fun _ => ?_)) | (refine aM ?_;  first | refine bA ?_ | refine bN ?_) | (refine aW ?_;  first | refine bJ ?_))
    all_goals (refine aU (by first | exact .inl rfl | exact .inr rfl) (bC rfl (aA rfl)) rfl ?_; refine cR ?_; rw [dF]; exact (oV fun i hi => hok i hi (by omega)).symm)
end Go.Proofs.YtocaohipfiapkaaGreat.Ab
namespace Go.Proofs.YtocaohipfiapkaaGreat.Ab
set_option linter.unusedVariables false
set_option linter.unusedSimpArgs false
attribute [local irreducible] AWP AOps AExit AThen ABlock ANoGoto FeetOk
set_option maxHeartbeats 4000000 in
set_option maxRecDepth 10000 in
theorem wN (k n : Int) (a b : ByteArray) (kids : List Tree) (h : Tree.wholes kids = true) (hl : kids.length < 1000000000) :
    ACalls Tryz.prog 83 [.imm (Tree.iv (.node k n a b kids))] [] (.imm (.lit (.bool (risingP kids)))) [] := by
  refine aJ Tryz.func83 rfl rfl (nb rfl) rfl ?_
  repeat' (first | refine aG ?_ | (refine aI ?_;  first | refine aC tabOk rfl rfl rfl (nb rfl) rfl ?_) | (refine aN ?_;  first | refine aH ?_ | refine aQ ?_ | refine aX ?_))
  refine cH (ι := {j : Nat // 1 ≤ j ∧ (j ≤ kids.length ∨ j = 1) ∧ ∀ i (hi : i + 1 < kids.length), i + 1 < j → ltB (kids[i]'(by omega)).name kids[i + 1].name = true}) (fun j => S.f ⟨[(3, .imm (.lit (.int .i64 (j.1 : Int)))), (0, .imm (Tree.iv (.node k n a b kids)))], []⟩) (fun j => kids.length - j.1) ⟨1, Nat.le_refl _, .inr rfl, fun i _ hi => by omega⟩ (bW (by repeat' first | exact trivial | refine ⟨rfl, ?_⟩) (by repeat' first | exact trivial | refine ⟨rfl, ?_⟩)) ?_
  rintro ⟨j, hj1, hj, hok⟩
  dsimp only
  by_cases hlt : j < kids.length
  · obtain ⟨k1, n1, a1, b1, ks1, e1, hget, hw1⟩ := oW h hlt
    obtain ⟨k0, n0, a0, b0, ks0, e0, hget0, hw0⟩ := oW h (j := ((j : Int) - 1).toNat) (by omega)
    have e2 : ∀ i, i + 1 = j → ∀ (hi : i + 1 < kids.length), ltB (kids[i]'(by omega)).name kids[i + 1].name = Op.bytesLess a0.toList a1.toList := fun i hij hi => by
      have hi2 : ((j : Int) - 1).toNat = i := by omega
      have x0 : kids[i]'(by omega) = Tree.node k0 n0 a0 b0 ks0 := by simpa only [hi2] using e0
      have x1 : kids[i + 1] = Tree.node k1 n1 a1 b1 ks1 := by simpa only [hij] using e1
      rw [x0, x1]; rfl
    repeat' (first | refine aG ?_ | (refine aI ?_;  first | refine aC tabOk rfl rfl rfl (nb rfl) rfl ?_ | (refine aK rfl rfl rfl (nb rfl) rfl rfl rfl (fun hq => ?_) (fun hq => ?_) <;> (first | (simp only [sD, sE, sB, sC, sN, sM, sT, sF] at hq; try (exfalso; omega)) | skip)) | refine bX rfl rfl rfl (nb rfl) rfl rfl (by omega) ?_ | refine dB rfl rfl rfl (nb rfl) rfl rfl rfl (by omega) (by omega) ?_ | refine aY tabOk rfl rfl (nb rfl) rfl ?_ | refine bH tabOk rfl rfl rfl (nb rfl) rfl rfl rfl rfl (by first | assumption | omega) ?_ | refine bE tabOk rfl rfl rfl (nb rfl) rfl rfl rfl rfl (by first | rfl | omega) (by first | omega | simp) ?_ | refine bO tabOk rfl rfl rfl (nb rfl) rfl rfl rfl (by assumption) ?_) | (refine aN ?_;  first | refine aH ?_ | refine aQ ?_ | refine bI ?_ | refine aX ?_ | refine aT ?_ | refine aZ ?_ | refine aE (b := true) rfl (fun _ => ?_) nTf | refine aE (b := false) rfl nFt (fun _ => ?_) | refine aR mixed (by kernel_rfl) ?_) | (refine aM ?_;  first | refine bA ?_ | refine aV ?_) | (refine aW ?_;  first | refine bS ?_ | refine bD ?_) | refine bG (bF (by kernel_rfl)) ?_)
    all_goals first
      | (refine aU (by first | exact .inl rfl | exact .inr rfl) (bC rfl (aA rfl)) rfl ?_; refine cR ?_; symm; rw [Bool.eq_false_iff]; intro hr; rw [jF] at hr; have := hr (j - 1) (by omega); rw [e2 (j - 1) (by omega)] at this; simp_all; done)
      | exact ⟨⟨j + 1, by omega, .inl hlt, fun i hi hij => by by_cases e : i + 1 = j <;> first | (rw [e2 i e]; simp_all; done) | exact hok i hi (by omega)⟩, (by show kids.length - (j + 1) < kids.length - j; omega), (bW (by repeat' first | exact trivial | refine ⟨rfl, ?_⟩) (by repeat' first | exact trivial | refine ⟨rfl, ?_⟩))⟩
  · repeat' (first | refine aG ?_ | (refine aI ?_;  first | refine aC tabOk rfl rfl rfl (nb rfl) rfl ?_ | (refine aK rfl rfl rfl (nb rfl) rfl rfl rfl (fun hq => ?_) (fun hq => ?_) <;> (first | (simp only [sD, sE, sB, sC, sN, sM, sT, sF] at hq; try (exfalso; omega)) | skip)) | refine aY tabOk rfl rfl (nb rfl) rfl ?_) | (refine aN ?_;  first | refine aH ?_ | refine aQ ?_ | refine aT ?_ | refine bY ?_ | refine aE (b := false) rfl nFt (fun _ => ?_)) | (refine aM ?_;  first | refine bA ?_ | refine bN ?_) | (refine aW ?_;  first | refine bJ ?_))
    all_goals (refine aU (by first | exact .inl rfl | exact .inr rfl) (bC rfl (aA rfl)) rfl ?_; refine cR ?_; symm; rw [jF]; exact fun i hi => hok i hi (by omega))
/-- The map of the labels that were met. -/
def seenL (l : List Tree) : List (ByteArray × IV) := l.map fun t => (t.name, .lit (.bool true))
theorem uI (l : List Tree) (key : ByteArray) : mget (seenL l) key = cond (l.any fun u => eqB u.name key) (some (.lit (.bool true))) none := by
  induction l with
  | nil => rfl
  | cons t l ih =>
    simp only [seenL, List.map_cons, mget, List.any_cons]
    cases hb : eqB t.name key with
    | true => rw [if_pos ((dV _ _).1 hb)]; simp
    | false =>
      rw [if_neg (fun e => by rw [(dV _ _).2 e] at hb; cases hb)]
      simp only [Bool.false_or]
      exact ih
theorem qX (l : List Tree) (key : ByteArray) : (mget (seenL l) key).getD (.lit (.bool false)) = .lit (.bool (l.any fun u => eqB u.name key)) := by
  rw [uI]
  cases l.any (fun u => eqB u.name key) <;> rfl
theorem qY {l : List Tree} {key : ByteArray} (h : (l.any fun u => eqB u.name key) = false) : mget (seenL l) key = none := by
  rw [uI, h]; rfl
theorem qZ (l : List Tree) (t : Tree) (j : Nat) (hj : j < l.length) (e : l[j] = t) : seenL (l.take j) ++ [(t.name, .lit (.bool true))] = seenL (l.take (j + 1)) := by
  rw [List.take_add_one]
  simp [seenL, hj, e]
set_option maxHeartbeats 4000000 in
set_option maxRecDepth 10000 in
theorem wO (k n : Int) (a b : ByteArray) (kids : List Tree) (h : Tree.wholes kids = true) (hl : kids.length < 1000000000) :
    ACalls Tryz.prog 84 [.imm (Tree.iv (.node k n a b kids))] [] (.imm (.lit (.bool (distinctP kids)))) [] := by
  refine aJ Tryz.func84 rfl rfl (nb rfl) rfl ?_
  repeat' (first | refine aG ?_ | (refine aI ?_;  first | refine aC tabOk rfl rfl rfl (nb rfl) rfl ?_ | refine lK rfl rfl rfl (nb rfl) rfl rfl rfl ?_ | refine aY tabOk rfl rfl (nb rfl) rfl ?_) | (refine aN ?_;  first | refine aH ?_ | refine aQ ?_ | refine aX ?_))
  refine cH (ι := {j : Nat × List (ByteArray × IV) // j.1 ≤ kids.length ∧ j.2 = seenL (kids.take j.1) ∧ ∀ i i' (h1 : i < i') (h2 : i' < kids.length), i' < j.1 → eqB kids[i'].name (kids[i]'(by omega)).name = false}) (fun j => S.f ⟨[(12, .imm (.lit (.int .i64 (j.1.1 : Int)))), (11, .imm (.lit (.int .i64 (kids.length : Int)))), (10, .imm (.sl false kids.length (Tree.ivs kids))), (3, .mp 6)], [(6, .map j.1.2)]⟩) (fun j => kids.length - j.1.1) ⟨(0, []), Nat.zero_le _, rfl, fun i i' _ _ hi => absurd hi (Nat.not_lt_zero _)⟩ (bW (by repeat' first | exact trivial | refine ⟨rfl, ?_⟩) (by repeat' first | exact trivial | refine ⟨rfl, ?_⟩)) ?_
  rintro ⟨⟨j, l⟩, hj, hs, hok⟩
  dsimp only at hj hs hok ⊢
  by_cases hlt : j < kids.length
  · obtain ⟨k1, n1, a1, b1, ks1, e1, hget, hw1⟩ := oW h hlt
    have hb := qX (kids.take j) a1
    rw [← hs] at hb
    have hno : ((kids.take j).any fun u => eqB u.name a1) = false → mget l a1 = none := fun h => by rw [hs]; exact qY h
    have hmeet : ((kids.take j).any fun u => eqB u.name a1) = true → distinctP kids = false := fun h => by
      rw [Bool.eq_false_iff]
      intro hd
      rw [eD] at hd
      rw [List.any_eq_true] at h
      obtain ⟨u, hu, hub⟩ := h
      obtain ⟨i, hi, rfl⟩ := List.getElem_of_mem hu
      simp only [List.length_take] at hi
      have h2 := hd i j (by omega) hlt
      rw [e1] at h2
      simp only [List.getElem_take] at hub
      rw [(dV _ _).1 hub] at h2
      have h3 := (dV a1 a1).2 rfl
      rw [show Tree.name (Tree.node k1 n1 a1 b1 ks1) = a1 from rfl, h3] at h2
      cases h2
    have hnext : ((kids.take j).any fun u => eqB u.name a1) = false → ∀ i i' (h1 : i < i') (h2 : i' < kids.length), i' < j + 1 → eqB kids[i'].name (kids[i]'(by omega)).name = false := fun h i i' h1 h2 h3 => by
      by_cases e : i' = j
      · subst e
        rw [List.any_eq_false] at h
        have := h kids[i] (List.mem_iff_getElem.2 ⟨i, by simp; omega, by simp⟩)
        rw [e1]
        rw [Bool.eq_false_iff]
        intro hc
        exact this ((dV _ _).2 ((dV _ _).1 hc).symm)
      · exact hok i i' h1 h2 (by omega)
    repeat' (first | refine aG ?_ | (refine aI ?_;  first | refine aC tabOk rfl rfl rfl (nb rfl) rfl ?_ | (refine aK rfl rfl rfl (nb rfl) rfl rfl rfl (fun hq => ?_) (fun hq => ?_) <;> (first | (simp only [sD, sE, sB, sC, sN, sM, sT, sF] at hq; try (exfalso; omega)) | skip)) | (refine lL tabOk rfl rfl rfl (nb rfl) rfl rfl rfl rfl rfl rfl rfl rfl (hb) (fun hq => ?_) (fun hq => ?_)) | refine uD tabOk rfl rfl rfl rfl rfl rfl rfl rfl rfl rfl rfl (hno (by assumption)) ?_ | refine bX rfl rfl rfl (nb rfl) rfl rfl (by omega) ?_ | refine bH tabOk rfl rfl rfl (nb rfl) rfl rfl rfl rfl (by first | assumption | omega) ?_ | refine bO tabOk rfl rfl rfl (nb rfl) rfl rfl rfl (by assumption) ?_) | (refine aN ?_;  first | refine aH ?_ | refine aQ ?_ | refine bI ?_ | refine aX ?_ | refine aT ?_ | refine aZ ?_ | refine aE (b := true) rfl (fun _ => ?_) nTf | refine aE (b := false) rfl nFt (fun _ => ?_)) | (refine aM ?_;  first | refine bA ?_ | refine aV ?_) | (refine aW ?_;  first | refine bS ?_ | refine bD ?_))
    all_goals first
      | (refine aU (by first | exact .inl rfl | exact .inr rfl) (bC rfl (aA rfl)) rfl ?_; exact cR (hmeet (by assumption)).symm)
      | exact ⟨⟨(j + 1, l ++ [(a1, .lit (.bool true))]), hlt, (hs ▸ qZ kids _ j hlt e1), hnext (by assumption)⟩, (by show kids.length - (j + 1) < kids.length - j; omega), (bW (by repeat' first | exact trivial | refine ⟨rfl, ?_⟩) (by repeat' first | exact trivial | refine ⟨rfl, ?_⟩))⟩
  · repeat' (first | refine aG ?_ | (refine aI ?_;  first | refine aC tabOk rfl rfl rfl (nb rfl) rfl ?_ | (refine aK rfl rfl rfl (nb rfl) rfl rfl rfl (fun hq => ?_) (fun hq => ?_) <;> (first | (simp only [sD, sE, sB, sC, sN, sM, sT, sF] at hq; try (exfalso; omega)) | skip))) | (refine aN ?_;  first | refine aH ?_ | refine aQ ?_ | refine aT ?_ | refine bY ?_ | refine aE (b := false) rfl nFt (fun _ => ?_)) | (refine aM ?_;  first | refine bA ?_ | refine bN ?_) | (refine aW ?_;  first | refine bJ ?_))
    all_goals (refine aU (by first | exact .inl rfl | exact .inr rfl) (bC rfl (aA rfl)) rfl ?_; refine cR ?_; symm; rw [eD]; exact fun i i' h1 h2 => hok i i' h1 h2 (by omega))
end Go.Proofs.YtocaohipfiapkaaGreat.Ab
namespace Go.Proofs.YtocaohipfiapkaaGreat.Ab
set_option linter.unusedVariables false
set_option linter.unusedSimpArgs false
attribute [local irreducible] AWP AOps AExit AThen ABlock ANoGoto FeetOk
set_option maxHeartbeats 8000000 in
set_option maxRecDepth 10000 in
theorem zD (t : Tree) : t.whole = true → t.size ≤ 100000000 → ACalls Tryz.prog 60 [.imm t.iv] [] (.imm (.lit (.bool (isConP t)))) [] := by
  induction t using Tree.sind with
  | h t ih =>
    intro h hs
    obtain ⟨k, n, a, b, kids, rfl⟩ := cJ h
    have hl : kids.length < 1000000000 := by have := cO kids h; simp only [Tree.size] at hs; omega
    have hc : ∀ t', t'.size < (Tree.node k n a b kids).size → t'.whole = true → ACalls Tryz.prog 60 [.imm t'.iv] [] (.imm (.lit (.bool (isConP t')))) [] := fun t' h1 h2 => ih t' h1 h2 (by omega)
    refine aJ Tryz.func60 rfl rfl (nb rfl) rfl ?_
    repeat' (first | refine aG ?_ | (refine aI ?_;  first | refine aC tabOk rfl rfl rfl (nb rfl) rfl ?_ | refine cA rfl rfl (nb rfl) ?_ | (refine aK rfl rfl rfl (nb rfl) rfl rfl rfl (fun hq => ?_) (fun hq => ?_) <;> (first | (simp only [sD, sE, sB, sC, sN, sM, sT, sF] at hq; try (exfalso; omega)) | skip)) | (refine cE rfl rfl rfl (nb rfl) rfl rfl rfl (oT _ _ _ _ _ _ _) (fun hq => ?_) (fun hq => ?_)) | (refine cE rfl rfl rfl (nb rfl) rfl rfl rfl (zC _ _ _ _ _ _ h hl hc) (fun hq => ?_) (fun hq => ?_)) | (refine cE rfl rfl rfl (nb rfl) rfl rfl rfl (wN _ _ _ _ _ h hl) (fun hq => ?_) (fun hq => ?_)) | (refine cE rfl rfl rfl (nb rfl) rfl rfl rfl (wO _ _ _ _ _ h hl) (fun hq => ?_) (fun hq => ?_)) | (refine cE rfl rfl rfl (nb rfl) rfl rfl rfl (oU _ (bL h (List.getElem_mem _))) (fun hq => ?_) (fun hq => ?_)) | (refine cE rfl rfl rfl (nb rfl) rfl rfl rfl (hc _ (bR (List.getElem_mem _)) (bL h (List.getElem_mem _))) (fun hq => ?_) (fun hq => ?_)) | refine aY tabOk rfl rfl (nb rfl) rfl ?_ | refine bE tabOk rfl rfl rfl (nb rfl) rfl rfl rfl rfl (by first | rfl | omega) (by first | omega | simp) ?_ | refine bO tabOk rfl rfl rfl (nb rfl) rfl rfl rfl (cS _ _ (by first | assumption | omega)) ?_) | (refine aN ?_;  first | refine aH ?_ | refine aQ ?_ | refine bI ?_ | refine aX ?_ | refine aT ?_ | refine bY ?_ | refine aZ ?_ | refine aE (b := true) rfl (fun _ => ?_) nTf | refine aE (b := false) rfl nFt (fun _ => ?_)) | (refine aM ?_;  first | refine bA ?_ | refine bN ?_ | refine aV ?_) | (refine aW ?_;  first | refine bS ?_ | refine bJ ?_ | refine lH (by decide) ?_ | refine bD ?_))
    all_goals (refine aU (by first | exact .inl rfl | exact .inr rfl) (bC rfl (aA rfl)) rfl ?_; refine cR ?_; by_cases h2 : kids.length = 2 <;> first | (obtain ⟨x, y, rfl⟩ := two h2; simp_all [isConP, isCons, isCon2]; done) | (exfalso; omega) | (simp_all [isConP, fQ]; done) | (simp_all [isConP, fQ]; omega) | (rw [isConP]; cases hk : (k == 110) <;> simp_all; done))
end Go.Proofs.YtocaohipfiapkaaGreat.Ab
namespace Go.Proofs.YtocaohipfiapkaaGreat.Ab
set_option linter.unusedVariables false
set_option linter.unusedSimpArgs false
attribute [local irreducible] AWP AOps AExit AThen ABlock ANoGoto FeetOk
mutual
/-- The answer, and what is left. -/
def wholeP : Tree → Int → Int × Int
  | .nil, l => (1, l)
  | .node _ _ _ _ kids, l => if l - 1 < 0 then (3, l - 1) else wholePs kids (l - 1)
def wholePs : List Tree → Int → Int × Int
  | [], l => (0, l)
  | t :: ts, l => if (wholeP t l).1 = 0 then wholePs ts (wholeP t l).2 else wholeP t l
end
theorem lQ {l : List Tree} {x : Int} {j : Nat} (hj : j < l.length) (h : (wholePs (l.take j) x).1 = 0) : wholePs (l.take (j + 1)) x = wholeP l[j] (wholePs (l.take j) x).2 := by
  induction l generalizing x j with
  | nil => simp at hj
  | cons t ts ih =>
    cases j with
    | zero =>
      simp only [List.take_zero, wholePs, List.take_succ_cons, List.getElem_cons_zero]
      split
      · rename_i e; exact Prod.ext e.symm rfl
      · rfl
    | succ j =>
      simp only [List.take_succ_cons, wholePs, List.getElem_cons_succ] at h ⊢
      split
      · rename_i e
        rw [if_pos e] at h
        exact ih (by simpa using hj) h
      · rename_i e
        rw [if_neg e] at h
        exact absurd h e
theorem lR {l : List Tree} {x : Int} {j : Nat} (hj : j < l.length) (h : (wholePs (l.take j) x).1 = 0) (h2 : (wholeP l[j] (wholePs (l.take j) x).2).1 ≠ 0) : wholePs l x = wholeP l[j] (wholePs (l.take j) x).2 := by
  induction l generalizing x j with
  | nil => simp at hj
  | cons t ts ih =>
    cases j with
    | zero =>
      simp only [List.take_zero, wholePs, List.getElem_cons_zero] at h2 ⊢
      rw [if_neg h2]
    | succ j =>
      simp only [List.take_succ_cons, wholePs, List.getElem_cons_succ] at h h2 ⊢
      split
      · rename_i e
        rw [if_pos e] at h h2
        exact ih (by simpa using hj) h h2
      · rename_i e
        rw [if_neg e] at h
        exact absurd h e
theorem iD (t : Tree) : ∀ l, 0 ≤ l → (wholeP t l).1 = 0 → 0 ≤ (wholeP t l).2 ∧ (wholeP t l).2 + 1 ≤ l := by
  induction t using Tree.ind with
  | h1 => intro l _ h; simp [wholeP] at h
  | h2 k n a b kids ih =>
    intro l hl h
    rw [wholeP] at h ⊢
    split at h
    · cases h
    · rename_i hn
      rw [if_neg hn]
      have key : ∀ (ts : List Tree) (x : Int), (∀ t ∈ ts, t ∈ kids) → 0 ≤ x → (wholePs ts x).1 = 0 → 0 ≤ (wholePs ts x).2 ∧ (wholePs ts x).2 + ts.length ≤ x := by
        intro ts
        induction ts with
        | nil => intro x _ hx _; simp [wholePs, hx]
        | cons t ts ih2 =>
          intro x hm hx he
          rw [wholePs] at he ⊢
          split at he
          · rename_i e
            rw [if_pos e]
            have h1 := ih t (hm t (by simp)) x hx e
            have h2 := ih2 (wholeP t x).2 (fun t' ht' => hm t' (by simp [ht'])) h1.1 he
            simp only [List.length_cons]
            omega
          · rename_i e; exact absurd he e
      have := key kids (l - 1) (fun _ h => h) (by omega) h
      omega
theorem iE (ts : List Tree) : ∀ x, 0 ≤ x → (wholePs ts x).1 = 0 → 0 ≤ (wholePs ts x).2 ∧ (wholePs ts x).2 + ts.length ≤ x := by
  induction ts with
  | nil => intro x hx _; simp [wholePs, hx]
  | cons t ts ih =>
    intro x hx he
    rw [wholePs] at he ⊢
    split at he
    · rename_i e
      rw [if_pos e]
      have h1 := iD t x hx e
      have h2 := ih (wholeP t x).2 h1.1 he
      simp only [List.length_cons]
      omega
    · rename_i e; exact absurd he e
theorem kM (ts : List Tree) (x : Int) (hx : 0 ≤ x) (h : (wholePs ts x).1 = 0) : 0 ≤ (wholePs ts x).2 ∧ (wholePs ts x).2 ≤ x := by have := iE ts x hx h; omega
set_option maxHeartbeats 4000000 in
set_option maxRecDepth 10000 in
theorem zE (t : Tree) : ∀ l : Int, t.size ≤ 100000000 → -100000000 ≤ l → l ≤ 100000000 → ACalls Tryz.prog 43 [.imm t.iv, .obj 1000 0] [(1000, .cells [.imm (.lit (.int .i64 l))])] (.imm (.lit (.int .i64 (wholeP t l).1))) [(1000, .cells [.imm (.lit (.int .i64 (wholeP t l).2))])] := by
  induction t using Tree.ind with
  | h1 =>
    intro l hs h1 h2
    refine iA Tryz.func43 rfl rfl (nb rfl) rfl rfl ?_
    repeat' (first | refine aG ?_ | (refine aI ?_;  first | refine aC tabOk rfl rfl rfl (nb rfl) rfl ?_ | refine aY tabOk rfl rfl (nb rfl) rfl ?_) | (refine aN ?_;  first | refine aH ?_ | refine aQ ?_ | refine aT ?_ | refine aE (b := true) rfl (fun _ => ?_) nTf) | (refine aM ?_;  first | refine aV ?_))
    all_goals (refine eL (cs := []) (by first | exact .inl rfl | exact .inr rfl) (bC rfl (aA rfl)) rfl rfl rfl ?_; rfl)
  | h2 k n a b kids ih =>
    intro l hs h1 h2
    refine iA Tryz.func43 rfl rfl (nb rfl) rfl rfl ?_
    repeat' (first | refine aG ?_ | (refine aI ?_;  first | refine aC tabOk rfl rfl rfl (nb rfl) rfl ?_ | (refine aK rfl rfl rfl (nb rfl) rfl rfl rfl (fun hq => ?_) (fun hq => ?_) <;> (first | (simp only [sD, sE, sB, sC, sN, sM, sT, sF] at hq; try (exfalso; omega)) | skip)) | refine dB rfl rfl rfl (nb rfl) rfl rfl rfl (by omega) (by omega) ?_ | refine aY tabOk rfl rfl (nb rfl) rfl ?_ | refine bM tabOk rfl rfl rfl (nb rfl) rfl rfl rfl rfl ?_ | refine bP tabOk rfl rfl rfl rfl rfl rfl rfl rfl rfl rfl rfl ?_) | (refine aN ?_;  first | refine aH ?_ | refine aQ ?_ | refine aX ?_ | refine aT ?_ | refine aZ ?_ | refine aE (b := true) rfl (fun _ => ?_) nTf | refine aE (b := false) rfl nFt (fun _ => ?_)) | (refine aM ?_;  first | refine bA ?_ | refine aV ?_))
    · rw [show wholeP (.node k n a b kids) l = (3, l - 1) from if_pos (by omega)]
      refine eL (cs := []) (by first | exact .inl rfl | exact .inr rfl) (bC rfl (aA rfl)) rfl rfl rfl ?_; rfl
    · rename_i hq
      have e0 : wholeP (.node k n a b kids) l = wholePs kids (l - 1) := if_neg (by omega)
      rw [e0]
      have hlen : kids.length < 9223372036854775807 ∨ kids.length ≥ 9223372036854775807 := by omega
      refine cH (ι := {j : Nat // j ≤ kids.length ∧ (wholePs (kids.take j) (l - 1)).1 = 0}) (fun j => S.f ⟨[(24, .imm (.lit (.int .i64 (j.1 : Int)))), (23, .imm (.lit (.int .i64 (kids.length : Int)))), (22, .imm (.sl false kids.length (Tree.ivs kids))), (1, .obj 1000 0)], [(1000, .cells [.imm (.lit (.int .i64 (wholePs (kids.take j.1) (l - 1)).2))])]⟩) (fun j => kids.length - j.1) ⟨0, Nat.zero_le _, by rw [List.take_zero, wholePs]⟩ (bW (by repeat' first | exact trivial | refine ⟨rfl, ?_⟩) (by repeat' first | exact trivial | refine ⟨rfl, ?_⟩)) ?_
      rintro ⟨j, hj, hok⟩
      dsimp only
      by_cases hlt : j < kids.length
      · have hm := List.getElem_mem hlt
        have hsz := bR (k := k) (n := n) (a := a) (b := b) hm
        have hbd := kM (kids.take j) (l - 1) (by omega) hok
        have hjl : j < 9223372036854775807 := by
          by_cases hj0 : j < 9223372036854775807
          · exact hj0
          · exfalso
            have := iE (kids.take j) (l - 1) (by omega) hok
            rw [List.length_take] at this
            omega
        repeat' (first | refine aG ?_ | (refine aI ?_;  first | refine aC tabOk rfl rfl rfl (nb rfl) rfl ?_ | (refine aK rfl rfl rfl (nb rfl) rfl rfl rfl (fun hq => ?_) (fun hq => ?_) <;> (first | (simp only [sD, sE, sB, sC, sN, sM, sT, sF] at hq; try (exfalso; omega)) | skip)) | refine cD rfl rfl (nb rfl) rfl rfl rfl rfl (ih _ hm (wholePs (kids.take j) (l - 1)).2 (by omega) (by omega) (by omega)) (by exact ⟨rfl, trivial⟩) rfl (by simp) ?_ | refine bX rfl rfl rfl (nb rfl) rfl rfl (by omega) ?_ | refine bH tabOk rfl rfl rfl (nb rfl) rfl rfl rfl rfl (by first | assumption | omega) ?_ | refine bO tabOk rfl rfl rfl (nb rfl) rfl rfl rfl (cS _ _ (by first | assumption | omega)) ?_) | (refine aN ?_;  first | refine aH ?_ | refine aQ ?_ | refine bI ?_ | refine aX ?_ | refine aT ?_ | refine aZ ?_ | refine aE (b := true) rfl (fun _ => ?_) nTf | refine aE (b := false) rfl nFt (fun _ => ?_)) | (refine aM ?_;  first | refine bA ?_ | refine aV ?_) | (refine aW ?_;  first | refine bS ?_ | refine bD ?_))
        all_goals first
          | (have hq : (wholeP kids[j] (wholePs (kids.take j) (l - 1)).2).1 ≠ 0 := by assumption
             have hst := lR hlt hok hq; rw [hst]; refine eL (cs := []) (by first | exact .inl rfl | exact .inr rfl) (bC rfl (aA rfl)) rfl rfl rfl ?_; rfl; done)
          | (have hq : (wholeP kids[j] (wholePs (kids.take j) (l - 1)).2).1 = 0 := by assumption
             have hst := lQ hlt hok; exact ⟨⟨j + 1, hlt, by rw [hst]; exact hq⟩, (by show kids.length - (j + 1) < kids.length - j; omega), (bW (by repeat' first | exact trivial | refine ⟨rfl, ?_⟩) (by rw [hst]; exact ⟨rfl, trivial⟩))⟩)
      · repeat' (first | refine aG ?_ | (refine aI ?_;  first | refine aC tabOk rfl rfl rfl (nb rfl) rfl ?_ | (refine aK rfl rfl rfl (nb rfl) rfl rfl rfl (fun hq => ?_) (fun hq => ?_) <;> (first | (simp only [sD, sE, sB, sC, sN, sM, sT, sF] at hq; try (exfalso; omega)) | skip))) | (refine aN ?_;  first | refine aH ?_ | refine aQ ?_ | refine aT ?_ | refine bY ?_ | refine aE (b := false) rfl nFt (fun _ => ?_)) | (refine aM ?_;  first | refine bA ?_ | refine bN ?_) | (refine aW ?_;  first | refine bJ ?_))
        all_goals (have e1 : kids.take j = kids := List.take_of_length_le (by omega); rw [e1] at hok ⊢; refine eL (cs := []) (by first | exact .inl rfl | exact .inr rfl) (bC rfl (aA rfl)) rfl rfl rfl ?_; exact oP hok.symm)
set_option maxHeartbeats 4000000 in
set_option maxRecDepth 10000 in
theorem wP (t : Tree) : ∀ l : Int, t.size ≤ 100000000 → -100000000 ≤ l → l ≤ 100000000 → ACalls Tryz.prog 23 [.imm t.iv, .obj 1000 0] [(1000, .cells [.imm (.lit (.int .i64 l))])] (.imm (.lit (.int .i64 (wholeP t l).1))) [(1000, .cells [.imm (.lit (.int .i64 (wholeP t l).2))])] := by
  induction t using Tree.ind with
  | h1 =>
    intro l hs h1 h2
    refine iA Tryz.func23 rfl rfl (nb rfl) rfl rfl ?_
    repeat' (first | refine aG ?_ | (refine aI ?_;  first | refine aC tabOk rfl rfl rfl (nb rfl) rfl ?_ | refine aY tabOk rfl rfl (nb rfl) rfl ?_) | (refine aN ?_;  first | refine aH ?_ | refine aQ ?_ | refine aT ?_ | refine aE (b := true) rfl (fun _ => ?_) nTf) | (refine aM ?_;  first | refine aV ?_))
    all_goals (refine eL (cs := []) (by first | exact .inl rfl | exact .inr rfl) (bC rfl (aA rfl)) rfl rfl rfl ?_; rfl)
  | h2 k n a b kids ih =>
    intro l hs h1 h2
    refine iA Tryz.func23 rfl rfl (nb rfl) rfl rfl ?_
    repeat' (first | refine aG ?_ | (refine aI ?_;  first | refine aC tabOk rfl rfl rfl (nb rfl) rfl ?_ | (refine aK rfl rfl rfl (nb rfl) rfl rfl rfl (fun hq => ?_) (fun hq => ?_) <;> (first | (simp only [sD, sE, sB, sC, sN, sM, sT, sF] at hq; try (exfalso; omega)) | skip)) | refine dB rfl rfl rfl (nb rfl) rfl rfl rfl (by omega) (by omega) ?_ | refine aY tabOk rfl rfl (nb rfl) rfl ?_ | refine bM tabOk rfl rfl rfl (nb rfl) rfl rfl rfl rfl ?_ | refine bP tabOk rfl rfl rfl rfl rfl rfl rfl rfl rfl rfl rfl ?_) | (refine aN ?_;  first | refine aH ?_ | refine aQ ?_ | refine aX ?_ | refine aT ?_ | refine aZ ?_ | refine aE (b := true) rfl (fun _ => ?_) nTf | refine aE (b := false) rfl nFt (fun _ => ?_)) | (refine aM ?_;  first | refine bA ?_ | refine aV ?_))
    · rw [show wholeP (.node k n a b kids) l = (3, l - 1) from if_pos (by omega)]
      refine eL (cs := []) (by first | exact .inl rfl | exact .inr rfl) (bC rfl (aA rfl)) rfl rfl rfl ?_; rfl
    · rename_i hq
      have e0 : wholeP (.node k n a b kids) l = wholePs kids (l - 1) := if_neg (by omega)
      rw [e0]
      have hlen : kids.length < 9223372036854775807 ∨ kids.length ≥ 9223372036854775807 := by omega
      refine cH (ι := {j : Nat // j ≤ kids.length ∧ (wholePs (kids.take j) (l - 1)).1 = 0}) (fun j => S.f ⟨[(24, .imm (.lit (.int .i64 (j.1 : Int)))), (23, .imm (.lit (.int .i64 (kids.length : Int)))), (22, .imm (.sl false kids.length (Tree.ivs kids))), (1, .obj 1000 0)], [(1000, .cells [.imm (.lit (.int .i64 (wholePs (kids.take j.1) (l - 1)).2))])]⟩) (fun j => kids.length - j.1) ⟨0, Nat.zero_le _, by rw [List.take_zero, wholePs]⟩ (bW (by repeat' first | exact trivial | refine ⟨rfl, ?_⟩) (by repeat' first | exact trivial | refine ⟨rfl, ?_⟩)) ?_
      rintro ⟨j, hj, hok⟩
      dsimp only
      by_cases hlt : j < kids.length
      · have hm := List.getElem_mem hlt
        have hsz := bR (k := k) (n := n) (a := a) (b := b) hm
        have hbd := kM (kids.take j) (l - 1) (by omega) hok
        have hjl : j < 9223372036854775807 := by
          by_cases hj0 : j < 9223372036854775807
          · exact hj0
          · exfalso
            have := iE (kids.take j) (l - 1) (by omega) hok
            rw [List.length_take] at this
            omega
        repeat' (first | refine aG ?_ | (refine aI ?_;  first | refine aC tabOk rfl rfl rfl (nb rfl) rfl ?_ | (refine aK rfl rfl rfl (nb rfl) rfl rfl rfl (fun hq => ?_) (fun hq => ?_) <;> (first | (simp only [sD, sE, sB, sC, sN, sM, sT, sF] at hq; try (exfalso; omega)) | skip)) | refine cD rfl rfl (nb rfl) rfl rfl rfl rfl (ih _ hm (wholePs (kids.take j) (l - 1)).2 (by omega) (by omega) (by omega)) (by exact ⟨rfl, trivial⟩) rfl (by simp) ?_ | refine bX rfl rfl rfl (nb rfl) rfl rfl (by omega) ?_ | refine bH tabOk rfl rfl rfl (nb rfl) rfl rfl rfl rfl (by first | assumption | omega) ?_ | refine bO tabOk rfl rfl rfl (nb rfl) rfl rfl rfl (cS _ _ (by first | assumption | omega)) ?_) | (refine aN ?_;  first | refine aH ?_ | refine aQ ?_ | refine bI ?_ | refine aX ?_ | refine aT ?_ | refine aZ ?_ | refine aE (b := true) rfl (fun _ => ?_) nTf | refine aE (b := false) rfl nFt (fun _ => ?_)) | (refine aM ?_;  first | refine bA ?_ | refine aV ?_) | (refine aW ?_;  first | refine bS ?_ | refine bD ?_))
        all_goals first
          | (have hq : (wholeP kids[j] (wholePs (kids.take j) (l - 1)).2).1 ≠ 0 := by assumption
             have hst := lR hlt hok hq; rw [hst]; refine eL (cs := []) (by first | exact .inl rfl | exact .inr rfl) (bC rfl (aA rfl)) rfl rfl rfl ?_; rfl; done)
          | (have hq : (wholeP kids[j] (wholePs (kids.take j) (l - 1)).2).1 = 0 := by assumption
             have hst := lQ hlt hok; exact ⟨⟨j + 1, hlt, by rw [hst]; exact hq⟩, (by show kids.length - (j + 1) < kids.length - j; omega), (bW (by repeat' first | exact trivial | refine ⟨rfl, ?_⟩) (by rw [hst]; exact ⟨rfl, trivial⟩))⟩)
      · repeat' (first | refine aG ?_ | (refine aI ?_;  first | refine aC tabOk rfl rfl rfl (nb rfl) rfl ?_ | (refine aK rfl rfl rfl (nb rfl) rfl rfl rfl (fun hq => ?_) (fun hq => ?_) <;> (first | (simp only [sD, sE, sB, sC, sN, sM, sT, sF] at hq; try (exfalso; omega)) | skip))) | (refine aN ?_;  first | refine aH ?_ | refine aQ ?_ | refine aT ?_ | refine bY ?_ | refine aE (b := false) rfl nFt (fun _ => ?_)) | (refine aM ?_;  first | refine bA ?_ | refine bN ?_) | (refine aW ?_;  first | refine bJ ?_))
        all_goals (have e1 : kids.take j = kids := List.take_of_length_le (by omega); rw [e1] at hok ⊢; refine eL (cs := []) (by first | exact .inl rfl | exact .inr rfl) (bC rfl (aA rfl)) rfl rfl rfl ?_; exact oP hok.symm)
end Go.Proofs.YtocaohipfiapkaaGreat.Ab
namespace Go.Proofs.YtocaohipfiapkaaGreat.Ab
set_option linter.unusedVariables false
set_option linter.unusedSimpArgs false
attribute [local irreducible] AWP AOps AExit AThen ABlock ANoGoto FeetOk
theorem iF (t : Tree) : ∀ l, (wholeP t l).1 = 0 → t.whole = true := by
  induction t using Tree.ind with
  | h1 => intro l h; simp [wholeP] at h
  | h2 k n a b kids ih =>
    intro l h
    rw [wholeP] at h
    split at h
    · cases h
    · have key : ∀ (ts : List Tree) (x : Int), (∀ t ∈ ts, t ∈ kids) → (wholePs ts x).1 = 0 → Tree.wholes ts = true := by
        intro ts
        induction ts with
        | nil => intro x _ _; rfl
        | cons t ts ih2 =>
          intro x hm he
          rw [wholePs] at he
          split at he
          · rename_i e
            simp only [Tree.wholes, Bool.and_eq_true]
            exact ⟨ih t (hm t (by simp)) x e, ih2 _ (fun t' ht' => hm t' (by simp [ht'])) he⟩
          · rename_i e; exact absurd he e
      exact key kids _ (fun _ h => h) h
def checkP (form : Tree → Bool) (t : Tree) : Int := if (wholeP t 65536).1 = 0 then (if form t then 0 else 16) else (wholeP t 65536).1
set_option maxHeartbeats 4000000 in
set_option maxRecDepth 10000 in
theorem rA (t : Tree) (f : FuncId) (form : Tree → Bool) (hs : t.size ≤ 100000000) (hf : t.whole = true → ACalls Tryz.prog f [.imm t.iv] [] (.imm (.lit (.bool (form t)))) []) :
    ACalls Tryz.prog 25 [.imm t.iv, .imm (.func f [] [])] [] (.imm (.lit (.int .i64 (checkP form t)))) [] := by
  refine aJ Tryz.func25 rfl rfl (nb rfl) rfl ?_
  repeat' (first | refine aG ?_ | (refine aI ?_;  first | refine aC tabOk rfl rfl rfl (nb rfl) rfl ?_ | refine cA rfl rfl (nb rfl) ?_ | (refine aK rfl rfl rfl (nb rfl) rfl rfl rfl (fun hq => ?_) (fun hq => ?_) <;> (first | (simp only [sD, sE, sB, sC, sN, sM, sT, sF] at hq; try (exfalso; omega)) | skip)) | refine cV 1000 tabOk rfl rfl rfl (nb rfl) rfl rfl rfl rfl rfl rfl ?_ | refine cD rfl rfl (nb rfl) rfl rfl rfl rfl (zE t 65536 hs (by omega) (by omega)) (by exact ⟨rfl, trivial⟩) rfl (by simp) ?_ | (refine cE rfl rfl rfl (nb rfl) rfl rfl rfl (hf (iF t _ (by assumption))) (fun hq => ?_) (fun hq => ?_)) | refine bP tabOk rfl rfl rfl rfl rfl rfl rfl rfl rfl rfl rfl ?_) | (refine aN ?_;  first | refine aH ?_ | refine aQ ?_ | refine aT ?_ | refine aZ ?_ | refine aE (b := true) rfl (fun _ => ?_) nTf | refine aE (b := false) rfl nFt (fun _ => ?_)) | (refine aM ?_;  first | refine bA ?_ | refine aV ?_))
  all_goals (refine aU (by first | exact .inl rfl | exact .inr rfl) (bC rfl (aA rfl)) rfl ?_; refine oP ?_; simp_all [checkP])
set_option maxRecDepth 10000 in
theorem eM (t : Tree) (hs : t.size ≤ 100000000) : ACalls Tryz.prog 33 [.imm t.iv] [] (.imm (.lit (.int .i64 (checkP isConP t)))) [] := by
  refine aJ Tryz.func33 rfl rfl (nb rfl) rfl ?_
  repeat' (first | refine aG ?_ | (refine aI ?_;  first | refine aC tabOk rfl rfl rfl (nb rfl) rfl ?_ | refine aD rfl rfl (nb rfl) rfl rfl rfl rfl (rA t _ _ hs (fun h => zD t h hs)) ?_) | (refine aN ?_;  first | refine aH ?_ | refine aT ?_))
  all_goals (refine aU (by first | exact .inl rfl | exact .inr rfl) (bC rfl (aA rfl)) rfl ?_; rfl)
set_option maxRecDepth 10000 in
theorem oX (t : Tree) (hs : t.size ≤ 100000000) : ACalls Tryz.prog 14 [.imm t.iv] [] (.imm (.lit (.int .i64 (checkP isKindP t)))) [] := by
  refine aJ Tryz.func14 rfl rfl (nb rfl) rfl ?_
  repeat' (first | refine aG ?_ | (refine aI ?_;  first | refine aC tabOk rfl rfl rfl (nb rfl) rfl ?_ | refine aD rfl rfl (nb rfl) rfl rfl rfl rfl (rA t _ _ hs (fun h => oU t h)) ?_) | (refine aN ?_;  first | refine aH ?_ | refine aT ?_))
  all_goals (refine aU (by first | exact .inl rfl | exact .inr rfl) (bC rfl (aA rfl)) rfl ?_; rfl)
end Go.Proofs.YtocaohipfiapkaaGreat.Ab
namespace Go.Proofs.YtocaohipfiapkaaGreat.Ab
set_option linter.unusedVariables false
set_option linter.unusedSimpArgs false
attribute [local irreducible] AWP AOps AExit AThen ABlock ANoGoto FeetOk
/-- How many constructors a node binds in its kids. -/
def bindsP (k : Int) : Int := if k = 117 ∨ k = 118 ∨ k = 119 ∨ k = 121 then 1 else 0
theorem fT (k : Int) : 0 ≤ bindsP k ∧ bindsP k ≤ 1 := by unfold bindsP; split <;> omega
def varT (n : Int) : Tree := .node 110 n emptyB emptyB []
mutual
/-- Are all variables of a tree such as a constructor may have? -/
def okVars : Tree → Bool
  | .nil => false
  | .node k n a b kids => if k = 110 then decide (0 ≤ n ∧ n ≤ 65536) && (decide (a = emptyB) && (decide (b = emptyB) && kids.isEmpty)) else okVarss kids
def okVarss : List Tree → Bool
  | [] => true
  | t :: ts => okVars t && okVarss ts
end
theorem mX : ∀ {l : List Tree}, okVarss l = true → ∀ t ∈ l, okVars t = true
  | x :: xs, h, t, ht => by
    simp only [okVarss, Bool.and_eq_true] at h
    rcases List.mem_cons.1 ht with rfl | ht
    · exact h.1
    · exact mX h.2 t ht
theorem iG : ∀ {l : List Tree}, (∀ t ∈ l, okVars t = true) → okVarss l = true
  | [], _ => by rw [okVarss]
  | x :: xs, h => by
    simp only [okVarss, Bool.and_eq_true]
    exact ⟨h x (by simp), iG fun t ht => h t (by simp [ht])⟩
theorem dS {k n : Int} {a b : ByteArray} {kids : List Tree} (hk : k = 110) (h : okVars (.node k n a b kids) = true) : 0 ≤ n ∧ n ≤ 65536 ∧ a = emptyB ∧ b = emptyB ∧ kids = [] := by
  simp only [okVars, if_pos hk, Bool.and_eq_true, decide_eq_true_eq, List.isEmpty_iff] at h
  exact ⟨h.1.1, h.1.2, h.2.1, h.2.2.1, h.2.2.2⟩
theorem dM {k n : Int} {a b : ByteArray} {kids : List Tree} (hk : ¬ k = 110) (h : okVars (.node k n a b kids) = true) : ∀ t ∈ kids, okVars t = true := by
  simp only [okVars, if_neg hk] at h
  exact mX h
mutual
/-- A tree made anew, in which V has changed each variable; d: how many binders lie around. -/
def walkS {σ : Type} (V : Int → Int → σ → Tree × σ) : Tree → Int → σ → Tree × σ
  | .nil, _, s => (.nil, s)
  | .node k n a b kids, d, s => if k = 110 then V n d s else if kids.length = 0 then (.node k n a b kids, s) else
      (.node k n a b (walkSs V kids (d + bindsP k) s).1, (walkSs V kids (d + bindsP k) s).2)
def walkSs {σ : Type} (V : Int → Int → σ → Tree × σ) : List Tree → Int → σ → List Tree × σ
  | [], _, s => ([], s)
  | t :: ts, d, s => ((walkS V t d s).1 :: (walkSs V ts d (walkS V t d s).2).1, (walkSs V ts d (walkS V t d s).2).2)
end
section
variable {σ : Type} (V : Int → Int → σ → Tree × σ)
theorem fU (n d : Int) (s : σ) (a b : ByteArray) (kids : List Tree) : walkS V (.node 110 n a b kids) d s = V n d s := by rw [walkS, if_pos rfl]
theorem fY {k : Int} (n d : Int) (s : σ) {a b : ByteArray} (hk : ¬ k = 110) : walkS V (.node k n a b []) d s = (.node k n a b [], s) := by rw [walkS, if_neg hk, if_pos List.length_nil]
theorem fZ {k : Int} (n d : Int) (s : σ) {a b : ByteArray} {kids : List Tree} (hk : ¬ k = 110) (h0 : ¬ kids.length = 0) : walkS V (.node k n a b kids) d s = (.node k n a b (walkSs V kids (d + bindsP k) s).1, (walkSs V kids (d + bindsP k) s).2) := by rw [walkS, if_neg hk, if_neg h0]
theorem gA (d : Int) (s : σ) : walkSs V [] d s = ([], s) := by rw [walkSs]
theorem mY (d : Int) : ∀ (l : List Tree) (t : Tree) (s : σ), walkSs V (l ++ [t]) d s = ((walkSs V l d s).1 ++ [(walkS V t d (walkSs V l d s).2).1], (walkS V t d (walkSs V l d s).2).2)
  | [], t, s => by simp [walkSs]
  | x :: l, t, s => by rw [List.cons_append, walkSs, mY d l t, walkSs]; rfl
theorem eN (d : Int) (s : σ) {l : List Tree} {j : Nat} (h : j < l.length) : walkSs V (l.take (j + 1)) d s = ((walkSs V (l.take j) d s).1 ++ [(walkS V l[j] d (walkSs V (l.take j) d s).2).1], (walkS V l[j] d (walkSs V (l.take j) d s).2).2) := by
  rw [List.take_succ_eq_append_getElem h, mY]
theorem eI : ∀ (l : List Tree) (d : Int) (s : σ), (walkSs V l d s).1.length = l.length
  | [], d, s => by rw [walkSs]
  | t :: ts, d, s => by rw [walkSs, List.length_cons, List.length_cons, eI ts]
end
theorem bT {t : Tree} (h : t ≠ .nil) : ∃ pc, t.iv = .ptr pc 0 := by
  cases t with
  | nil => exact absurd rfl h
  | node k n a b kids => exact ⟨_, by rw [Tree.iv]⟩
set_option maxRecDepth 10000 in
theorem sW (k n : Int) (a b : ByteArray) (kids : List Tree) : ACalls Tryz.prog 93 [.imm (Tree.iv (.node k n a b kids))] [] (.imm (.lit (.int .i64 (bindsP k)))) [] := by
  refine aJ Tryz.func93 rfl rfl (nb rfl) rfl ?_
  repeat' (first | refine aG ?_ | (refine aI ?_;  first | refine aC tabOk rfl rfl rfl (nb rfl) rfl ?_ | (refine aK rfl rfl rfl (nb rfl) rfl rfl rfl (fun hq => ?_) (fun hq => ?_) <;> (first | (simp only [sD, sE, sB, sC, sN, sM, sT, sF] at hq; try (exfalso; omega)) | skip))) | (refine aN ?_;  first | refine aH ?_ | refine aQ ?_ | refine bI ?_ | refine aX ?_ | refine aT ?_ | refine aZ ?_ | refine aE (b := true) rfl (fun _ => ?_) nTf | refine aE (b := false) rfl nFt (fun _ => ?_)) | (refine aM ?_;  first | refine bA ?_ | refine aV ?_) | (refine aW ?_;  first | refine bS ?_ | refine bD ?_))
  all_goals (refine aU (by first | exact .inl rfl | exact .inr rfl) (bC rfl (aA rfl)) rfl ?_; refine oP ?_; unfold bindsP; first | (rw [if_pos (by omega)]; done) | (rw [if_neg (by omega)]; done))
/-- What is a kind, or a constructor, has no other variables. -/
theorem uJ (t : Tree) : isKindP t = true → okVars t = true := by
  induction t using Tree.ind with
  | h1 => intro h; simp [isKindP] at h
  | h2 k n a b kids ih =>
    intro h
    rw [isKindP] at h
    split at h
    · rename_i e
      simp only [Bool.and_eq_true, beq_iff_eq] at h
      have e0 : kids = [] := List.eq_nil_of_length_eq_zero (by omega)
      subst e0
      rw [okVars, if_neg (by omega), okVarss]
    · split at h
      · rename_i e0 e
        simp only [Bool.and_eq_true] at h
        rw [okVars, if_neg (by omega)]
        refine iG fun t ht => ih t ht ?_
        rw [dR, List.all_map] at h
        exact List.all_eq_true.1 h.2 t ht
      · cases h
end Go.Proofs.YtocaohipfiapkaaGreat.Ab
namespace Go.Proofs.YtocaohipfiapkaaGreat.Ab
set_option linter.unusedVariables false
set_option linter.unusedSimpArgs false
attribute [local irreducible] AWP AOps AExit AThen ABlock ANoGoto FeetOk
set_option maxHeartbeats 8000000 in
set_option maxRecDepth 10000 in
theorem aBy {σ : Type} (V : Int → Int → σ → Tree × σ) (F : FuncId) (X0 X1 X2 : σ → IV) (J : σ → Prop)
    (hV : ∀ (n d : Int) s, J s → 0 ≤ n → n ≤ 65536 → 0 ≤ d → d ≤ 100000000 → ACalls Tryz.prog F ([.imm (varT n).iv, .imm (.lit (.int .i64 d)), .obj 1000 0, .obj 1001 0, .obj 1002 0]) [(1000, .cells [.imm (X0 s)]), (1001, .cells [.imm (X1 s)]), (1002, .cells [.imm (X2 s)])] (.imm (V n d s).1.iv) [(1000, .cells [.imm (X0 ((V n d s).2))]), (1001, .cells [.imm (X1 ((V n d s).2))]), (1002, .cells [.imm (X2 ((V n d s).2))])] ∧ J (V n d s).2 ∧ (V n d s).1 ≠ .nil) (t : Tree) :
    ∀ (d : Int) s, okVars t = true → t.whole = true → 0 ≤ d → d + t.size ≤ 100000000 → J s → ACalls Tryz.prog 72 [.imm t.iv, .imm (.lit (.int .i64 d)), .func F [] [.obj 1000 0, .obj 1001 0, .obj 1002 0]] [(1000, .cells [.imm (X0 s)]), (1001, .cells [.imm (X1 s)]), (1002, .cells [.imm (X2 s)])] (.imm (walkS V t d s).1.iv) [(1000, .cells [.imm (X0 ((walkS V t d s).2))]), (1001, .cells [.imm (X1 ((walkS V t d s).2))]), (1002, .cells [.imm (X2 ((walkS V t d s).2))])] ∧ J (walkS V t d s).2 ∧ (walkS V t d s).1 ≠ .nil := by
  induction t using Tree.ind with
  | h1 => intro d s _ h; simp [Tree.whole] at h
  | h2 k n a b kids ih =>
    intro d s hv hw hd hs hJ
    have hl := cO kids hw
    have hsz : (Tree.node k n a b kids).size = 1 + Tree.sizes kids := by rw [Tree.size]
    rw [hsz] at hs
    by_cases k110 : k = 110
    · obtain ⟨q1, q2, rfl, rfl, rfl⟩ := dS k110 hv
      subst k110
      have hc := hV n d s hJ q1 q2 hd (by omega)
      rw [fU]
      refine ⟨?_, hc.2⟩
      have hc := hc.1
      generalize V n d s = R at *
      obtain ⟨R1, R2⟩ := R
      dsimp only at hc ⊢
      refine bZ [1000, 1001, 1002] Tryz.func72 rfl rfl (nb rfl) rfl rfl ?_
      repeat' (first | refine aG ?_ | (refine aI ?_;  first | refine aC tabOk rfl rfl rfl (nb rfl) rfl ?_ | (refine aK rfl rfl rfl (nb rfl) rfl rfl rfl (fun hq => ?_) (fun hq => ?_) <;> (first | (simp only [sD, sE, sB, sC, sN, sM, sT, sF] at hq; try (exfalso; omega)) | skip)) | refine cD rfl rfl (nb rfl) rfl rfl rfl rfl hc (by repeat' first | exact trivial | refine ⟨rfl, ?_⟩) rfl (by show ([1000, 1001, 1002] : List Nat).Nodup; decide) ?_) | (refine aN ?_;  first | refine aH ?_ | refine aQ ?_ | refine aT ?_ | refine aE (b := true) rfl (fun _ => ?_) nTf) | (refine aM ?_;  first | refine aV ?_))
      all_goals first
        | exact absurd rfl (by assumption)
        | (refine cG (cF (by first | exact .inl rfl | exact .inr rfl) (bC rfl (aA rfl)) rfl (by repeat' first | exact trivial | refine ⟨rfl, ?_⟩) rfl ?_); rfl)
    · by_cases hk0 : kids.length = 0
      · have e0 : kids = [] := List.eq_nil_of_length_eq_zero hk0
        subst e0
        rw [fY _ _ _ _ k110]
        refine ⟨?_, hJ, by simp⟩
        refine bZ [1000, 1001, 1002] Tryz.func72 rfl rfl (nb rfl) rfl rfl ?_
        repeat' (first | refine aG ?_ | (refine aI ?_;  first | refine aC tabOk rfl rfl rfl (nb rfl) rfl ?_ | (refine aK rfl rfl rfl (nb rfl) rfl rfl rfl (fun hq => ?_) (fun hq => ?_) <;> (first | (simp only [sD, sE, sB, sC, sN, sM, sT, sF] at hq; try (exfalso; omega)) | skip)) | refine aY tabOk rfl rfl (nb rfl) rfl ?_) | (refine aN ?_;  first | refine aH ?_ | refine aQ ?_ | refine aT ?_ | refine aZ ?_ | refine aE (b := true) rfl (fun _ => ?_) nTf | refine aE (b := false) rfl nFt (fun _ => ?_)) | (refine aM ?_;  first | refine bA ?_ | refine aV ?_))
        all_goals first
          | exact absurd rfl (by assumption)
          | exact absurd (by assumption) k110
          | (refine cG (cF (by first | exact .inl rfl | exact .inr rfl) (bC rfl (aA rfl)) rfl (by repeat' first | exact trivial | refine ⟨rfl, ?_⟩) rfl ?_); rfl)
      · rw [fZ _ _ _ _ k110 hk0]
        dsimp only
        have hb := fT k
        have hvs := dM k110 hv
        have hind : ∀ j (h : j < kids.length) s', J s' → ACalls Tryz.prog 72 [.imm kids[j].iv, .imm (.lit (.int .i64 (d + bindsP k))), .func F [] [.obj 1000 0, .obj 1001 0, .obj 1002 0]] [(1000, .cells [.imm (X0 s')]), (1001, .cells [.imm (X1 s')]), (1002, .cells [.imm (X2 s')])] (.imm (walkS V kids[j] (d + bindsP k) s').1.iv) [(1000, .cells [.imm (X0 ((walkS V kids[j] (d + bindsP k) s').2))]), (1001, .cells [.imm (X1 ((walkS V kids[j] (d + bindsP k) s').2))]), (1002, .cells [.imm (X2 ((walkS V kids[j] (d + bindsP k) s').2))])] ∧ J (walkS V kids[j] (d + bindsP k) s').2 ∧ (walkS V kids[j] (d + bindsP k) s').1 ≠ .nil := fun j h s' hJ' => by
          have hm := List.getElem_mem h
          have hz := cY hm
          exact ih _ hm _ s' (hvs _ hm) (bL hw hm) (by omega) (by omega) hJ'
        clear ih
        have hJs : ∀ j, j ≤ kids.length → J (walkSs V (kids.take j) (d + bindsP k) s).2 := by
          intro j
          induction j with
          | zero => intro _; rw [List.take_zero, gA]; exact hJ
          | succ j ihj =>
            intro hj
            rw [eN V (d + bindsP k) s hj]
            exact (hind j hj _ (ihj (by omega))).2.1
        have hJe := hJs kids.length (Nat.le_refl _)
        rw [List.take_length] at hJe
        refine ⟨?_, hJe, by simp⟩
        clear hJe
        have cb := sW k n a b kids
        refine bZ [1000, 1001, 1002] Tryz.func72 rfl rfl (nb rfl) rfl rfl ?_
        repeat' (first | refine aG ?_ | (refine aI ?_;  first | refine aC tabOk rfl rfl rfl (nb rfl) rfl ?_ | (refine aK rfl rfl rfl (nb rfl) rfl rfl rfl (fun hq => ?_) (fun hq => ?_) <;> (first | (simp only [sD, sE, sB, sC, sN, sM, sT, sF] at hq; try (exfalso; omega)) | skip)) | refine aY tabOk rfl rfl (nb rfl) rfl ?_ | refine dC tabOk rfl rfl rfl (nb rfl) rfl rfl rfl rfl rfl rfl ?_ | refine bP tabOk rfl rfl rfl rfl rfl rfl rfl rfl rfl rfl rfl ?_) | (refine aN ?_;  first | refine aH ?_ | refine aQ ?_ | refine aX ?_ | refine aZ ?_ | refine aE (b := false) rfl nFt (fun _ => ?_)) | (refine aM ?_;  first | refine bA ?_))
        all_goals first
          | exact absurd (by assumption) k110
          | (exfalso; omega)
          | skip
        refine cW (eX (h0 := 7) (k0 := 4) 500 28 1 rfl rfl (by simp) rfl rfl) ?_
        refine cH (ι := {j : Nat // j ≤ kids.length}) (fun j => S.f ⟨[(35, .imm (.lit (.int .i64 (j.1 : Int)))), (34, .imm (.lit (.int .i64 (kids.length : Int)))), (33, .imm (.sl false kids.length (Tree.ivs kids))), (7, .obj 7 0), (0, .imm (Tree.iv (.node k n a b kids))), (1, .imm (.lit (.int .i64 d))), (2, .func F [] [.obj 1000 0, .obj 1001 0, .obj 1002 0])], (500, .arr 28 1 j.1 (Tree.ivs (walkSs V (kids.take j.1) (d + bindsP k) s).1)) :: (7, .cells [.imm (.lit (.int .i64 k)), .imm (.lit (.int .i64 n)), .imm (.lit (.string a)), .imm (.lit (.string b)), .ref 500 j.1]) :: [(1000, .cells [.imm (X0 ((walkSs V (kids.take j.1) (d + bindsP k) s).2))]), (1001, .cells [.imm (X1 ((walkSs V (kids.take j.1) (d + bindsP k) s).2))]), (1002, .cells [.imm (X2 ((walkSs V (kids.take j.1) (d + bindsP k) s).2))])]⟩) (fun j => kids.length - j.1) ⟨0, Nat.zero_le _⟩ (bW (by repeat' first | exact trivial | refine ⟨rfl, ?_⟩) (by repeat' first | exact trivial | refine ⟨rfl, ?_⟩)) ?_
        rintro ⟨j, hj⟩
        dsimp only
        by_cases hlt : j < kids.length
        · have hget := cS kids j hlt
          have hnx := eN V (d + bindsP k) s hlt
          obtain ⟨hc, _, hnn⟩ := hind j hlt _ (hJs j hj)
          obtain ⟨pc, hpc⟩ := bT hnn
          rw [hpc] at hc
          have hll := eI V (kids.take j) (d + bindsP k) s
          rw [List.length_take, Nat.min_eq_left hj] at hll
          have hiv : Tree.ivs (walkSs V (kids.take (j + 1)) (d + bindsP k) s).1 = Tree.ivs (walkSs V (kids.take j) (d + bindsP k) s).1 ++ [(walkS V kids[j] (d + bindsP k) (walkSs V (kids.take j) (d + bindsP k) s).2).1.iv] := by
            rw [hnx, cX, cX, List.map_append]; rfl
          rw [hpc] at hiv
          clear hpc hnn
          have hst : (walkSs V (kids.take (j + 1)) (d + bindsP k) s).2 = (walkS V kids[j] (d + bindsP k) (walkSs V (kids.take j) (d + bindsP k) s).2).2 := by rw [hnx]
          clear hnx hind hJs
          have hil := dD (walkSs V (kids.take j) (d + bindsP k) s).1
          rw [hll] at hil
          generalize walkS V kids[j] (d + bindsP k) (walkSs V (kids.take j) (d + bindsP k) s).2 = W at *
          generalize walkSs V (kids.take j) (d + bindsP k) s = Z at *
          obtain ⟨W1, W2⟩ := W
          obtain ⟨Z1, Z2⟩ := Z
          dsimp only at *
          generalize Tree.ivs Z1 = ZI at *
          generalize hsum : d + bindsP k = dk at *
          repeat' (first | refine aG ?_ | (refine aI ?_;  first | refine aC tabOk rfl rfl rfl (nb rfl) rfl ?_ | (refine aK rfl rfl rfl (nb rfl) rfl rfl rfl (fun hq => ?_) (fun hq => ?_) <;> (first | (simp only [sD, sE, sB, sC, sN, sM, sT, sF] at hq; try (exfalso; omega)) | skip)) | refine bO tabOk rfl rfl rfl (nb rfl) rfl rfl rfl hget ?_ | refine aD rfl rfl (nb rfl) rfl rfl rfl rfl (cb) ?_ | refine dL (z := dk) rfl rfl rfl (nb rfl) rfl rfl hsum (by omega) (by omega) ?_ | refine cD rfl rfl (nb rfl) rfl rfl rfl rfl hc (by repeat' first | exact trivial | refine ⟨rfl, ?_⟩) rfl (by show ([1000, 1001, 1002] : List Nat).Nodup; decide) ?_ | refine cN tabOk rfl rfl rfl (nb rfl) rfl rfl rfl rfl rfl rfl rfl (by first | omega | decide) rfl (by first | omega | (dsimp only; omega)) (by first | omega | (dsimp only; omega)) ?_ | refine bX rfl rfl rfl (nb rfl) rfl rfl (by omega) ?_ | refine cI tabOk rfl rfl rfl (nb rfl) rfl rfl rfl rfl rfl rfl rfl rfl rfl ?_ | refine bM tabOk rfl rfl rfl (nb rfl) rfl rfl rfl rfl ?_ | refine bP tabOk rfl rfl rfl rfl rfl rfl rfl rfl rfl rfl rfl ?_ | refine bH tabOk rfl rfl rfl (nb rfl) rfl rfl rfl rfl (by first | assumption | omega) ?_) | (refine aN ?_;  first | refine aH ?_ | refine aQ ?_ | refine bI ?_ | refine aX ?_ | refine aZ ?_ | refine aE (b := true) rfl (fun _ => ?_) nTf | refine aR mixed (by kernel_rfl) ?_) | (refine aM ?_;  first | refine bA ?_) | (refine aW ?_;  first | refine bS ?_) | refine bG (bF (by kernel_rfl)) ?_)
          all_goals first
            | (exfalso; omega)
            | (refine ⟨⟨j + 1, hlt⟩, (by show kids.length - (j + 1) < kids.length - j; omega), ?_⟩; dsimp only; rw [hiv, hst]; exact (bW (by repeat' first | exact trivial | refine ⟨rfl, ?_⟩) (by repeat' first | exact trivial | refine ⟨rfl, ?_⟩)))
        · have ej : j = kids.length := by omega
          subst ej
          rw [List.take_length]
          have hll := eI V kids (d + bindsP k) s
          clear hind hJs
          generalize walkSs V kids (d + bindsP k) s = Z at *
          obtain ⟨Z1, Z2⟩ := Z
          dsimp only at *
          have hiv : (Tree.node k n a b Z1).iv = .ptr [.lit (.int .i64 k), .lit (.int .i64 n), .lit (.string a), .lit (.string b), .sl false kids.length (Tree.ivs Z1)] 0 := by rw [Tree.iv, hll]
          rw [hiv]
          generalize Tree.ivs Z1 = ZI at *
          repeat' (first | refine aG ?_ | (refine aI ?_;  first | refine aC tabOk rfl rfl rfl (nb rfl) rfl ?_ | (refine aK rfl rfl rfl (nb rfl) rfl rfl rfl (fun hq => ?_) (fun hq => ?_) <;> (first | (simp only [sD, sE, sB, sC, sN, sM, sT, sF] at hq; try (exfalso; omega)) | skip))) | (refine aN ?_;  first | refine aH ?_ | refine aQ ?_ | refine aT ?_ | refine bY ?_ | refine aE (b := false) rfl nFt (fun _ => ?_)) | (refine aM ?_;  first | refine bA ?_ | refine bN ?_) | (refine aW ?_;  first | refine bJ ?_))
          all_goals first
            | (exfalso; omega)
            | (refine mF ((Imp.of_le (σ' := S.f ⟨[(6, .obj 7 0)], (500, .arr 28 1 kids.length ZI) :: (7, .cells [.imm (.lit (.int .i64 k)), .imm (.lit (.int .i64 n)), .imm (.lit (.string a)), .imm (.lit (.string b)), .ref 500 kids.length]) :: [(1000, .cells [.imm (X0 Z2)]), (1001, .cells [.imm (X1 Z2)]), (1002, .cells [.imm (X2 Z2)])]⟩) (bW (by repeat' first | exact trivial | refine ⟨rfl, ?_⟩) (by repeat' first | exact trivial | refine ⟨rfl, ?_⟩))).trans ((cU (g := 500) rfl (by repeat' first | exact trivial | exact fun _ => rfl | refine ⟨?_, ?_⟩) (by repeat' first | exact trivial | exact fun _ => rfl | refine ⟨?_, ?_⟩)).trans (eH (g := 7) rfl rfl))) ?_
               refine cF (by first | exact .inl rfl | exact .inr rfl) (bC rfl (aA rfl)) rfl (by repeat' first | exact trivial | refine ⟨rfl, ?_⟩) rfl rfl)
set_option maxHeartbeats 8000000 in
set_option maxRecDepth 10000 in
theorem aBz {σ : Type} (V : Int → Int → σ → Tree × σ) (F : FuncId) (X0 X1 X2 X3 X4 : σ → IV) (J : σ → Prop)
    (hV : ∀ (n d : Int) s, J s → 0 ≤ n → n ≤ 65536 → 0 ≤ d → d ≤ 100000000 → ACalls Tryz.prog F ([.imm (varT n).iv, .imm (.lit (.int .i64 d)), .obj 1000 0, .obj 1001 0, .obj 1002 0, .obj 1003 0, .obj 1004 0]) [(1000, .cells [.imm (X0 s)]), (1001, .cells [.imm (X1 s)]), (1002, .cells [.imm (X2 s)]), (1003, .cells [.imm (X3 s)]), (1004, .cells [.imm (X4 s)])] (.imm (V n d s).1.iv) [(1000, .cells [.imm (X0 ((V n d s).2))]), (1001, .cells [.imm (X1 ((V n d s).2))]), (1002, .cells [.imm (X2 ((V n d s).2))]), (1003, .cells [.imm (X3 ((V n d s).2))]), (1004, .cells [.imm (X4 ((V n d s).2))])] ∧ J (V n d s).2 ∧ (V n d s).1 ≠ .nil) (t : Tree) :
    ∀ (d : Int) s, okVars t = true → t.whole = true → 0 ≤ d → d + t.size ≤ 100000000 → J s → ACalls Tryz.prog 72 [.imm t.iv, .imm (.lit (.int .i64 d)), .func F [] [.obj 1000 0, .obj 1001 0, .obj 1002 0, .obj 1003 0, .obj 1004 0]] [(1000, .cells [.imm (X0 s)]), (1001, .cells [.imm (X1 s)]), (1002, .cells [.imm (X2 s)]), (1003, .cells [.imm (X3 s)]), (1004, .cells [.imm (X4 s)])] (.imm (walkS V t d s).1.iv) [(1000, .cells [.imm (X0 ((walkS V t d s).2))]), (1001, .cells [.imm (X1 ((walkS V t d s).2))]), (1002, .cells [.imm (X2 ((walkS V t d s).2))]), (1003, .cells [.imm (X3 ((walkS V t d s).2))]), (1004, .cells [.imm (X4 ((walkS V t d s).2))])] ∧ J (walkS V t d s).2 ∧ (walkS V t d s).1 ≠ .nil := by
  induction t using Tree.ind with
  | h1 => intro d s _ h; simp [Tree.whole] at h
  | h2 k n a b kids ih =>
    intro d s hv hw hd hs hJ
    have hl := cO kids hw
    have hsz : (Tree.node k n a b kids).size = 1 + Tree.sizes kids := by rw [Tree.size]
    rw [hsz] at hs
    by_cases k110 : k = 110
    · obtain ⟨q1, q2, rfl, rfl, rfl⟩ := dS k110 hv
      subst k110
      have hc := hV n d s hJ q1 q2 hd (by omega)
      rw [fU]
      refine ⟨?_, hc.2⟩
      have hc := hc.1
      generalize V n d s = R at *
      obtain ⟨R1, R2⟩ := R
      dsimp only at hc ⊢
      refine bZ [1000, 1001, 1002, 1003, 1004] Tryz.func72 rfl rfl (nb rfl) rfl rfl ?_
      repeat' (first | refine aG ?_ | (refine aI ?_;  first | refine aC tabOk rfl rfl rfl (nb rfl) rfl ?_ | (refine aK rfl rfl rfl (nb rfl) rfl rfl rfl (fun hq => ?_) (fun hq => ?_) <;> (first | (simp only [sD, sE, sB, sC, sN, sM, sT, sF] at hq; try (exfalso; omega)) | skip)) | refine cD rfl rfl (nb rfl) rfl rfl rfl rfl hc (by repeat' first | exact trivial | refine ⟨rfl, ?_⟩) rfl (by show ([1000, 1001, 1002, 1003, 1004] : List Nat).Nodup; decide) ?_) | (refine aN ?_;  first | refine aH ?_ | refine aQ ?_ | refine aT ?_ | refine aE (b := true) rfl (fun _ => ?_) nTf) | (refine aM ?_;  first | refine aV ?_))
      all_goals first
        | exact absurd rfl (by assumption)
        | (refine cG (cF (by first | exact .inl rfl | exact .inr rfl) (bC rfl (aA rfl)) rfl (by repeat' first | exact trivial | refine ⟨rfl, ?_⟩) rfl ?_); rfl)
    · by_cases hk0 : kids.length = 0
      · have e0 : kids = [] := List.eq_nil_of_length_eq_zero hk0
        subst e0
        rw [fY _ _ _ _ k110]
        refine ⟨?_, hJ, by simp⟩
        refine bZ [1000, 1001, 1002, 1003, 1004] Tryz.func72 rfl rfl (nb rfl) rfl rfl ?_
        repeat' (first | refine aG ?_ | (refine aI ?_;  first | refine aC tabOk rfl rfl rfl (nb rfl) rfl ?_ | (refine aK rfl rfl rfl (nb rfl) rfl rfl rfl (fun hq => ?_) (fun hq => ?_) <;> (first | (simp only [sD, sE, sB, sC, sN, sM, sT, sF] at hq; try (exfalso; omega)) | skip)) | refine aY tabOk rfl rfl (nb rfl) rfl ?_) | (refine aN ?_;  first | refine aH ?_ | refine aQ ?_ | refine aT ?_ | refine aZ ?_ | refine aE (b := true) rfl (fun _ => ?_) nTf | refine aE (b := false) rfl nFt (fun _ => ?_)) | (refine aM ?_;  first | refine bA ?_ | refine aV ?_))
        all_goals first
          | exact absurd rfl (by assumption)
          | exact absurd (by assumption) k110
          | (refine cG (cF (by first | exact .inl rfl | exact .inr rfl) (bC rfl (aA rfl)) rfl (by repeat' first | exact trivial | refine ⟨rfl, ?_⟩) rfl ?_); rfl)
      · rw [fZ _ _ _ _ k110 hk0]
        dsimp only
        have hb := fT k
        have hvs := dM k110 hv
        have hind : ∀ j (h : j < kids.length) s', J s' → ACalls Tryz.prog 72 [.imm kids[j].iv, .imm (.lit (.int .i64 (d + bindsP k))), .func F [] [.obj 1000 0, .obj 1001 0, .obj 1002 0, .obj 1003 0, .obj 1004 0]] [(1000, .cells [.imm (X0 s')]), (1001, .cells [.imm (X1 s')]), (1002, .cells [.imm (X2 s')]), (1003, .cells [.imm (X3 s')]), (1004, .cells [.imm (X4 s')])] (.imm (walkS V kids[j] (d + bindsP k) s').1.iv) [(1000, .cells [.imm (X0 ((walkS V kids[j] (d + bindsP k) s').2))]), (1001, .cells [.imm (X1 ((walkS V kids[j] (d + bindsP k) s').2))]), (1002, .cells [.imm (X2 ((walkS V kids[j] (d + bindsP k) s').2))]), (1003, .cells [.imm (X3 ((walkS V kids[j] (d + bindsP k) s').2))]), (1004, .cells [.imm (X4 ((walkS V kids[j] (d + bindsP k) s').2))])] ∧ J (walkS V kids[j] (d + bindsP k) s').2 ∧ (walkS V kids[j] (d + bindsP k) s').1 ≠ .nil := fun j h s' hJ' => by
          have hm := List.getElem_mem h
          have hz := cY hm
          exact ih _ hm _ s' (hvs _ hm) (bL hw hm) (by omega) (by omega) hJ'
        clear ih
        have hJs : ∀ j, j ≤ kids.length → J (walkSs V (kids.take j) (d + bindsP k) s).2 := by
          intro j
          induction j with
          | zero => intro _; rw [List.take_zero, gA]; exact hJ
          | succ j ihj =>
            intro hj
            rw [eN V (d + bindsP k) s hj]
            exact (hind j hj _ (ihj (by omega))).2.1
        have hJe := hJs kids.length (Nat.le_refl _)
        rw [List.take_length] at hJe
        refine ⟨?_, hJe, by simp⟩
        clear hJe
        have cb := sW k n a b kids
        refine bZ [1000, 1001, 1002, 1003, 1004] Tryz.func72 rfl rfl (nb rfl) rfl rfl ?_
        repeat' (first | refine aG ?_ | (refine aI ?_;  first | refine aC tabOk rfl rfl rfl (nb rfl) rfl ?_ | (refine aK rfl rfl rfl (nb rfl) rfl rfl rfl (fun hq => ?_) (fun hq => ?_) <;> (first | (simp only [sD, sE, sB, sC, sN, sM, sT, sF] at hq; try (exfalso; omega)) | skip)) | refine aY tabOk rfl rfl (nb rfl) rfl ?_ | refine dC tabOk rfl rfl rfl (nb rfl) rfl rfl rfl rfl rfl rfl ?_ | refine bP tabOk rfl rfl rfl rfl rfl rfl rfl rfl rfl rfl rfl ?_) | (refine aN ?_;  first | refine aH ?_ | refine aQ ?_ | refine aX ?_ | refine aZ ?_ | refine aE (b := false) rfl nFt (fun _ => ?_)) | (refine aM ?_;  first | refine bA ?_))
        all_goals first
          | exact absurd (by assumption) k110
          | (exfalso; omega)
          | skip
        refine cW (eX (h0 := 7) (k0 := 4) 500 28 1 rfl rfl (by simp) rfl rfl) ?_
        refine cH (ι := {j : Nat // j ≤ kids.length}) (fun j => S.f ⟨[(35, .imm (.lit (.int .i64 (j.1 : Int)))), (34, .imm (.lit (.int .i64 (kids.length : Int)))), (33, .imm (.sl false kids.length (Tree.ivs kids))), (7, .obj 7 0), (0, .imm (Tree.iv (.node k n a b kids))), (1, .imm (.lit (.int .i64 d))), (2, .func F [] [.obj 1000 0, .obj 1001 0, .obj 1002 0, .obj 1003 0, .obj 1004 0])], (500, .arr 28 1 j.1 (Tree.ivs (walkSs V (kids.take j.1) (d + bindsP k) s).1)) :: (7, .cells [.imm (.lit (.int .i64 k)), .imm (.lit (.int .i64 n)), .imm (.lit (.string a)), .imm (.lit (.string b)), .ref 500 j.1]) :: [(1000, .cells [.imm (X0 ((walkSs V (kids.take j.1) (d + bindsP k) s).2))]), (1001, .cells [.imm (X1 ((walkSs V (kids.take j.1) (d + bindsP k) s).2))]), (1002, .cells [.imm (X2 ((walkSs V (kids.take j.1) (d + bindsP k) s).2))]), (1003, .cells [.imm (X3 ((walkSs V (kids.take j.1) (d + bindsP k) s).2))]), (1004, .cells [.imm (X4 ((walkSs V (kids.take j.1) (d + bindsP k) s).2))])]⟩) (fun j => kids.length - j.1) ⟨0, Nat.zero_le _⟩ (bW (by repeat' first | exact trivial | refine ⟨rfl, ?_⟩) (by repeat' first | exact trivial | refine ⟨rfl, ?_⟩)) ?_
        rintro ⟨j, hj⟩
        dsimp only
        by_cases hlt : j < kids.length
        · have hget := cS kids j hlt
          have hnx := eN V (d + bindsP k) s hlt
          obtain ⟨hc, _, hnn⟩ := hind j hlt _ (hJs j hj)
          obtain ⟨pc, hpc⟩ := bT hnn
          rw [hpc] at hc
          have hll := eI V (kids.take j) (d + bindsP k) s
          rw [List.length_take, Nat.min_eq_left hj] at hll
          have hiv : Tree.ivs (walkSs V (kids.take (j + 1)) (d + bindsP k) s).1 = Tree.ivs (walkSs V (kids.take j) (d + bindsP k) s).1 ++ [(walkS V kids[j] (d + bindsP k) (walkSs V (kids.take j) (d + bindsP k) s).2).1.iv] := by
            rw [hnx, cX, cX, List.map_append]; rfl
          rw [hpc] at hiv
          clear hpc hnn
          have hst : (walkSs V (kids.take (j + 1)) (d + bindsP k) s).2 = (walkS V kids[j] (d + bindsP k) (walkSs V (kids.take j) (d + bindsP k) s).2).2 := by rw [hnx]
          clear hnx hind hJs
          have hil := dD (walkSs V (kids.take j) (d + bindsP k) s).1
          rw [hll] at hil
          generalize walkS V kids[j] (d + bindsP k) (walkSs V (kids.take j) (d + bindsP k) s).2 = W at *
          generalize walkSs V (kids.take j) (d + bindsP k) s = Z at *
          obtain ⟨W1, W2⟩ := W
          obtain ⟨Z1, Z2⟩ := Z
          dsimp only at *
          generalize Tree.ivs Z1 = ZI at *
          generalize hsum : d + bindsP k = dk at *
          repeat' (first | refine aG ?_ | (refine aI ?_;  first | refine aC tabOk rfl rfl rfl (nb rfl) rfl ?_ | (refine aK rfl rfl rfl (nb rfl) rfl rfl rfl (fun hq => ?_) (fun hq => ?_) <;> (first | (simp only [sD, sE, sB, sC, sN, sM, sT, sF] at hq; try (exfalso; omega)) | skip)) | refine bO tabOk rfl rfl rfl (nb rfl) rfl rfl rfl hget ?_ | refine aD rfl rfl (nb rfl) rfl rfl rfl rfl (cb) ?_ | refine dL (z := dk) rfl rfl rfl (nb rfl) rfl rfl hsum (by omega) (by omega) ?_ | refine cD rfl rfl (nb rfl) rfl rfl rfl rfl hc (by repeat' first | exact trivial | refine ⟨rfl, ?_⟩) rfl (by show ([1000, 1001, 1002, 1003, 1004] : List Nat).Nodup; decide) ?_ | refine cN tabOk rfl rfl rfl (nb rfl) rfl rfl rfl rfl rfl rfl rfl (by first | omega | decide) rfl (by first | omega | (dsimp only; omega)) (by first | omega | (dsimp only; omega)) ?_ | refine bX rfl rfl rfl (nb rfl) rfl rfl (by omega) ?_ | refine cI tabOk rfl rfl rfl (nb rfl) rfl rfl rfl rfl rfl rfl rfl rfl rfl ?_ | refine bM tabOk rfl rfl rfl (nb rfl) rfl rfl rfl rfl ?_ | refine bP tabOk rfl rfl rfl rfl rfl rfl rfl rfl rfl rfl rfl ?_ | refine bH tabOk rfl rfl rfl (nb rfl) rfl rfl rfl rfl (by first | assumption | omega) ?_) | (refine aN ?_;  first | refine aH ?_ | refine aQ ?_ | refine bI ?_ | refine aX ?_ | refine aZ ?_ | refine aE (b := true) rfl (fun _ => ?_) nTf | refine aR mixed (by kernel_rfl) ?_) | (refine aM ?_;  first | refine bA ?_) | (refine aW ?_;  first | refine bS ?_) | refine bG (bF (by kernel_rfl)) ?_)
          all_goals first
            | (exfalso; omega)
            | (refine ⟨⟨j + 1, hlt⟩, (by show kids.length - (j + 1) < kids.length - j; omega), ?_⟩; dsimp only; rw [hiv, hst]; exact (bW (by repeat' first | exact trivial | refine ⟨rfl, ?_⟩) (by repeat' first | exact trivial | refine ⟨rfl, ?_⟩)))
        · have ej : j = kids.length := by omega
          subst ej
          rw [List.take_length]
          have hll := eI V kids (d + bindsP k) s
          clear hind hJs
          generalize walkSs V kids (d + bindsP k) s = Z at *
          obtain ⟨Z1, Z2⟩ := Z
          dsimp only at *
          have hiv : (Tree.node k n a b Z1).iv = .ptr [.lit (.int .i64 k), .lit (.int .i64 n), .lit (.string a), .lit (.string b), .sl false kids.length (Tree.ivs Z1)] 0 := by rw [Tree.iv, hll]
          rw [hiv]
          generalize Tree.ivs Z1 = ZI at *
          repeat' (first | refine aG ?_ | (refine aI ?_;  first | refine aC tabOk rfl rfl rfl (nb rfl) rfl ?_ | (refine aK rfl rfl rfl (nb rfl) rfl rfl rfl (fun hq => ?_) (fun hq => ?_) <;> (first | (simp only [sD, sE, sB, sC, sN, sM, sT, sF] at hq; try (exfalso; omega)) | skip))) | (refine aN ?_;  first | refine aH ?_ | refine aQ ?_ | refine aT ?_ | refine bY ?_ | refine aE (b := false) rfl nFt (fun _ => ?_)) | (refine aM ?_;  first | refine bA ?_ | refine bN ?_) | (refine aW ?_;  first | refine bJ ?_))
          all_goals first
            | (exfalso; omega)
            | (refine mF ((Imp.of_le (σ' := S.f ⟨[(6, .obj 7 0)], (500, .arr 28 1 kids.length ZI) :: (7, .cells [.imm (.lit (.int .i64 k)), .imm (.lit (.int .i64 n)), .imm (.lit (.string a)), .imm (.lit (.string b)), .ref 500 kids.length]) :: [(1000, .cells [.imm (X0 Z2)]), (1001, .cells [.imm (X1 Z2)]), (1002, .cells [.imm (X2 Z2)]), (1003, .cells [.imm (X3 Z2)]), (1004, .cells [.imm (X4 Z2)])]⟩) (bW (by repeat' first | exact trivial | refine ⟨rfl, ?_⟩) (by repeat' first | exact trivial | refine ⟨rfl, ?_⟩))).trans ((cU (g := 500) rfl (by repeat' first | exact trivial | exact fun _ => rfl | refine ⟨?_, ?_⟩) (by repeat' first | exact trivial | exact fun _ => rfl | refine ⟨?_, ?_⟩)).trans (eH (g := 7) rfl rfl))) ?_
               refine cF (by first | exact .inl rfl | exact .inr rfl) (bC rfl (aA rfl)) rfl (by repeat' first | exact trivial | refine ⟨rfl, ?_⟩) rfl rfl)
end Go.Proofs.YtocaohipfiapkaaGreat.Ab
namespace Go.Proofs.YtocaohipfiapkaaGreat.Ab
set_option linter.unusedVariables false
set_option linter.unusedSimpArgs false
attribute [local irreducible] AWP AOps AExit AThen ABlock ANoGoto FeetOk
set_option maxHeartbeats 4000000 in
set_option maxRecDepth 10000 in
theorem xU (k n : Int) (a b : ByteArray) (kids : List Tree) (by_ : Int) (h1 : 0 ≤ n + by_) (h2 : n + by_ ≤ 65536) : ACalls Tryz.prog 74 [.imm (Tree.iv (.node k n a b kids)), .imm (.lit (.int .i64 by_))] [] (.imm (varT (n + by_)).iv) [] := by
  generalize hz : n + by_ = z at *
  refine cL Tryz.func74 rfl rfl (nb rfl) rfl ?_
  repeat' (first | refine aG ?_ | (refine aI ?_;  first | refine aC tabOk rfl rfl rfl (nb rfl) rfl ?_ | refine dL (z := z) rfl rfl rfl (nb rfl) rfl rfl hz (by omega) (by omega) ?_ | refine gI tabOk rfl rfl rfl (nb rfl) rfl rfl rfl rfl rfl ?_ | refine qV (t := 36) rfl rfl rfl (nb rfl) rfl rfl rfl rfl rfl rfl rfl ?_) | (refine aN ?_;  first | refine aH ?_ | refine aT ?_))
  all_goals (refine dU (eH (g := 12) rfl rfl) ?_; refine aU (by first | exact .inl rfl | exact .inr rfl) (bC rfl (aA rfl)) rfl ?_; rfl)
/-- What Shift makes of a variable. -/
def shiftV (by_ from_ : Int) (n d : Int) (ok : Bool) : Tree × Bool :=
  if n < d ∨ n - d < from_ then (varT n, ok)
  else if ok = true ∧ d - n ≤ by_ ∧ by_ ≤ 65536 - n then (varT (n + by_), true) else (varT n, false)
set_option maxHeartbeats 8000000 in
set_option maxRecDepth 10000 in
theorem aAE (by_ from_ : Int) (n d : Int) (ok : Bool) (hn0 : 0 ≤ n) (hn : n ≤ 65536) (hd0 : 0 ≤ d) (hd : d ≤ 100000000) :
    ACalls Tryz.prog 73 [.imm (varT n).iv, .imm (.lit (.int .i64 d)), .obj 1000 0, .obj 1001 0, .obj 1002 0] [(1000, .cells [.imm (.lit (.int .i64 from_))]), (1001, .cells [.imm (.lit (.bool ok))]), (1002, .cells [.imm (.lit (.int .i64 by_))])]
      (.imm (shiftV by_ from_ n d ok).1.iv) [(1000, .cells [.imm (.lit (.int .i64 from_))]), (1001, .cells [.imm (.lit (.bool (shiftV by_ from_ n d ok).2))]), (1002, .cells [.imm (.lit (.int .i64 by_))])] := by
  by_cases h1 : n < d ∨ n - d < from_
  · have e : shiftV by_ from_ n d ok = (varT n, ok) := if_pos h1
    rw [e]
    unfold varT
    refine bZ [1000, 1001, 1002] Tryz.func73 rfl rfl (nb rfl) rfl rfl ?_
    repeat' (first | refine aG ?_ | (refine aI ?_;  first | refine aC tabOk rfl rfl rfl (nb rfl) rfl ?_ | refine cA rfl rfl (nb rfl) ?_ | (refine aK rfl rfl rfl (nb rfl) rfl rfl rfl (fun hq => ?_) (fun hq => ?_) <;> (first | (simp only [sD, sE, sB, sC, sN, sM, sT, sF] at hq; try (exfalso; omega)) | skip)) | refine dB rfl rfl rfl (nb rfl) rfl rfl rfl (by omega) (by omega) ?_ | refine bM tabOk rfl rfl rfl (nb rfl) rfl rfl rfl rfl ?_) | (refine aN ?_;  first | refine aH ?_ | refine aQ ?_ | refine aT ?_ | refine aE (b := true) rfl (fun _ => ?_) nTf | refine aR mixed (by kernel_rfl) ?_) | (refine aM ?_;  first | refine bA ?_ | refine aV ?_) | refine bG (bF (by kernel_rfl)) ?_)
    all_goals first
      | exact absurd rfl (by assumption)
      | (exfalso; omega)
      | (refine cG (cF (by first | exact .inl rfl | exact .inr rfl) (bC rfl (aA rfl)) rfl (by repeat' first | exact trivial | refine ⟨rfl, ?_⟩) rfl ?_); rfl)
  · by_cases h2 : ok = true ∧ d - n ≤ by_ ∧ by_ ≤ 65536 - n
    · have e : shiftV by_ from_ n d ok = (varT (n + by_), true) := by unfold shiftV; rw [if_neg h1, if_pos h2]
      rw [e]
      have cm := xU 110 n emptyB emptyB [] by_ (by omega) (by omega)
      obtain ⟨hok, h3, h4⟩ := h2
      subst hok
      generalize varT (n + by_) = Z at *
      unfold varT
      refine bZ [1000, 1001, 1002] Tryz.func73 rfl rfl (nb rfl) rfl rfl ?_
      repeat' (first | refine aG ?_ | (refine aI ?_;  first | refine aC tabOk rfl rfl rfl (nb rfl) rfl ?_ | (refine aK rfl rfl rfl (nb rfl) rfl rfl rfl (fun hq => ?_) (fun hq => ?_) <;> (first | (simp only [sD, sE, sB, sC, sN, sM, sT, sF] at hq; try (exfalso; omega)) | skip)) | refine aD rfl rfl (nb rfl) rfl rfl rfl rfl (cm) ?_ | refine dB rfl rfl rfl (nb rfl) rfl rfl rfl (by omega) (by omega) ?_ | refine bM tabOk rfl rfl rfl (nb rfl) rfl rfl rfl rfl ?_ | refine bP tabOk rfl rfl rfl rfl rfl rfl rfl rfl rfl rfl rfl ?_) | (refine aN ?_;  first | refine aH ?_ | refine aQ ?_ | refine aT ?_ | refine aZ ?_ | refine aE (b := false) rfl nFt (fun _ => ?_) | refine aR mixed (by kernel_rfl) ?_) | (refine aM ?_;  first | refine bA ?_) | refine bG (bF (by kernel_rfl)) ?_)
      all_goals first
        | exact absurd rfl (by assumption)
        | (exfalso; omega)
        | (refine cG (cF (by first | exact .inl rfl | exact .inr rfl) (bC rfl (aA rfl)) rfl (by repeat' first | exact trivial | refine ⟨rfl, ?_⟩) rfl ?_); rfl)
    · have e : shiftV by_ from_ n d ok = (varT n, false) := by unfold shiftV; rw [if_neg h1, if_neg h2]
      rw [e]
      unfold varT
      cases ok with
      | false =>
        refine bZ [1000, 1001, 1002] Tryz.func73 rfl rfl (nb rfl) rfl rfl ?_
        repeat' (first | refine aG ?_ | (refine aI ?_;  first | refine aC tabOk rfl rfl rfl (nb rfl) rfl ?_ | refine cA rfl rfl (nb rfl) ?_ | (refine aK rfl rfl rfl (nb rfl) rfl rfl rfl (fun hq => ?_) (fun hq => ?_) <;> (first | (simp only [sD, sE, sB, sC, sN, sM, sT, sF] at hq; try (exfalso; omega)) | skip)) | refine dB rfl rfl rfl (nb rfl) rfl rfl rfl (by omega) (by omega) ?_ | refine bM tabOk rfl rfl rfl (nb rfl) rfl rfl rfl rfl ?_ | refine bP tabOk rfl rfl rfl rfl rfl rfl rfl rfl rfl rfl rfl ?_) | (refine aN ?_;  first | refine aH ?_ | refine aQ ?_ | refine aT ?_ | refine aZ ?_ | refine aE (b := true) rfl (fun _ => ?_) nTf | refine aE (b := false) rfl nFt (fun _ => ?_) | refine aR mixed (by kernel_rfl) ?_) | (refine aM ?_;  first | refine bA ?_ | refine aV ?_) | refine bG (bF (by kernel_rfl)) ?_)
        all_goals first
          | exact absurd rfl (by assumption)
          | (exfalso; omega)
          | (refine cG (cF (by first | exact .inl rfl | exact .inr rfl) (bC rfl (aA rfl)) rfl (by repeat' first | exact trivial | refine ⟨rfl, ?_⟩) rfl ?_); rfl)
      | true =>
        have h2 : ¬ (d - n ≤ by_ ∧ by_ ≤ 65536 - n) := fun h => h2 ⟨rfl, h⟩
        refine bZ [1000, 1001, 1002] Tryz.func73 rfl rfl (nb rfl) rfl rfl ?_
        repeat' (first | refine aG ?_ | (refine aI ?_;  first | refine aC tabOk rfl rfl rfl (nb rfl) rfl ?_ | refine cA rfl rfl (nb rfl) ?_ | (refine aK rfl rfl rfl (nb rfl) rfl rfl rfl (fun hq => ?_) (fun hq => ?_) <;> (first | (simp only [sD, sE, sB, sC, sN, sM, sT, sF] at hq; try (exfalso; omega)) | skip)) | refine dB rfl rfl rfl (nb rfl) rfl rfl rfl (by omega) (by omega) ?_ | refine bM tabOk rfl rfl rfl (nb rfl) rfl rfl rfl rfl ?_ | refine bP tabOk rfl rfl rfl rfl rfl rfl rfl rfl rfl rfl rfl ?_) | (refine aN ?_;  first | refine aH ?_ | refine aQ ?_ | refine aT ?_ | refine aZ ?_ | refine aE (b := true) rfl (fun _ => ?_) nTf | refine aE (b := false) rfl nFt (fun _ => ?_) | refine aR mixed (by kernel_rfl) ?_) | (refine aM ?_;  first | refine bA ?_ | refine aV ?_) | refine bG (bF (by kernel_rfl)) ?_)
        all_goals first
          | exact absurd rfl (by assumption)
          | (exfalso; omega)
          | (refine cG (cF (by first | exact .inl rfl | exact .inr rfl) (bC rfl (aA rfl)) rfl (by repeat' first | exact trivial | refine ⟨rfl, ?_⟩) rfl ?_); rfl)
end Go.Proofs.YtocaohipfiapkaaGreat.Ab
namespace Go.Proofs.YtocaohipfiapkaaGreat.Ab
set_option linter.unusedVariables false
set_option linter.unusedSimpArgs false
attribute [local irreducible] AWP AOps AExit AThen ABlock ANoGoto FeetOk
theorem xV {a b : ByteArray} (h : eqB a b = true) : a = b := (dV a b).1 h
theorem jG {kind : Int} (hk : kind ≠ 110) {t : Tree} (ih : ∀ t' : Tree, t'.size < t.size → isConP t' = true → okVars t' = true) (h : okNamed kind t = true) : okVars t = true := by
  cases t with
  | nil => simp [okNamed] at h
  | node k n a b ks =>
    simp only [okNamed, Bool.and_eq_true, beq_iff_eq] at h
    obtain ⟨⟨⟨rfl, _⟩, _⟩, h⟩ := h
    by_cases h1 : ks.length = 1
    · obtain ⟨c, rfl⟩ := one_of h1
      rw [okVars, if_neg hk]
      refine iG fun t ht => ?_
      obtain rfl := List.mem_singleton.1 ht
      exact ih t (bR (by simp)) (by simpa [isCon1] using h)
    · rw [gZ h1] at h; cases h
/-- A constructor has no other variables than may be. -/
theorem dN (t : Tree) : isConP t = true → okVars t = true := by
  induction t using Tree.sind with
  | h t ih =>
    intro h
    cases t with
    | nil => simp [isConP] at h
    | node k n a b kids =>
      rw [isConP, Bool.and_eq_true] at h
      obtain ⟨hb, h⟩ := h
      by_cases k0 : k = 110
      · rw [if_pos k0] at h
        subst k0
        simp only [bareP, Bool.and_eq_true, Bool.or_eq_true, beq_self_eq_true, true_or, or_true, Bool.false_eq_true, false_or, decide_eq_true_eq, beq_iff_eq, and_true] at hb h
        rw [okVars, if_pos rfl]
        have e0 : kids = [] := List.eq_nil_of_length_eq_zero (by omega)
        rw [decide_eq_true ⟨h.1.1, h.1.2⟩, decide_eq_true (xV hb.2), decide_eq_true (xV hb.1), e0]
        rfl
      · rw [if_neg k0] at h
        have kid : ∀ t ∈ kids, isConP t = true → okVars t = true := fun t ht => ih t (bR ht)
        rw [okVars, if_neg k0]
        refine iG fun t ht => ?_
        by_cases k1 : k = 111 ∨ k = 112 ∨ k = 113
        · rw [if_pos k1] at h
          have e0 : kids = [] := List.eq_nil_of_length_eq_zero (by simpa using h)
          rw [e0] at ht
          cases ht
        · rw [if_neg k1] at h
          by_cases k2 : k = 114 ∨ k = 120
          · rw [if_pos k2, Bool.and_eq_true, iC] at h
            exact kid t ht (List.all_eq_true.1 h.2 t ht)
          · rw [if_neg k2] at h
            by_cases k3 : k = 115
            · rw [if_pos k3, Bool.and_eq_true, dF] at h
              have hz := bR (k := k) (n := n) (a := a) (b := b) ht
              exact jG (by decide) (fun t' h1 h2 => ih t' (by omega) h2) (List.all_eq_true.1 h.1 t ht)
            · rw [if_neg k3] at h
              by_cases k4 : k = 117 ∨ k = 118 ∨ k = 119
              · rw [if_pos k4] at h
                by_cases h2 : kids.length = 2
                · obtain ⟨x, y, rfl⟩ := two h2
                  simp only [isCon2, Bool.and_eq_true] at h
                  rcases List.mem_cons.1 ht with rfl | ht'
                  · exact uJ _ h.1
                  · obtain rfl := List.mem_singleton.1 ht'
                    exact kid _ ht h.2
                · rw [fQ h2] at h; cases h
              · rw [if_neg k4] at h
                by_cases k5 : k = 121
                · rw [if_pos k5, Bool.and_eq_true, Bool.and_eq_true, dF] at h
                  have hz := bR (k := k) (n := n) (a := a) (b := b) ht
                  exact jG (by decide) (fun t' h1 h2 => ih t' (by omega) h2) (List.all_eq_true.1 h.1.2 t ht)
                · rw [if_neg k5] at h; cases h
/-- A tree that was found whole has no more nodes than may be. -/
theorem uK (t : Tree) : ∀ l : Int, 0 ≤ l → (wholeP t l).1 = 0 → (wholeP t l).2 = l - t.size := by
  induction t using Tree.ind with
  | h1 => intro l _ h; simp [wholeP] at h
  | h2 k n a b kids ih =>
    intro l hl h
    rw [wholeP] at h ⊢
    split at h
    · cases h
    · rename_i hn
      rw [if_neg hn]
      have key : ∀ (ts : List Tree) (x : Int), (∀ t ∈ ts, t ∈ kids) → 0 ≤ x → (wholePs ts x).1 = 0 → (wholePs ts x).2 = x - Tree.sizes ts := by
        intro ts
        induction ts with
        | nil => intro x _ hx _; simp [wholePs, Tree.sizes]
        | cons t ts ih2 =>
          intro x hm hx he
          rw [wholePs] at he ⊢
          split at he
          · rename_i e
            rw [if_pos e]
            have h1 := ih t (hm t (by simp)) x hx e
            have h0 := iD t x hx e
            have h2 := ih2 (wholeP t x).2 (fun t' ht' => hm t' (by simp [ht'])) h0.1 he
            rw [h2, h1, Tree.sizes]
            omega
          · rename_i e; exact absurd he e
      rw [key kids (l - 1) (fun _ h => h) (by omega) h, Tree.size]
      omega
theorem bQ {form : Tree → Bool} {t : Tree} (h : checkP form t = 0) : t.whole = true ∧ t.size ≤ 65536 ∧ form t = true := by
  unfold checkP at h
  split at h
  · rename_i h0
    split at h
    · rename_i hf
      have h1 := uK t 65536 (by omega) h0
      have h2 := iD t 65536 (by omega) h0
      exact ⟨iF t _ h0, by omega, hf⟩
    · cases h
  · rename_i h0; exact absurd h h0
/-- What Shift tells. -/
def shiftP (t : Tree) (by_ from_ : Int) : Tree × Int :=
  if checkP isConP t = 0 then
    (if (walkS (shiftV by_ from_) t 0 (decide (0 ≤ from_))).2 = true then ((walkS (shiftV by_ from_) t 0 (decide (0 ≤ from_))).1, 0) else (.nil, 2))
  else (.nil, checkP isConP t)
set_option maxHeartbeats 8000000 in
set_option maxRecDepth 10000 in
theorem sX (t : Tree) (by_ from_ : Int) (hs : t.size ≤ 100000000) : ACalls Tryz.prog 47 [.imm t.iv, .imm (.lit (.int .i64 by_)), .imm (.lit (.int .i64 from_))] [] (.imm (.tup [(shiftP t by_ from_).1.iv, .lit (.int .i64 (shiftP t by_ from_).2)])) [] := by
  have c1 := eM t hs
  unfold shiftP
  obtain ⟨ok0, hok0⟩ : ∃ b, decide (0 ≤ from_) = b := ⟨_, rfl⟩
  rw [hok0]
  have hfr : (ok0 = true ∧ 0 ≤ from_) ∨ (ok0 = false ∧ ¬ 0 ≤ from_) := by
    cases ok0 with
    | true => exact .inl ⟨rfl, of_decide_eq_true hok0⟩
    | false => exact .inr ⟨rfl, of_decide_eq_false hok0⟩
  clear hok0
  by_cases hc : checkP isConP t = 0
  · rw [if_pos hc]
    obtain ⟨hw, hz, hf⟩ := bQ hc
    have hv := dN t hf
    have cw := (aBy (σ := Bool) (shiftV by_ from_) 73 (fun _ => .lit (.int .i64 from_)) (fun ok => .lit (.bool ok)) (fun _ => .lit (.int .i64 by_)) (fun _ => True)
      (fun n d s _ h1 h2 h3 h4 => ⟨aAE by_ from_ n d s h1 h2 h3 h4, trivial, by unfold shiftV varT; split <;> (try split) <;> simp⟩) t 0 ok0 hv hw (Int.le_refl _) (by omega) trivial)
    obtain ⟨cw, _, hne⟩ := cw
    obtain ⟨pc, hpc⟩ := bT hne
    rw [hpc] at cw
    rw [hc] at c1
    cases hR : (walkS (shiftV by_ from_) t 0 ok0).2 with
    | true =>
      rw [if_pos rfl]
      dsimp only
      rw [hpc]
      rw [hR] at cw
      clear hc hw hz hf hv hne hpc hR
      generalize (walkS (shiftV by_ from_) t 0 ok0).1 = W at *
      rcases hfr with ⟨rfl, hfr⟩ | ⟨rfl, hfr⟩ <;>
      (refine aJ Tryz.func47 rfl rfl (nb rfl) rfl ?_
       repeat' (first | refine aG ?_ | (refine aI ?_;  first | refine aC tabOk rfl rfl rfl (nb rfl) rfl ?_ | (refine aK rfl rfl rfl (nb rfl) rfl rfl rfl (fun hq => ?_) (fun hq => ?_) <;> (first | (simp only [sD, sE, sB, sC, sN, sM, sT, sF] at hq; try (exfalso; omega)) | skip)) | refine aD rfl rfl (nb rfl) rfl rfl rfl rfl (c1) ?_ | refine cK 1002 (d := 4) rfl rfl rfl (nb rfl) rfl rfl rfl rfl rfl rfl rfl ?_ | refine cK 1000 (d := 5) rfl rfl rfl (nb rfl) rfl rfl rfl rfl rfl rfl rfl ?_ | refine cV 1001 tabOk rfl rfl rfl (nb rfl) rfl rfl rfl rfl rfl rfl ?_ | refine cD rfl rfl (nb rfl) rfl rfl rfl rfl cw (by repeat' first | exact trivial | refine ⟨rfl, ?_⟩) rfl (by show ([1000, 1001, 1002] : List Nat).Nodup; decide) ?_ | refine bM tabOk rfl rfl rfl (nb rfl) rfl rfl rfl rfl ?_ | refine bP tabOk rfl rfl rfl rfl rfl rfl rfl rfl rfl rfl rfl ?_) | (refine aN ?_;  first | refine aH ?_ | refine aQ ?_ | refine aT ?_ | refine aZ ?_ | refine aE (b := false) rfl nFt (fun _ => ?_)) | (refine aM ?_;  first | refine bA ?_))
       all_goals first
         | exact absurd rfl (by assumption)
         | (exfalso; omega)
         | (refine aU (by first | exact .inl rfl | exact .inr rfl) (bB rfl (aA rfl) (aA rfl)) rfl ?_; rfl))
    | false =>
      rw [if_neg (by simp)]
      dsimp only
      rw [hR] at cw
      clear hc hw hz hf hv hne hpc hR
      rcases hfr with ⟨rfl, hfr⟩ | ⟨rfl, hfr⟩ <;>
      (refine aJ Tryz.func47 rfl rfl (nb rfl) rfl ?_
       repeat' (first | refine aG ?_ | (refine aI ?_;  first | refine aC tabOk rfl rfl rfl (nb rfl) rfl ?_ | (refine aK rfl rfl rfl (nb rfl) rfl rfl rfl (fun hq => ?_) (fun hq => ?_) <;> (first | (simp only [sD, sE, sB, sC, sN, sM, sT, sF] at hq; try (exfalso; omega)) | skip)) | refine aD rfl rfl (nb rfl) rfl rfl rfl rfl (c1) ?_ | refine cK 1002 (d := 4) rfl rfl rfl (nb rfl) rfl rfl rfl rfl rfl rfl rfl ?_ | refine cK 1000 (d := 5) rfl rfl rfl (nb rfl) rfl rfl rfl rfl rfl rfl rfl ?_ | refine cV 1001 tabOk rfl rfl rfl (nb rfl) rfl rfl rfl rfl rfl rfl ?_ | refine cD rfl rfl (nb rfl) rfl rfl rfl rfl cw (by repeat' first | exact trivial | refine ⟨rfl, ?_⟩) rfl (by show ([1000, 1001, 1002] : List Nat).Nodup; decide) ?_ | refine bM tabOk rfl rfl rfl (nb rfl) rfl rfl rfl rfl ?_ | refine bP tabOk rfl rfl rfl rfl rfl rfl rfl rfl rfl rfl rfl ?_) | (refine aN ?_;  first | refine aH ?_ | refine aQ ?_ | refine aT ?_ | refine aZ ?_ | refine aE (b := true) rfl (fun _ => ?_) nTf | refine aE (b := false) rfl nFt (fun _ => ?_)) | (refine aM ?_;  first | refine bA ?_ | refine aV ?_))
       all_goals first
         | exact absurd rfl (by assumption)
         | (exfalso; omega)
         | (refine aU (by first | exact .inl rfl | exact .inr rfl) (bB rfl (aA rfl) (aA rfl)) rfl ?_; rfl))
  · rw [if_neg hc]
    generalize checkP isConP t = C at *
    refine aJ Tryz.func47 rfl rfl (nb rfl) rfl ?_
    repeat' (first | refine aG ?_ | (refine aI ?_;  first | refine aC tabOk rfl rfl rfl (nb rfl) rfl ?_ | (refine aK rfl rfl rfl (nb rfl) rfl rfl rfl (fun hq => ?_) (fun hq => ?_) <;> (first | (simp only [sD, sE, sB, sC, sN, sM, sT, sF] at hq; try (exfalso; omega)) | skip)) | refine aD rfl rfl (nb rfl) rfl rfl rfl rfl (c1) ?_ | refine cK 1002 (d := 4) rfl rfl rfl (nb rfl) rfl rfl rfl rfl rfl rfl rfl ?_ | refine cK 1000 (d := 5) rfl rfl rfl (nb rfl) rfl rfl rfl rfl rfl rfl rfl ?_) | (refine aN ?_;  first | refine aH ?_ | refine aQ ?_ | refine aT ?_ | refine aE (b := true) rfl (fun _ => ?_) nTf) | (refine aM ?_;  first | refine aV ?_))
    all_goals first
      | exact absurd (by assumption) hc
      | (exfalso; omega)
      | (refine aU (by first | exact .inl rfl | exact .inr rfl) (bB rfl (aA rfl) (aA rfl)) rfl ?_; rfl)
end Go.Proofs.YtocaohipfiapkaaGreat.Ab
namespace Go.Proofs.YtocaohipfiapkaaGreat.Ab
set_option linter.unusedVariables false
set_option linter.unusedSimpArgs false
attribute [local irreducible] AWP AOps AExit AThen ABlock ANoGoto FeetOk
theorem bK {t : Tree} (h : t.whole = true) : t ≠ .nil := by intro e; subst e; simp [Tree.whole] at h
theorem rB : ∀ {l : List Tree}, (∀ t ∈ l, t.whole = true) → Tree.wholes l = true
  | [], _ => rfl
  | x :: xs, h => by
    simp only [Tree.wholes, Bool.and_eq_true]
    exact ⟨h x (by simp), rB fun t ht => h t (by simp [ht])⟩
theorem mG : ∀ (a b : List Tree), Tree.sizes (a ++ b) = Tree.sizes a + Tree.sizes b
  | [], b => by simp [Tree.sizes]
  | x :: a, b => by rw [List.cons_append, Tree.sizes, mG a b, Tree.sizes]; omega
theorem mH (n : Int) : (varT n).size = 1 := rfl
section
variable {σ : Type} (V : Int → Int → σ → Tree × σ) (J : σ → Prop) (f : σ → Nat)
/-- What is made anew of a whole tree is whole; as much more is counted as it has more nodes. -/
theorem oY (hV : ∀ n d s, J s → 0 ≤ n → n ≤ 65536 → 0 ≤ d → d ≤ 100000000 → (V n d s).1.whole = true ∧ J (V n d s).2 ∧ (V n d s).1.size + f s ≤ 1 + f (V n d s).2) (t : Tree) :
    ∀ (d : Int) s, okVars t = true → t.whole = true → 0 ≤ d → d + t.size ≤ 100000000 → J s → (walkS V t d s).1.whole = true ∧ J (walkS V t d s).2 ∧ (walkS V t d s).1.size + f s ≤ t.size + f (walkS V t d s).2 := by
  induction t using Tree.ind with
  | h1 => intro d s _ h; simp [Tree.whole] at h
  | h2 k n a b kids ih =>
    intro d s hv hw hd hs hJ
    have hsz : (Tree.node k n a b kids).size = 1 + Tree.sizes kids := by rw [Tree.size]
    rw [hsz] at hs ⊢
    by_cases k110 : k = 110
    · obtain ⟨q1, q2, rfl, rfl, rfl⟩ := dS k110 hv
      subst k110
      rw [fU]
      have := hV n d s hJ q1 q2 hd (by omega)
      exact ⟨this.1, this.2.1, by simp only [Tree.sizes]; omega⟩
    · by_cases hk0 : kids.length = 0
      · have e0 : kids = [] := List.eq_nil_of_length_eq_zero hk0
        subst e0
        rw [fY _ _ _ _ k110]
        exact ⟨hw, hJ, by simp only [Tree.size]; omega⟩
      · rw [fZ _ _ _ _ k110 hk0]
        have hb := fT k
        have hvs := dM k110 hv
        have key : ∀ (l : List Tree) s, (∀ t ∈ l, t ∈ kids) → J s → Tree.wholes (walkSs V l (d + bindsP k) s).1 = true ∧ J (walkSs V l (d + bindsP k) s).2 ∧ Tree.sizes (walkSs V l (d + bindsP k) s).1 + f s ≤ Tree.sizes l + f (walkSs V l (d + bindsP k) s).2 := by
          intro l
          induction l with
          | nil => intro s _ hJ; rw [gA]; exact ⟨rfl, hJ, Nat.le_refl _⟩
          | cons t l ihl =>
            intro s hm hJ
            have hmt := hm t (by simp)
            have hz := cY hmt
            have h1 := ih t hmt (d + bindsP k) s (hvs _ hmt) (bL hw hmt) (by omega) (by omega) hJ
            have h2 := ihl (walkS V t (d + bindsP k) s).2 (fun t' h => hm t' (by simp [h])) h1.2.1
            rw [walkSs]
            refine ⟨?_, h2.2.1, ?_⟩
            · simp only [Tree.wholes, Bool.and_eq_true]; exact ⟨h1.1, h2.1⟩
            · simp only [Tree.sizes]; have := h1.2.2; have := h2.2.2; omega
        have := key kids s (fun _ h => h) hJ
        refine ⟨this.1, this.2.1, ?_⟩
        simp only [Tree.size]
        have := this.2.2
        omega
end
theorem mZ (by_ from_ : Int) (n d : Int) (ok : Bool) : (shiftV by_ from_ n d ok).1.whole = true ∧ (shiftV by_ from_ n d ok).1.size = 1 := by
  unfold shiftV
  split
  · exact ⟨rfl, rfl⟩
  · split <;> exact ⟨rfl, rfl⟩
theorem eY (t : Tree) (by_ from_ : Int) (h : (shiftP t by_ from_).2 = 0) : (shiftP t by_ from_).1.whole = true ∧ (shiftP t by_ from_).1.size ≤ t.size ∧ checkP isConP t = 0 := by
  unfold shiftP at h ⊢
  by_cases hc : checkP isConP t = 0
  · rw [if_pos hc] at h ⊢
    obtain ⟨hw, hz, hf⟩ := bQ hc
    have := oY (shiftV by_ from_) (fun _ => True) (fun _ => 0) (fun n d s _ _ _ _ _ => ⟨(mZ by_ from_ n d s).1, trivial, by rw [(mZ by_ from_ n d s).2]; omega⟩) t 0 (decide (0 ≤ from_)) (dN t hf) hw (Int.le_refl _) (by omega) trivial
    split at h
    · rename_i h2
      rw [if_pos h2]
      exact ⟨this.1, by have := this.2.2; dsimp only; omega, hc⟩
    · cases h
  · rw [if_neg hc] at h
    exact absurd h hc
set_option maxHeartbeats 4000000 in
set_option maxRecDepth 10000 in
theorem aCg (t : Tree) : t.size ≤ 100000000 → (t = .nil ∨ t.whole = true) → ACalls Tryz.prog 102 [.imm t.iv] [] (.imm (.lit (.int .i64 (t.size : Int)))) [] := by
  induction t using Tree.ind with
  | h1 =>
    intro _ _
    refine aJ Tryz.func102 rfl rfl (nb rfl) rfl ?_
    repeat' (first | refine aG ?_ | (refine aI ?_;  first | refine aC tabOk rfl rfl rfl (nb rfl) rfl ?_ | refine aY tabOk rfl rfl (nb rfl) rfl ?_) | (refine aN ?_;  first | refine aH ?_ | refine aQ ?_ | refine aT ?_ | refine aE (b := true) rfl (fun _ => ?_) nTf) | (refine aM ?_;  first | refine aV ?_))
    all_goals (refine aU (by first | exact .inl rfl | exact .inr rfl) (bC rfl (aA rfl)) rfl ?_; rfl)
  | h2 k n a b kids ih =>
    intro hs hw
    have hw : (Tree.node k n a b kids).whole = true := by
      rcases hw with h | h
      · cases h
      · exact h
    have hl := cO kids hw
    have hsz : (Tree.node k n a b kids).size = 1 + Tree.sizes kids := by rw [Tree.size]
    rw [hsz] at hs ⊢
    have htk : ∀ j (h : j < kids.length), Tree.sizes (kids.take (j + 1)) = Tree.sizes (kids.take j) + kids[j].size := fun j h => by
      rw [List.take_succ_eq_append_getElem h, mG]
      simp only [Tree.sizes]; omega
    have hle : ∀ j, Tree.sizes (kids.take j) ≤ Tree.sizes kids := fun j => by
      have := mG (kids.take j) (kids.drop j)
      rw [List.take_append_drop] at this
      omega
    refine aJ Tryz.func102 rfl rfl (nb rfl) rfl ?_
    repeat' (first | refine aG ?_ | (refine aI ?_;  first | refine aC tabOk rfl rfl rfl (nb rfl) rfl ?_ | refine aY tabOk rfl rfl (nb rfl) rfl ?_) | (refine aN ?_;  first | refine aH ?_ | refine aQ ?_ | refine aX ?_ | refine aZ ?_ | refine aE (b := false) rfl nFt (fun _ => ?_)) | (refine aM ?_;  first | refine bA ?_))
    refine cH (ι := {j : Nat // j ≤ kids.length}) (fun j => S.f ⟨[(13, .imm (.lit (.int .i64 (j.1 : Int)))), (12, .imm (.lit (.int .i64 (kids.length : Int)))), (11, .imm (.sl false kids.length (Tree.ivs kids))), (3, .imm (.lit (.int .i64 ((1 + Tree.sizes (kids.take j.1) : Nat) : Int))))], []⟩) (fun j => kids.length - j.1) ⟨0, Nat.zero_le _⟩ (bW (by repeat' first | exact trivial | refine ⟨rfl, ?_⟩) (by repeat' first | exact trivial | refine ⟨rfl, ?_⟩)) ?_
    rintro ⟨j, hj⟩
    dsimp only
    by_cases hlt : j < kids.length
    · have hm := List.getElem_mem hlt
      have h1 := htk j hlt
      have h2 := hle j
      have h3 := hle (j + 1)
      have hc := ih _ hm (by omega) (.inr (bL hw hm))
      repeat' (first | refine aG ?_ | (refine aI ?_;  first | refine aC tabOk rfl rfl rfl (nb rfl) rfl ?_ | (refine aK rfl rfl rfl (nb rfl) rfl rfl rfl (fun hq => ?_) (fun hq => ?_) <;> (first | (simp only [sD, sE, sB, sC, sN, sM, sT, sF] at hq; try (exfalso; omega)) | skip)) | refine aD rfl rfl (nb rfl) rfl rfl rfl rfl (hc) ?_ | refine dL (z := ((1 + Tree.sizes (kids.take (j + 1)) : Nat) : Int)) rfl rfl rfl (nb rfl) rfl rfl (by omega) (by omega) (by omega) ?_ | refine bX rfl rfl rfl (nb rfl) rfl rfl (by omega) ?_ | refine bH tabOk rfl rfl rfl (nb rfl) rfl rfl rfl rfl (by first | assumption | omega) ?_ | refine bO tabOk rfl rfl rfl (nb rfl) rfl rfl rfl (cS _ _ (by first | assumption | omega)) ?_) | (refine aN ?_;  first | refine aH ?_ | refine aQ ?_ | refine bI ?_ | refine aX ?_ | refine aZ ?_ | refine aE (b := true) rfl (fun _ => ?_) nTf) | (refine aM ?_;  first | refine bA ?_) | (refine aW ?_;  first | refine bS ?_))
      all_goals first
        | (exfalso; omega)
        | exact ⟨⟨j + 1, hlt⟩, (by show kids.length - (j + 1) < kids.length - j; omega), (bW (by repeat' first | exact trivial | refine ⟨rfl, ?_⟩) (by repeat' first | exact trivial | refine ⟨rfl, ?_⟩))⟩
    · have ej : j = kids.length := by omega
      subst ej
      rw [List.take_length]
      repeat' (first | refine aG ?_ | (refine aI ?_;  first | refine aC tabOk rfl rfl rfl (nb rfl) rfl ?_ | (refine aK rfl rfl rfl (nb rfl) rfl rfl rfl (fun hq => ?_) (fun hq => ?_) <;> (first | (simp only [sD, sE, sB, sC, sN, sM, sT, sF] at hq; try (exfalso; omega)) | skip))) | (refine aN ?_;  first | refine aH ?_ | refine aQ ?_ | refine aT ?_ | refine bY ?_ | refine aE (b := false) rfl nFt (fun _ => ?_)) | (refine aM ?_;  first | refine bA ?_ | refine bN ?_) | (refine aW ?_;  first | refine bJ ?_))
      all_goals first
        | (exfalso; omega)
        | (refine aU (by first | exact .inl rfl | exact .inr rfl) (bC rfl (aA rfl)) rfl ?_; rfl)
mutual
/-- How many nodes a tree has, as far as a bound. -/
def largeP : Tree → Int → Int
  | .nil, _ => 1
  | .node _ _ _ _ kids, m => largePs kids 1 m
def largePs : List Tree → Int → Int → Int
  | [], s, _ => s
  | t :: ts, s, m => if s > m then s else largePs ts (s + largeP t (m - s)) m
end
theorem sY (l : List Tree) (s m : Int) (h : s > m) : largePs l s m = s := by
  cases l with
  | nil => rfl
  | cons t ts => rw [largePs, if_pos h]
theorem nA (t : Tree) : t.whole = true → ∀ m : Int, 0 ≤ m → 1 ≤ largeP t m ∧ largeP t m ≤ t.size ∧ ((t.size : Int) ≤ m → largeP t m = t.size) ∧ (m < t.size → m < largeP t m) := by
  induction t using Tree.ind with
  | h1 => intro h; simp [Tree.whole] at h
  | h2 k n a b kids ih =>
    intro hw m hm
    have key : ∀ (l : List Tree), (∀ t ∈ l, t ∈ kids) → ∀ s : Int, 1 ≤ s → 1 ≤ largePs l s m ∧ largePs l s m ≤ s + Tree.sizes l ∧ (s + Tree.sizes l ≤ m → largePs l s m = s + Tree.sizes l) ∧ (m < s + Tree.sizes l → m < largePs l s m) := by
      intro l
      induction l with
      | nil => intro _ s hs; simp only [largePs, Tree.sizes]; omega
      | cons t ts ihl =>
        intro hmem s hs
        rw [largePs]
        simp only [Tree.sizes]
        by_cases h : s > m
        · rw [if_pos h]; omega
        · rw [if_neg h]
          have h1 := ih t (hmem t (by simp)) (bL hw (hmem t (by simp))) (m - s) (by omega)
          have h2 := ihl (fun t' h' => hmem t' (by simp [h'])) (s + largeP t (m - s)) (by omega)
          by_cases h3 : m - s < t.size
          · have h4 := h1.2.2.2 h3
            have h5 := sY ts (s + largeP t (m - s)) m (by omega)
            rw [h5]
            refine ⟨by omega, by omega, by omega, by omega⟩
          · have h4 := h1.2.2.1 (by omega)
            rw [h4] at h2 ⊢
            refine ⟨h2.1, by omega, fun h => ?_, fun h => ?_⟩
            · rw [h2.2.2.1 (by omega)]; omega
            · exact h2.2.2.2 (by omega)
    have := key kids (fun _ h => h) 1 (by omega)
    rw [largeP, Tree.size]
    refine ⟨this.1, by omega, fun h => ?_, fun h => this.2.2.2 (by omega)⟩
    rw [this.2.2.1 (by omega)]; omega
set_option maxHeartbeats 4000000 in
set_option maxRecDepth 10000 in
theorem aBA (t : Tree) : t.whole = true → t.size ≤ 100000000 → ∀ m : Int, 0 ≤ m → m ≤ 100000000 → ACalls Tryz.prog 104 [.imm t.iv, .imm (.lit (.int .i64 m))] [] (.imm (.lit (.int .i64 (largeP t m)))) [] := by
  induction t using Tree.ind with
  | h1 => intro h; simp [Tree.whole] at h
  | h2 k n a b kids ih =>
    intro hw hs m hm0 hm1
    have hl := cO kids hw
    have hsz : (Tree.node k n a b kids).size = 1 + Tree.sizes kids := by rw [Tree.size]
    rw [hsz] at hs
    generalize hR : largeP (.node k n a b kids) m = R
    rw [largeP] at hR
    refine aJ Tryz.func104 rfl rfl (nb rfl) rfl ?_
    repeat' (first | refine aG ?_ | (refine aI ?_;  first | refine aC tabOk rfl rfl rfl (nb rfl) rfl ?_ | refine aY tabOk rfl rfl (nb rfl) rfl ?_) | (refine aN ?_;  first | refine aH ?_ | refine aQ ?_ | refine aX ?_))
    refine cH (ι := {x : Nat × Int // x.1 ≤ kids.length ∧ largePs (kids.drop x.1) x.2 m = R ∧ 1 ≤ x.2 ∧ x.2 + Tree.sizes (kids.drop x.1) ≤ 100000000}) (fun x => S.f ⟨[(13, .imm (.lit (.int .i64 (x.1.1 : Int)))), (12, .imm (.lit (.int .i64 (kids.length : Int)))), (11, .imm (.sl false kids.length (Tree.ivs kids))), (5, .imm (.lit (.int .i64 x.1.2))), (1, .imm (.lit (.int .i64 m)))], []⟩) (fun x => kids.length - x.1.1) ⟨(0, 1), Nat.zero_le _, hR, Int.le_refl _, by rw [List.drop_zero]; omega⟩ (bW (by repeat' first | exact trivial | refine ⟨rfl, ?_⟩) (by repeat' first | exact trivial | refine ⟨rfl, ?_⟩)) ?_
    clear hR
    rintro ⟨⟨j, s⟩, hj, hR, hs1, hs2⟩
    have hj : j ≤ kids.length := hj
    have hR : largePs (kids.drop j) s m = R := hR
    have hs1 : 1 ≤ s := hs1
    have hs2 : s + Tree.sizes (kids.drop j) ≤ 100000000 := hs2
    dsimp only
    by_cases hlt : j < kids.length
    · have hmm := List.getElem_mem hlt
      have hz := cY hmm
      have hwk := bL hw hmm
      rw [List.drop_eq_getElem_cons hlt] at hR hs2
      rw [largePs] at hR
      simp only [Tree.sizes] at hs2
      by_cases hgt : s > m
      · rw [if_pos hgt] at hR
        subst hR
        repeat' (first | refine aG ?_ | (refine aI ?_;  first | refine aC tabOk rfl rfl rfl (nb rfl) rfl ?_ | (refine aK rfl rfl rfl (nb rfl) rfl rfl rfl (fun hq => ?_) (fun hq => ?_) <;> (first | (simp only [sD, sE, sB, sC, sN, sM, sT, sF] at hq; try (exfalso; omega)) | skip)) | refine bH tabOk rfl rfl rfl (nb rfl) rfl rfl rfl rfl (by first | assumption | omega) ?_ | refine bO tabOk rfl rfl rfl (nb rfl) rfl rfl rfl (cS _ _ (by first | assumption | omega)) ?_) | (refine aN ?_;  first | refine aH ?_ | refine aQ ?_ | refine aX ?_ | refine aT ?_ | refine bY ?_ | refine aZ ?_ | refine aE (b := true) rfl (fun _ => ?_) nTf) | (refine aM ?_;  first | refine bA ?_ | refine bN ?_) | (refine aW ?_;  first | refine bJ ?_ | refine lH (by decide) ?_))
        all_goals first
          | (exfalso; omega)
          | (refine aU (by first | exact .inl rfl | exact .inr rfl) (bC rfl (aA rfl)) rfl ?_; rfl)
      · rw [if_neg hgt] at hR
        have hc := ih _ hmm hwk (by omega) (m - s) (by omega) (by omega)
        have hsp := nA _ hwk (m - s) (by omega)
        generalize largeP kids[j] (m - s) = L at *
        repeat' (first | refine aG ?_ | (refine aI ?_;  first | refine aC tabOk rfl rfl rfl (nb rfl) rfl ?_ | (refine aK rfl rfl rfl (nb rfl) rfl rfl rfl (fun hq => ?_) (fun hq => ?_) <;> (first | (simp only [sD, sE, sB, sC, sN, sM, sT, sF] at hq; try (exfalso; omega)) | skip)) | refine aD rfl rfl (nb rfl) rfl rfl rfl rfl (hc) ?_ | refine dB (z := m - s) rfl rfl rfl (nb rfl) rfl rfl rfl (by omega) (by omega) ?_ | refine dL (z := s + L) rfl rfl rfl (nb rfl) rfl rfl rfl (by omega) (by omega) ?_ | refine bX rfl rfl rfl (nb rfl) rfl rfl (by omega) ?_ | refine bH tabOk rfl rfl rfl (nb rfl) rfl rfl rfl rfl (by first | assumption | omega) ?_ | refine bO tabOk rfl rfl rfl (nb rfl) rfl rfl rfl (cS _ _ (by first | assumption | omega)) ?_) | (refine aN ?_;  first | refine aH ?_ | refine aQ ?_ | refine bI ?_ | refine aX ?_ | refine aZ ?_ | refine aE (b := true) rfl (fun _ => ?_) nTf | refine aE (b := false) rfl nFt (fun _ => ?_)) | (refine aM ?_;  first | refine bA ?_) | (refine aW ?_;  first | refine bS ?_))
        all_goals first
          | (exfalso; omega)
          | exact ⟨⟨(j + 1, s + L), hlt, hR, by dsimp only; omega, by dsimp only; omega⟩, (by show kids.length - (j + 1) < kids.length - j; omega), (bW (by repeat' first | exact trivial | refine ⟨rfl, ?_⟩) (by repeat' first | exact trivial | refine ⟨rfl, ?_⟩))⟩
    · have ej : j = kids.length := by omega
      subst ej
      rw [List.drop_length, largePs] at hR
      subst hR
      repeat' (first | refine aG ?_ | (refine aI ?_;  first | refine aC tabOk rfl rfl rfl (nb rfl) rfl ?_ | (refine aK rfl rfl rfl (nb rfl) rfl rfl rfl (fun hq => ?_) (fun hq => ?_) <;> (first | (simp only [sD, sE, sB, sC, sN, sM, sT, sF] at hq; try (exfalso; omega)) | skip))) | (refine aN ?_;  first | refine aH ?_ | refine aQ ?_ | refine aT ?_ | refine bY ?_ | refine aE (b := false) rfl nFt (fun _ => ?_)) | (refine aM ?_;  first | refine bA ?_ | refine bN ?_) | (refine aW ?_;  first | refine bJ ?_))
      all_goals first
        | (exfalso; omega)
        | (refine aU (by first | exact .inl rfl | exact .inr rfl) (bC rfl (aA rfl)) rfl ?_; rfl)
end Go.Proofs.YtocaohipfiapkaaGreat.Ab
namespace Go.Proofs.YtocaohipfiapkaaGreat.Ab
set_option linter.unusedVariables false
set_option linter.unusedSimpArgs false
attribute [local irreducible] AWP AOps AExit AThen ABlock ANoGoto FeetOk
/-- What Subst makes of a variable; how much was put in, and the error so far. -/
def substV (i own : Int) (by_ : Tree) (n d : Int) (s : Int × Int) : Tree × (Int × Int) :=
  if s.2 ≠ 0 ∨ n < d ∨ n - d < i then (varT n, s)
  else if n - d > i then (varT (n - 1), s)
  else if s.1 + own > 65536 ∨ (shiftP by_ d 0).2 ≠ 0 then (varT n, (s.1 + own, 3))
  else ((shiftP by_ d 0).1, (s.1 + own, s.2))
set_option maxHeartbeats 16000000 in
set_option maxRecDepth 10000 in
theorem aAF (i own : Int) (by_ : Tree) (pb : List IV) (hpb : by_.iv = .ptr pb 0) (hbs : by_.size ≤ 100000000) (n d : Int) (sz e : Int) (hi : 0 ≤ i) (ho0 : 0 ≤ own) (ho : own ≤ 65536) (hs0 : 0 ≤ sz) (hs : sz ≤ 131072) (hn0 : 0 ≤ n) (hn : n ≤ 65536) (hd0 : 0 ≤ d) (hd : d ≤ 100000000) :
    ACalls Tryz.prog 103 [.imm (varT n).iv, .imm (.lit (.int .i64 d)), .obj 1000 0, .obj 1001 0, .obj 1002 0, .obj 1003 0, .obj 1004 0] [(1000, .cells [.imm (.lit (.int .i64 e))]), (1001, .cells [.imm (.lit (.int .i64 i))]), (1002, .cells [.imm (.lit (.int .i64 sz))]), (1003, .cells [.imm (.lit (.int .i64 own))]), (1004, .cells [.imm (.ptr pb 0)])]
      (.imm (substV i own by_ n d (sz, e)).1.iv) [(1000, .cells [.imm (.lit (.int .i64 (substV i own by_ n d (sz, e)).2.2))]), (1001, .cells [.imm (.lit (.int .i64 i))]), (1002, .cells [.imm (.lit (.int .i64 (substV i own by_ n d (sz, e)).2.1))]), (1003, .cells [.imm (.lit (.int .i64 own))]), (1004, .cells [.imm (.ptr pb 0)])] := by
  by_cases h1 : e ≠ 0 ∨ n < d ∨ n - d < i
  · have er : substV i own by_ n d (sz, e) = (varT n, (sz, e)) := if_pos h1
    rw [er]
    unfold varT
    refine bZ [1000, 1001, 1002, 1003, 1004] Tryz.func103 rfl rfl (nb rfl) rfl rfl ?_
    repeat' (first | refine aG ?_ | (refine aI ?_;  first | refine aC tabOk rfl rfl rfl (nb rfl) rfl ?_ | refine cA rfl rfl (nb rfl) ?_ | (refine aK rfl rfl rfl (nb rfl) rfl rfl rfl (fun hq => ?_) (fun hq => ?_) <;> (first | (simp only [sD, sE, sB, sC, sN, sM, sT, sF] at hq; try (exfalso; omega)) | skip)) | refine dB rfl rfl rfl (nb rfl) rfl rfl rfl (by omega) (by omega) ?_ | refine bM tabOk rfl rfl rfl (nb rfl) rfl rfl rfl rfl ?_) | (refine aN ?_;  first | refine aH ?_ | refine aQ ?_ | refine aX ?_ | refine aT ?_ | refine aE (b := true) rfl (fun _ => ?_) nTf | refine aR mixed (by kernel_rfl) ?_) | (refine aM ?_;  first | refine bA ?_ | refine aV ?_) | (refine aW ?_;  first | refine bD ?_) | refine bG (bF (by kernel_rfl)) ?_)
    all_goals first
      | exact absurd rfl (by assumption)
      | (exfalso; omega)
      | (refine cG (cF (by first | exact .inl rfl | exact .inr rfl) (bC rfl (aA rfl)) rfl (by repeat' first | exact trivial | refine ⟨rfl, ?_⟩) rfl ?_); rfl)
  · have he : e = 0 := by omega
    subst he
    by_cases h2 : n - d > i
    · have er : substV i own by_ n d (sz, 0) = (varT (n - 1), (sz, 0)) := by unfold substV; rw [if_neg h1, if_pos h2]
      rw [er]
      have cm := xU 110 n emptyB emptyB [] (-1) (by omega) (by omega)
      rw [show n + -1 = n - 1 by omega] at cm
      generalize varT (n - 1) = Z at *
      unfold varT
      refine bZ [1000, 1001, 1002, 1003, 1004] Tryz.func103 rfl rfl (nb rfl) rfl rfl ?_
      repeat' (first | refine aG ?_ | (refine aI ?_;  first | refine aC tabOk rfl rfl rfl (nb rfl) rfl ?_ | (refine aK rfl rfl rfl (nb rfl) rfl rfl rfl (fun hq => ?_) (fun hq => ?_) <;> (first | (simp only [sD, sE, sB, sC, sN, sM, sT, sF] at hq; try (exfalso; omega)) | skip)) | refine aD rfl rfl (nb rfl) rfl rfl rfl rfl (cm) ?_ | refine dB rfl rfl rfl (nb rfl) rfl rfl rfl (by omega) (by omega) ?_ | refine bM tabOk rfl rfl rfl (nb rfl) rfl rfl rfl rfl ?_) | (refine aN ?_;  first | refine aH ?_ | refine aQ ?_ | refine aX ?_ | refine aT ?_ | refine aE (b := true) rfl (fun _ => ?_) nTf | refine aE (b := false) rfl nFt (fun _ => ?_) | refine aR mixed (by kernel_rfl) ?_) | (refine aM ?_;  first | refine bA ?_ | refine aV ?_) | (refine aW ?_;  first | refine bD ?_) | refine bG (bF (by kernel_rfl)) ?_)
      all_goals first
        | exact absurd rfl (by assumption)
        | (exfalso; omega)
        | (refine cG (cF (by first | exact .inl rfl | exact .inr rfl) (bC rfl (aA rfl)) rfl (by repeat' first | exact trivial | refine ⟨rfl, ?_⟩) rfl ?_); rfl)
    · have cs := sX by_ d 0 hbs
      rw [hpb] at cs
      by_cases h3 : sz + own > 65536
      · have er : substV i own by_ n d (sz, 0) = (varT n, (sz + own, 3)) := by unfold substV; rw [if_neg h1, if_neg h2, if_pos (.inl h3)]
        rw [er]
        unfold varT
        refine bZ [1000, 1001, 1002, 1003, 1004] Tryz.func103 rfl rfl (nb rfl) rfl rfl ?_
        repeat' (first | refine aG ?_ | (refine aI ?_;  first | refine aC tabOk rfl rfl rfl (nb rfl) rfl ?_ | (refine aK rfl rfl rfl (nb rfl) rfl rfl rfl (fun hq => ?_) (fun hq => ?_) <;> (first | (simp only [sD, sE, sB, sC, sN, sM, sT, sF] at hq; try (exfalso; omega)) | skip)) | refine dL (z := sz + own) rfl rfl rfl (nb rfl) rfl rfl rfl (by omega) (by omega) ?_ | refine dB rfl rfl rfl (nb rfl) rfl rfl rfl (by omega) (by omega) ?_ | refine bM tabOk rfl rfl rfl (nb rfl) rfl rfl rfl rfl ?_ | refine bP tabOk rfl rfl rfl rfl rfl rfl rfl rfl rfl rfl rfl ?_) | (refine aN ?_;  first | refine aH ?_ | refine aQ ?_ | refine aX ?_ | refine aT ?_ | refine aZ ?_ | refine aE (b := true) rfl (fun _ => ?_) nTf | refine aE (b := false) rfl nFt (fun _ => ?_) | refine aR mixed (by kernel_rfl) ?_) | (refine aM ?_;  first | refine bA ?_ | refine aV ?_) | (refine aW ?_;  first | refine bS ?_) | refine bG (bF (by kernel_rfl)) ?_)
        all_goals first
          | exact absurd rfl (by assumption)
          | (exfalso; omega)
          | (refine cG (cF (by first | exact .inl rfl | exact .inr rfl) (bC rfl (aA rfl)) rfl (by repeat' first | exact trivial | refine ⟨rfl, ?_⟩) rfl ?_); rfl)
      · by_cases h4 : (shiftP by_ d 0).2 = 0
        · have er : substV i own by_ n d (sz, 0) = ((shiftP by_ d 0).1, (sz + own, 0)) := by unfold substV; rw [if_neg h1, if_neg h2, if_neg (fun h => h.elim h3 (fun h => h h4))]
          rw [er]
          rw [h4] at cs
          clear er h4 hpb
          generalize (shiftP by_ d 0).1 = Z at *
          unfold varT
          refine bZ [1000, 1001, 1002, 1003, 1004] Tryz.func103 rfl rfl (nb rfl) rfl rfl ?_
          repeat' (first | refine aG ?_ | (refine aI ?_;  first | refine aC tabOk rfl rfl rfl (nb rfl) rfl ?_ | (refine aK rfl rfl rfl (nb rfl) rfl rfl rfl (fun hq => ?_) (fun hq => ?_) <;> (first | (simp only [sD, sE, sB, sC, sN, sM, sT, sF] at hq; try (exfalso; omega)) | skip)) | refine aD rfl rfl (nb rfl) rfl rfl rfl rfl (cs) ?_ | refine dL (z := sz + own) rfl rfl rfl (nb rfl) rfl rfl rfl (by omega) (by omega) ?_ | refine dB rfl rfl rfl (nb rfl) rfl rfl rfl (by omega) (by omega) ?_ | refine bM tabOk rfl rfl rfl (nb rfl) rfl rfl rfl rfl ?_ | refine bP tabOk rfl rfl rfl rfl rfl rfl rfl rfl rfl rfl rfl ?_) | (refine aN ?_;  first | refine aH ?_ | refine aQ ?_ | refine aX ?_ | refine aT ?_ | refine aZ ?_ | refine aE (b := false) rfl nFt (fun _ => ?_) | refine aR mixed (by kernel_rfl) ?_) | (refine aM ?_;  first | refine bA ?_) | (refine aW ?_;  first | refine bS ?_) | refine bG (bF (by kernel_rfl)) ?_)
          all_goals first
            | exact absurd rfl (by assumption)
            | (exfalso; omega)
            | (refine cG (cF (by first | exact .inl rfl | exact .inr rfl) (bC rfl (aA rfl)) rfl (by repeat' first | exact trivial | refine ⟨rfl, ?_⟩) rfl ?_); rfl)
        · have er : substV i own by_ n d (sz, 0) = (varT n, (sz + own, 3)) := by unfold substV; rw [if_neg h1, if_neg h2, if_pos (.inr h4)]
          rw [er]
          clear er hpb
          generalize (shiftP by_ d 0).1 = Z at *
          generalize (shiftP by_ d 0).2 = Z2 at *
          unfold varT
          refine bZ [1000, 1001, 1002, 1003, 1004] Tryz.func103 rfl rfl (nb rfl) rfl rfl ?_
          repeat' (first | refine aG ?_ | (refine aI ?_;  first | refine aC tabOk rfl rfl rfl (nb rfl) rfl ?_ | (refine aK rfl rfl rfl (nb rfl) rfl rfl rfl (fun hq => ?_) (fun hq => ?_) <;> (first | (simp only [sD, sE, sB, sC, sN, sM, sT, sF] at hq; try (exfalso; omega)) | skip)) | refine aD rfl rfl (nb rfl) rfl rfl rfl rfl (cs) ?_ | refine dL (z := sz + own) rfl rfl rfl (nb rfl) rfl rfl rfl (by omega) (by omega) ?_ | refine dB rfl rfl rfl (nb rfl) rfl rfl rfl (by omega) (by omega) ?_ | refine bM tabOk rfl rfl rfl (nb rfl) rfl rfl rfl rfl ?_ | refine bP tabOk rfl rfl rfl rfl rfl rfl rfl rfl rfl rfl rfl ?_) | (refine aN ?_;  first | refine aH ?_ | refine aQ ?_ | refine aX ?_ | refine aT ?_ | refine aZ ?_ | refine aE (b := true) rfl (fun _ => ?_) nTf | refine aE (b := false) rfl nFt (fun _ => ?_) | refine aR mixed (by kernel_rfl) ?_) | (refine aM ?_;  first | refine bA ?_ | refine aV ?_) | (refine aW ?_;  first | refine bS ?_) | refine bG (bF (by kernel_rfl)) ?_)
          all_goals first
            | exact absurd (by assumption) h4
            | exact absurd rfl (by assumption)
            | (exfalso; omega)
            | (refine cG (cF (by first | exact .inl rfl | exact .inr rfl) (bC rfl (aA rfl)) rfl (by repeat' first | exact trivial | refine ⟨rfl, ?_⟩) rfl ?_); rfl)
def substJ (s : Int × Int) : Prop := 0 ≤ s.1 ∧ s.1 ≤ 131072 ∧ (s.2 = 0 → s.1 ≤ 65536) ∧ (s.2 = 0 ∨ s.2 = 3)
theorem nB (i : Int) (by_ : Tree) (hb : by_.size ≤ 65536) (n d : Int) (s : Int × Int) (hJ : substJ s) :
    (substV i by_.size by_ n d s).1.whole = true ∧ substJ (substV i by_.size by_ n d s).2 ∧ (substV i by_.size by_ n d s).1.size + s.1.toNat ≤ 1 + (substV i by_.size by_ n d s).2.1.toNat := by
  obtain ⟨sz, e⟩ := s
  obtain ⟨j1, j2, j3, j4⟩ := hJ
  dsimp only at j1 j2 j3 j4
  unfold substV
  dsimp only
  split
  · exact ⟨rfl, ⟨j1, j2, j3, j4⟩, by rw [mH]; dsimp only; omega⟩
  · rename_i h1
    have he : e = 0 := by omega
    subst he
    have j5 := j3 rfl
    split
    · exact ⟨rfl, ⟨j1, j2, j3, j4⟩, by rw [mH]; dsimp only; omega⟩
    · split
      · refine ⟨rfl, ⟨?_, ?_, ?_, .inr rfl⟩, ?_⟩
        · show 0 ≤ sz + by_.size; omega
        · show sz + by_.size ≤ 131072; omega
        · intro h; cases h
        · rw [mH]; dsimp only; omega
      · rename_i h3
        have h4 : (shiftP by_ d 0).2 = 0 := by omega
        have h5 := eY by_ d 0 h4
        refine ⟨h5.1, ⟨?_, ?_, ?_, .inl rfl⟩, ?_⟩
        · show 0 ≤ sz + by_.size; omega
        · show sz + by_.size ≤ 131072; omega
        · intro _; show sz + by_.size ≤ 65536; omega
        · have := h5.2.1; dsimp only; omega
/-- What Subst tells. -/
def substP (t : Tree) (i : Int) (by_ : Tree) : Tree × Int :=
  if checkP isConP t ≠ 0 then (.nil, checkP isConP t)
  else if checkP isConP by_ ≠ 0 then (.nil, checkP isConP by_)
  else if i < 0 then (.nil, 2)
  else if (walkS (substV i by_.size by_) t 0 (0, 0)).2.2 ≠ 0 ∨ (walkS (substV i by_.size by_) t 0 (0, 0)).1.size > 65536 then (.nil, 3)
  else ((walkS (substV i by_.size by_) t 0 (0, 0)).1, 0)
theorem substW (t : Tree) (i : Int) (by_ : Tree) (hc : checkP isConP t = 0) (hb : checkP isConP by_ = 0) :
    (walkS (substV i by_.size by_) t 0 (0, 0)).1.whole = true ∧ substJ (walkS (substV i by_.size by_) t 0 (0, 0)).2 ∧ (walkS (substV i by_.size by_) t 0 (0, 0)).1.size ≤ 200000 := by
  obtain ⟨hw, hz, hf⟩ := bQ hc
  obtain ⟨bw, bz, bf⟩ := bQ hb
  have := oY (substV i by_.size by_) substJ (fun s => s.1.toNat) (fun n d s hJ _ _ _ _ => nB i by_ bz n d s hJ) t 0 (0, 0) (dN t hf) hw (Int.le_refl _) (by omega) ⟨by decide, by decide, by decide, .inl rfl⟩
  refine ⟨this.1, this.2.1, ?_⟩
  have h1 := this.2.2
  have h2 := this.2.1.2.1
  dsimp only at h1
  omega
theorem nC (t : Tree) (i : Int) (by_ : Tree) (h : (substP t i by_).2 = 0) : (substP t i by_).1.whole = true ∧ (substP t i by_).1.size ≤ 65536 ∧ checkP isConP t = 0 ∧ checkP isConP by_ = 0 := by
  unfold substP at h ⊢
  by_cases hc : checkP isConP t = 0
  · rw [if_neg (by simpa using hc)] at h ⊢
    by_cases hb : checkP isConP by_ = 0
    · rw [if_neg (by simpa using hb)] at h ⊢
      split at h
      · cases h
      · rename_i hi
        rw [if_neg hi]
        split at h
        · cases h
        · rename_i h3
          rw [if_neg h3]
          have := substW t i by_ hc hb
          exact ⟨this.1, by dsimp only; omega, hc, hb⟩
    · rw [if_pos (by simpa using hb)] at h
      exact absurd h hb
  · rw [if_pos (by simpa using hc)] at h
    exact absurd h hc
end Go.Proofs.YtocaohipfiapkaaGreat.Ab
namespace Go.Proofs.YtocaohipfiapkaaGreat.Ab
set_option linter.unusedVariables false
set_option linter.unusedSimpArgs false
attribute [local irreducible] AWP AOps AExit AThen ABlock ANoGoto FeetOk
set_option maxHeartbeats 16000000 in
set_option maxRecDepth 10000 in
theorem xW (t : Tree) (i : Int) (by_ : Tree) (hs : t.size ≤ 100000000) (hbs : by_.size ≤ 100000000) : ACalls Tryz.prog 91 [.imm t.iv, .imm (.lit (.int .i64 i)), .imm by_.iv] [] (.imm (.tup [(substP t i by_).1.iv, .lit (.int .i64 (substP t i by_).2)])) [] := by
  have c1 := eM t hs
  have c2 := eM by_ hbs
  obtain ⟨Q, hQ⟩ : ∃ Q, substP t i by_ = Q := ⟨_, rfl⟩
  rw [hQ]
  unfold substP at hQ
  by_cases hc : checkP isConP t = 0
  · rw [if_neg (by simpa using hc)] at hQ
    rw [hc] at c1
    by_cases hb : checkP isConP by_ = 0
    · rw [if_neg (by simpa using hb)] at hQ
      rw [hb] at c2
      obtain ⟨bw, bz, _⟩ := bQ hb
      obtain ⟨pb, hpb⟩ := bT (bK bw)
      by_cases hi : i < 0
      · rw [if_pos hi] at hQ
        subst hQ
        rw [hpb] at c2 ⊢
        refine aJ Tryz.func91 rfl rfl (nb rfl) rfl ?_
        repeat' (first | refine aG ?_ | (refine aI ?_;  first | refine aC tabOk rfl rfl rfl (nb rfl) rfl ?_ | (refine aK rfl rfl rfl (nb rfl) rfl rfl rfl (fun hq => ?_) (fun hq => ?_) <;> (first | (simp only [sD, sE, sB, sC, sN, sM, sT, sF] at hq; try (exfalso; omega)) | skip)) | refine aD rfl rfl (nb rfl) rfl rfl rfl rfl (c1) ?_ | refine aD rfl rfl (nb rfl) rfl rfl rfl rfl (c2) ?_ | refine cK 1001 (d := 4) rfl rfl rfl (nb rfl) rfl rfl rfl rfl rfl rfl rfl ?_ | refine cK 1004 (d := 5) rfl rfl rfl (nb rfl) rfl rfl rfl rfl rfl rfl rfl ?_ | refine bM tabOk rfl rfl rfl (nb rfl) rfl rfl rfl rfl ?_) | (refine aN ?_;  first | refine aH ?_ | refine aQ ?_ | refine aT ?_ | refine aZ ?_ | refine aE (b := true) rfl (fun _ => ?_) nTf | refine aE (b := false) rfl nFt (fun _ => ?_)) | (refine aM ?_;  first | refine bA ?_ | refine aV ?_))
        all_goals first
          | exact absurd rfl (by assumption)
          | (exfalso; omega)
          | (refine aU (by first | exact .inl rfl | exact .inr rfl) (bB rfl (aA rfl) (aA rfl)) rfl ?_; rfl)
      · rw [if_neg hi] at hQ
        obtain ⟨hw, hz, hf⟩ := bQ hc
        have hv := dN t hf
        have h3 := substW t i by_ hc hb
        have c3 := aCg by_ hbs (.inr bw)
        obtain ⟨cw, _, hne⟩ := (aBz (σ := Int × Int) (substV i by_.size by_) 103 (fun s => .lit (.int .i64 s.2)) (fun _ => .lit (.int .i64 i)) (fun s => .lit (.int .i64 s.1)) (fun _ => .lit (.int .i64 by_.size)) (fun _ => .ptr pb 0) substJ
          (fun n d s hJ h1 h2 h3 h4 => by
            have hf := nB i by_ bz n d s hJ
            obtain ⟨sz, e⟩ := s
            exact ⟨aAF i by_.size by_ pb hpb hbs n d sz e (by omega) (by omega) (by omega) hJ.1 hJ.2.1 h1 h2 h3 h4, hf.2.1, bK hf.1⟩) t 0 (0, 0) hv hw (Int.le_refl _) (by omega) ⟨by decide, by decide, by decide, .inl rfl⟩)
        obtain ⟨pc, hpc⟩ := bT hne
        have c4 := aBA _ h3.1 (by omega) 65536 (by omega) (by omega)
        have hlg := nA _ h3.1 65536 (by omega)
        rw [hpc] at cw c4
        rw [hpb] at c2 c3 ⊢
        have hJ4 := h3.2.1.2.2.2
        have hout : ∀ x y, Q = (x, y) → True := fun _ _ _ => trivial
        clear hc hb hw hf hv hne h3 hout bw
        generalize walkS (substV i by_.size by_) t 0 (0, 0) = W at *
        obtain ⟨W1, W2, W3⟩ := W
        dsimp only at *
        generalize largeP W1 65536 = LP at *
        by_cases h4 : W3 ≠ 0
        · rw [if_pos (.inl h4)] at hQ
          subst hQ
          have h5 : W3 = 3 := by omega
          subst h5
          refine aJ Tryz.func91 rfl rfl (nb rfl) rfl ?_
          repeat' (first | refine aG ?_ | (refine aI ?_;  first | refine aC tabOk rfl rfl rfl (nb rfl) rfl ?_ | refine cA rfl rfl (nb rfl) ?_ | (refine aK rfl rfl rfl (nb rfl) rfl rfl rfl (fun hq => ?_) (fun hq => ?_) <;> (first | (simp only [sD, sE, sB, sC, sN, sM, sT, sF] at hq; try (exfalso; omega)) | skip)) | refine aD rfl rfl (nb rfl) rfl rfl rfl rfl (c1) ?_ | refine aD rfl rfl (nb rfl) rfl rfl rfl rfl (c2) ?_ | refine aD rfl rfl (nb rfl) rfl rfl rfl rfl (c3) ?_ | refine cK 1001 (d := 4) rfl rfl rfl (nb rfl) rfl rfl rfl rfl rfl rfl rfl ?_ | refine cK 1004 (d := 5) rfl rfl rfl (nb rfl) rfl rfl rfl rfl rfl rfl rfl ?_ | refine cV 1002 (d := 10) tabOk rfl rfl rfl (nb rfl) rfl rfl rfl rfl rfl rfl ?_ | refine cV 1000 (d := 11) tabOk rfl rfl rfl (nb rfl) rfl rfl rfl rfl rfl rfl ?_ | refine cV 1003 (d := 12) tabOk rfl rfl rfl (nb rfl) rfl rfl rfl rfl rfl rfl ?_ | refine cD rfl rfl (nb rfl) rfl rfl rfl rfl cw (by repeat' first | exact trivial | refine ⟨rfl, ?_⟩) rfl (by show ([1000, 1001, 1002, 1003, 1004] : List Nat).Nodup; decide) ?_ | refine bM tabOk rfl rfl rfl (nb rfl) rfl rfl rfl rfl ?_ | refine bP tabOk rfl rfl rfl rfl rfl rfl rfl rfl rfl rfl rfl ?_) | (refine aN ?_;  first | refine aH ?_ | refine aQ ?_ | refine aT ?_ | refine aZ ?_ | refine aE (b := true) rfl (fun _ => ?_) nTf | refine aE (b := false) rfl nFt (fun _ => ?_) | refine aR mixed (by kernel_rfl) ?_) | (refine aM ?_;  first | refine bA ?_ | refine aV ?_) | refine bG (bF (by kernel_rfl)) ?_)
          all_goals first
            | exact absurd rfl (by assumption)
            | (exfalso; omega)
            | (refine aU (by first | exact .inl rfl | exact .inr rfl) (bB rfl (aA rfl) (aA rfl)) rfl ?_; rfl)
        · have h5 : W3 = 0 := by omega
          subst h5
          by_cases h6 : W1.size > 65536
          · rw [if_pos (.inr h6)] at hQ
            subst hQ
            have h7 : LP > 65536 := hlg.2.2.2 (by omega)
            refine aJ Tryz.func91 rfl rfl (nb rfl) rfl ?_
            repeat' (first | refine aG ?_ | (refine aI ?_;  first | refine aC tabOk rfl rfl rfl (nb rfl) rfl ?_ | (refine aK rfl rfl rfl (nb rfl) rfl rfl rfl (fun hq => ?_) (fun hq => ?_) <;> (first | (simp only [sD, sE, sB, sC, sN, sM, sT, sF] at hq; try (exfalso; omega)) | skip)) | refine aD rfl rfl (nb rfl) rfl rfl rfl rfl (c1) ?_ | refine aD rfl rfl (nb rfl) rfl rfl rfl rfl (c2) ?_ | refine aD rfl rfl (nb rfl) rfl rfl rfl rfl (c3) ?_ | refine aD rfl rfl (nb rfl) rfl rfl rfl rfl (c4) ?_ | refine cK 1001 (d := 4) rfl rfl rfl (nb rfl) rfl rfl rfl rfl rfl rfl rfl ?_ | refine cK 1004 (d := 5) rfl rfl rfl (nb rfl) rfl rfl rfl rfl rfl rfl rfl ?_ | refine cV 1002 (d := 10) tabOk rfl rfl rfl (nb rfl) rfl rfl rfl rfl rfl rfl ?_ | refine cV 1000 (d := 11) tabOk rfl rfl rfl (nb rfl) rfl rfl rfl rfl rfl rfl ?_ | refine cV 1003 (d := 12) tabOk rfl rfl rfl (nb rfl) rfl rfl rfl rfl rfl rfl ?_ | refine cD rfl rfl (nb rfl) rfl rfl rfl rfl cw (by repeat' first | exact trivial | refine ⟨rfl, ?_⟩) rfl (by show ([1000, 1001, 1002, 1003, 1004] : List Nat).Nodup; decide) ?_ | refine bM tabOk rfl rfl rfl (nb rfl) rfl rfl rfl rfl ?_ | refine bP tabOk rfl rfl rfl rfl rfl rfl rfl rfl rfl rfl rfl ?_) | (refine aN ?_;  first | refine aH ?_ | refine aQ ?_ | refine bI ?_ | refine aT ?_ | refine aZ ?_ | refine aE (b := true) rfl (fun _ => ?_) nTf | refine aE (b := false) rfl nFt (fun _ => ?_) | refine aR mixed (by kernel_rfl) ?_) | (refine aM ?_;  first | refine bA ?_ | refine aV ?_) | refine bG (bF (by kernel_rfl)) ?_)
            all_goals first
              | exact absurd rfl (by assumption)
              | (exfalso; omega)
              | (refine aU (by first | exact .inl rfl | exact .inr rfl) (bB rfl (aA rfl) (aA rfl)) rfl ?_; rfl)
          · rw [if_neg (fun h => h.elim (fun h => h rfl) h6)] at hQ
            subst hQ
            have h7 : LP = W1.size := hlg.2.2.1 (by omega)
            dsimp only
            rw [hpc]
            refine aJ Tryz.func91 rfl rfl (nb rfl) rfl ?_
            repeat' (first | refine aG ?_ | (refine aI ?_;  first | refine aC tabOk rfl rfl rfl (nb rfl) rfl ?_ | (refine aK rfl rfl rfl (nb rfl) rfl rfl rfl (fun hq => ?_) (fun hq => ?_) <;> (first | (simp only [sD, sE, sB, sC, sN, sM, sT, sF] at hq; try (exfalso; omega)) | skip)) | refine aD rfl rfl (nb rfl) rfl rfl rfl rfl (c1) ?_ | refine aD rfl rfl (nb rfl) rfl rfl rfl rfl (c2) ?_ | refine aD rfl rfl (nb rfl) rfl rfl rfl rfl (c3) ?_ | refine aD rfl rfl (nb rfl) rfl rfl rfl rfl (c4) ?_ | refine cK 1001 (d := 4) rfl rfl rfl (nb rfl) rfl rfl rfl rfl rfl rfl rfl ?_ | refine cK 1004 (d := 5) rfl rfl rfl (nb rfl) rfl rfl rfl rfl rfl rfl rfl ?_ | refine cV 1002 (d := 10) tabOk rfl rfl rfl (nb rfl) rfl rfl rfl rfl rfl rfl ?_ | refine cV 1000 (d := 11) tabOk rfl rfl rfl (nb rfl) rfl rfl rfl rfl rfl rfl ?_ | refine cV 1003 (d := 12) tabOk rfl rfl rfl (nb rfl) rfl rfl rfl rfl rfl rfl ?_ | refine cD rfl rfl (nb rfl) rfl rfl rfl rfl cw (by repeat' first | exact trivial | refine ⟨rfl, ?_⟩) rfl (by show ([1000, 1001, 1002, 1003, 1004] : List Nat).Nodup; decide) ?_ | refine bM tabOk rfl rfl rfl (nb rfl) rfl rfl rfl rfl ?_ | refine bP tabOk rfl rfl rfl rfl rfl rfl rfl rfl rfl rfl rfl ?_) | (refine aN ?_;  first | refine aH ?_ | refine aQ ?_ | refine aT ?_ | refine aZ ?_ | refine aE (b := false) rfl nFt (fun _ => ?_)) | (refine aM ?_;  first | refine bA ?_))
            all_goals first
              | exact absurd rfl (by assumption)
              | (exfalso; omega)
              | (refine aU (by first | exact .inl rfl | exact .inr rfl) (bB rfl (aA rfl) (aA rfl)) rfl ?_; rfl)
    · rw [if_pos hb] at hQ
      subst hQ
      generalize checkP isConP by_ = C at *
      obtain ⟨y, hy, hy1⟩ : ∃ y, by_.iv = y ∧ (y = .lit (.pointer none) ∨ ∃ p, y = .ptr p 0) := by
        cases by_ with
        | nil => exact ⟨_, rfl, .inl rfl⟩
        | node k n a b ks => exact ⟨_, rfl, .inr ⟨_, by rw [Tree.iv]⟩⟩
      rw [hy] at c2 ⊢
      rcases hy1 with rfl | ⟨p, rfl⟩ <;>
      (refine aJ Tryz.func91 rfl rfl (nb rfl) rfl ?_
       repeat' (first | refine aG ?_ | (refine aI ?_;  first | refine aC tabOk rfl rfl rfl (nb rfl) rfl ?_ | (refine aK rfl rfl rfl (nb rfl) rfl rfl rfl (fun hq => ?_) (fun hq => ?_) <;> (first | (simp only [sD, sE, sB, sC, sN, sM, sT, sF] at hq; try (exfalso; omega)) | skip)) | refine aD rfl rfl (nb rfl) rfl rfl rfl rfl (c1) ?_ | refine aD rfl rfl (nb rfl) rfl rfl rfl rfl (c2) ?_ | refine cK 1001 (d := 4) rfl rfl rfl (nb rfl) rfl rfl rfl rfl rfl rfl rfl ?_ | refine cK 1004 (d := 5) rfl rfl rfl (nb rfl) rfl rfl rfl rfl rfl rfl rfl ?_ | refine bM tabOk rfl rfl rfl (nb rfl) rfl rfl rfl rfl ?_) | (refine aN ?_;  first | refine aH ?_ | refine aQ ?_ | refine aT ?_ | refine aZ ?_ | refine aE (b := true) rfl (fun _ => ?_) nTf | refine aE (b := false) rfl nFt (fun _ => ?_)) | (refine aM ?_;  first | refine bA ?_ | refine aV ?_))
       all_goals first
         | exact absurd rfl (by assumption)
         | exact absurd (by assumption) hb
         | (exfalso; omega)
         | (refine aU (by first | exact .inl rfl | exact .inr rfl) (bB rfl (aA rfl) (aA rfl)) rfl ?_; rfl))
  · rw [if_pos hc] at hQ
    subst hQ
    generalize checkP isConP t = C at *
    obtain ⟨y, hy, hy1⟩ : ∃ y, by_.iv = y ∧ (y = .lit (.pointer none) ∨ ∃ p, y = .ptr p 0) := by
      cases by_ with
      | nil => exact ⟨_, rfl, .inl rfl⟩
      | node k n a b ks => exact ⟨_, rfl, .inr ⟨_, by rw [Tree.iv]⟩⟩
    rw [hy]
    rcases hy1 with rfl | ⟨p, rfl⟩ <;>
    (refine aJ Tryz.func91 rfl rfl (nb rfl) rfl ?_
     repeat' (first | refine aG ?_ | (refine aI ?_;  first | refine aC tabOk rfl rfl rfl (nb rfl) rfl ?_ | (refine aK rfl rfl rfl (nb rfl) rfl rfl rfl (fun hq => ?_) (fun hq => ?_) <;> (first | (simp only [sD, sE, sB, sC, sN, sM, sT, sF] at hq; try (exfalso; omega)) | skip)) | refine aD rfl rfl (nb rfl) rfl rfl rfl rfl (c1) ?_ | refine cK 1001 (d := 4) rfl rfl rfl (nb rfl) rfl rfl rfl rfl rfl rfl rfl ?_ | refine cK 1004 (d := 5) rfl rfl rfl (nb rfl) rfl rfl rfl rfl rfl rfl rfl ?_) | (refine aN ?_;  first | refine aH ?_ | refine aQ ?_ | refine aT ?_ | refine aE (b := true) rfl (fun _ => ?_) nTf) | (refine aM ?_;  first | refine aV ?_))
     all_goals first
       | exact absurd rfl (by assumption)
       | exact absurd (by assumption) hc
       | (exfalso; omega)
       | (refine aU (by first | exact .inl rfl | exact .inr rfl) (bB rfl (aA rfl) (aA rfl)) rfl ?_; rfl))
end Go.Proofs.YtocaohipfiapkaaGreat.Ab
namespace Go.Proofs.YtocaohipfiapkaaGreat.Ab
set_option linter.unusedVariables false
set_option linter.unusedSimpArgs false
attribute [local irreducible] AWP AOps AExit AThen ABlock ANoGoto FeetOk
set_option maxRecDepth 10000 in
theorem aBB (n : Nat) (cs : List IV) (h0 : 0 < n) (hn : n ≤ 100000000) (hl : cs.length = n) : ACalls Tryz.prog 92 [.imm (.sl false n cs)] [(500, .fut)] (.ref 500 n) [(500, .arr 28 1 n cs)] := by
  have key : ACalls Tryz.prog 92 [.imm (.sl false n cs)] [(500, .fut)] (.ref 500 (0 + n)) [(500, .arr 28 1 (0 + n) cs)] := by
    refine bZ [500] Tryz.func92 rfl rfl (nb rfl) rfl rfl ?_
    repeat' (first | refine aG ?_ | (refine aI ?_;  first | refine aC tabOk rfl rfl rfl (nb rfl) rfl ?_ | refine wI tabOk rfl rfl rfl (nb rfl) rfl rfl rfl h0 ?_ | refine yZ 500 tabOk rfl rfl rfl (nb rfl) rfl rfl rfl rfl rfl rfl rfl h0 (by rw [hl]; exact (Nat.mul_one _).symm) (by omega) (by dsimp only; omega) rfl ?_ | refine cI tabOk rfl rfl rfl (nb rfl) rfl rfl rfl rfl rfl rfl rfl rfl rfl ?_) | (refine aN ?_;  first | refine aH ?_ | refine aQ ?_ | refine aT ?_ | refine aZ ?_ | refine aE (b := false) rfl nFt (fun _ => ?_)) | (refine aM ?_;  first | refine bA ?_))
    all_goals (refine cG (wJ (by first | exact .inl rfl | exact .inr rfl) (bC rfl (aA rfl)) rfl (by repeat' first | exact trivial | refine ⟨rfl, ?_⟩) rfl ?_); rfl)
  rw [Nat.zero_add] at key
  exact key
/-- A redex's body and argument. -/
def redexP : Tree → Option (Tree × Tree)
  | .node k _ _ _ [.node k' _ _ _ [_, b], y] => if k = 120 ∧ k' = 119 then some (b, y) else none
  | _ => none
mutual
/-- An application, a function have two kids. -/
def okStep : Tree → Bool
  | .nil => false
  | .node k _ _ _ kids => (if k = 120 ∨ k = 119 then kids.length == 2 else true) && okSteps kids
def okSteps : List Tree → Bool
  | [] => true
  | t :: ts => okStep t && okSteps ts
end
theorem jH : ∀ {l : List Tree}, okSteps l = true → ∀ t ∈ l, okStep t = true
  | x :: xs, h, t, ht => by
    simp only [okSteps, Bool.and_eq_true] at h
    rcases List.mem_cons.1 ht with rfl | ht
    · exact h.1
    · exact jH h.2 t ht
theorem eJ : ∀ {l : List Tree}, (∀ t ∈ l, okStep t = true) → okSteps l = true
  | [], _ => by rw [okSteps]
  | x :: xs, h => by
    simp only [okSteps, Bool.and_eq_true]
    exact ⟨h x (by simp), eJ fun t ht => h t (by simp [ht])⟩
theorem uL (t : Tree) : isKindP t = true → okStep t = true := by
  induction t using Tree.ind with
  | h1 => intro h; simp [isKindP] at h
  | h2 k n a b kids ih =>
    intro h
    rw [isKindP] at h
    split at h
    · rename_i e
      simp only [Bool.and_eq_true, beq_iff_eq] at h
      have e0 : kids = [] := List.eq_nil_of_length_eq_zero (by omega)
      subst e0
      rw [okStep, if_neg (by omega), okSteps]; rfl
    · split at h
      · rename_i e0 e
        simp only [Bool.and_eq_true] at h
        rw [okStep, if_neg (by omega), Bool.true_and]
        refine eJ fun t ht => ih t ht ?_
        rw [dR, List.all_map] at h
        exact List.all_eq_true.1 h.2 t ht
      · cases h
theorem jI {kind : Int} (hk : ¬ (kind = 120 ∨ kind = 119)) {t : Tree} (ih : ∀ t' : Tree, t'.size < t.size → isConP t' = true → okStep t' = true) (h : okNamed kind t = true) : okStep t = true := by
  cases t with
  | nil => simp [okNamed] at h
  | node k n a b ks =>
    simp only [okNamed, Bool.and_eq_true, beq_iff_eq] at h
    obtain ⟨⟨⟨rfl, _⟩, _⟩, h⟩ := h
    by_cases h1 : ks.length = 1
    · obtain ⟨c, rfl⟩ := one_of h1
      rw [okStep, if_neg hk, Bool.true_and]
      refine eJ fun t ht => ?_
      obtain rfl := List.mem_singleton.1 ht
      exact ih t (bR (by simp)) (by simpa [isCon1] using h)
    · rw [gZ h1] at h; cases h
theorem wQ (t : Tree) : isConP t = true → okStep t = true := by
  induction t using Tree.sind with
  | h t ih =>
    intro h
    cases t with
    | nil => simp [isConP] at h
    | node k n a b kids =>
      rw [isConP, Bool.and_eq_true] at h
      obtain ⟨hb, h⟩ := h
      have kid : ∀ t ∈ kids, isConP t = true → okStep t = true := fun t ht => ih t (bR ht)
      by_cases k0 : k = 110 ∨ k = 111 ∨ k = 112 ∨ k = 113
      · have e0 : kids = [] := by
          rcases k0 with k0 | k0
          · rw [if_pos k0] at h
            simp only [Bool.and_eq_true, beq_iff_eq] at h
            exact List.eq_nil_of_length_eq_zero (by omega)
          · rw [if_neg (by omega), if_pos k0] at h
            exact List.eq_nil_of_length_eq_zero (by simpa using h)
        rw [e0, okStep, if_neg (by omega), okSteps]; rfl
      · rw [if_neg (by omega), if_neg (by omega)] at h
        by_cases k2 : k = 114 ∨ k = 120
        · rw [if_pos k2, Bool.and_eq_true, iC] at h
          rw [okStep, Bool.and_eq_true]
          refine ⟨?_, eJ fun t ht => kid t ht (List.all_eq_true.1 h.2 t ht)⟩
          split
          · have := h.1
            simp only [beq_iff_eq] at this ⊢
            omega
          · rfl
        · rw [if_neg k2] at h
          by_cases k3 : k = 115
          · rw [if_pos k3, Bool.and_eq_true, dF] at h
            rw [okStep, if_neg (by omega), Bool.true_and]
            refine eJ fun t ht => ?_
            have hz := bR (k := k) (n := n) (a := a) (b := b) ht
            exact jI (by decide) (fun t' h1 h2 => ih t' (by omega) h2) (List.all_eq_true.1 h.1 t ht)
          · rw [if_neg k3] at h
            by_cases k4 : k = 117 ∨ k = 118 ∨ k = 119
            · rw [if_pos k4] at h
              by_cases h2 : kids.length = 2
              · obtain ⟨x, y, rfl⟩ := two h2
                simp only [isCon2, Bool.and_eq_true] at h
                rw [okStep, Bool.and_eq_true]
                refine ⟨by split <;> rfl, eJ fun t ht => ?_⟩
                rcases List.mem_cons.1 ht with rfl | ht'
                · exact uL _ h.1
                · obtain rfl := List.mem_singleton.1 ht'
                  exact kid _ ht h.2
              · rw [fQ h2] at h; cases h
            · rw [if_neg k4] at h
              by_cases k5 : k = 121
              · rw [if_pos k5, Bool.and_eq_true, Bool.and_eq_true, dF] at h
                rw [okStep, if_neg (by omega), Bool.true_and]
                refine eJ fun t ht => ?_
                have hz := bR (k := k) (n := n) (a := a) (b := b) ht
                exact jI (by decide) (fun t' h1 h2 => ih t' (by omega) h2) (List.all_eq_true.1 h.1.2 t ht)
              · rw [if_neg k5] at h; cases h
mutual
/-- A step: what it makes, whether there is one, the error. -/
def stepP : Tree → Tree × Bool × Int
  | .nil => (.nil, false, 0)
  | .node k n a b kids => match redexP (.node k n a b kids) with
    | some (bd, y) => ((substP bd 0 y).1, decide ((substP bd 0 y).2 = 0), (substP bd 0 y).2)
    | none => if (stepPs kids).2.2.2 ≠ 0 then (.nil, false, (stepPs kids).2.2.2) else if (stepPs kids).2.2.1 = true then (.node k n a b (kids.set (stepPs kids).1 (stepPs kids).2.1), true, 0) else (.nil, false, 0)
/-- The first of them that makes a step: which, what it makes. -/
def stepPs : List Tree → Nat × Tree × Bool × Int
  | [] => (0, .nil, false, 0)
  | t :: ts => if (stepP t).2.2 ≠ 0 then (0, .nil, false, (stepP t).2.2) else if (stepP t).2.1 = true then (0, (stepP t).1, true, 0) else ((stepPs ts).1 + 1, (stepPs ts).2)
end
theorem nD {t bd y : Tree} (h : redexP t = some (bd, y)) : ∃ n a b n' a' b' u, t = .node 120 n a b [.node 119 n' a' b' [u, bd], y] := by
  unfold redexP at h
  split at h
  · split at h
    · rename_i hc
      cases h
      obtain ⟨rfl, rfl⟩ := hc
      exact ⟨_, _, _, _, _, _, _, rfl⟩
    · cases h
  · cases h
def Tree.kind : Tree → Int
  | .nil => 0
  | .node k _ _ _ _ => k
theorem uM {k n : Int} {a b : ByteArray} {kids : List Tree} (ho : okStep (.node k n a b kids) = true) (h : redexP (.node k n a b kids) = none) : k = 120 → ∃ x y, kids = [x, y] ∧ x.kind ≠ 119 := by
  intro hk
  rw [okStep, if_pos (.inl hk), Bool.and_eq_true] at ho
  obtain ⟨x, y, rfl⟩ := two (by simpa using ho.1)
  refine ⟨x, y, rfl, fun hx => ?_⟩
  have hox := jH ho.2 x (by simp)
  cases x with
  | nil => cases hx
  | node k' n' a' b' ks =>
    have hx : k' = 119 := hx
    rw [okStep, if_pos (.inr hx), Bool.and_eq_true] at hox
    obtain ⟨u, bd, rfl⟩ := two (by simpa using hox.1)
    rw [redexP, if_pos ⟨hk, hx⟩] at h
    cases h
set_option maxHeartbeats 4000000 in
set_option maxRecDepth 10000 in
theorem aBC (t : Tree) (hw : t.whole = true) (ho : okStep t = true) : ACalls Tryz.prog 90 [.imm t.iv] [] (.imm (.lit (.bool (redexP t).isSome))) [] := by
  cases hr : redexP t with
  | some p =>
    obtain ⟨bd, y⟩ := p
    obtain ⟨n, a, b, n', a', b', u, rfl⟩ := nD hr
    refine aJ Tryz.func90 rfl rfl (nb rfl) rfl ?_
    repeat' (first | refine aG ?_ | (refine aI ?_;  first | refine aC tabOk rfl rfl rfl (nb rfl) rfl ?_ | (refine aK rfl rfl rfl (nb rfl) rfl rfl rfl (fun hq => ?_) (fun hq => ?_) <;> (first | (simp only [sD, sE, sB, sC, sN, sM, sT, sF] at hq; try (exfalso; omega)) | skip)) | refine bE tabOk rfl rfl rfl (nb rfl) rfl rfl rfl rfl (by first | rfl | omega) (by first | omega | simp) ?_) | (refine aN ?_;  first | refine aH ?_ | refine aT ?_))
    all_goals first
      | exact absurd rfl (by assumption)
      | (refine aU (by first | exact .inl rfl | exact .inr rfl) (bC rfl (aA rfl)) rfl ?_; rfl)
  | none =>
    cases t with
    | nil => simp [Tree.whole] at hw
    | node k n a b kids =>
      have h2 := uM ho hr
      by_cases hk : k = 120
      · obtain ⟨x, y, rfl, hx⟩ := h2 hk
        subst hk
        have hwx := bL hw (List.mem_cons_self (a := x))
        cases x with
        | nil => simp [Tree.whole] at hwx
        | node k' n' a' b' ks =>
          have hx : k' ≠ 119 := hx
          refine aJ Tryz.func90 rfl rfl (nb rfl) rfl ?_
          repeat' (first | refine aG ?_ | (refine aI ?_;  first | refine aC tabOk rfl rfl rfl (nb rfl) rfl ?_ | (refine aK rfl rfl rfl (nb rfl) rfl rfl rfl (fun hq => ?_) (fun hq => ?_) <;> (first | (simp only [sD, sE, sB, sC, sN, sM, sT, sF] at hq; try (exfalso; omega)) | skip)) | refine bE tabOk rfl rfl rfl (nb rfl) rfl rfl rfl rfl (by first | rfl | omega) (by first | omega | simp) ?_) | (refine aN ?_;  first | refine aH ?_ | refine aT ?_))
          all_goals first
            | exact absurd rfl (by assumption)
            | exact absurd (by assumption) hx
            | (refine aU (by first | exact .inl rfl | exact .inr rfl) (bC rfl (aA rfl)) rfl ?_; rfl)
      · refine aJ Tryz.func90 rfl rfl (nb rfl) rfl ?_
        repeat' (first | refine aG ?_ | (refine aI ?_;  first | refine aC tabOk rfl rfl rfl (nb rfl) rfl ?_ | refine cA rfl rfl (nb rfl) ?_ | (refine aK rfl rfl rfl (nb rfl) rfl rfl rfl (fun hq => ?_) (fun hq => ?_) <;> (first | (simp only [sD, sE, sB, sC, sN, sM, sT, sF] at hq; try (exfalso; omega)) | skip))) | (refine aN ?_;  first | refine aH ?_ | refine aT ?_))
        all_goals first
          | exact absurd (by assumption) hk
          | exact absurd rfl (by assumption)
          | (refine aU (by first | exact .inl rfl | exact .inr rfl) (bC rfl (aA rfl)) rfl ?_; rfl)
end Go.Proofs.YtocaohipfiapkaaGreat.Ab
namespace Go.Proofs.YtocaohipfiapkaaGreat.Ab
set_option linter.unusedVariables false
set_option linter.unusedSimpArgs false
attribute [local irreducible] AWP AOps AExit AThen ABlock ANoGoto FeetOk
theorem nE : ∀ (l : List Tree), (stepPs l).2.2.2 = 0 → (stepPs l).2.2.1 = true → ∃ h : (stepPs l).1 < l.length, (stepPs l).2.1 = (stepP (l[(stepPs l).1]'h)).1 ∧ (stepP (l[(stepPs l).1]'h)).2.1 = true ∧ (stepP (l[(stepPs l).1]'h)).2.2 = 0
  | [], _, h => by simp [stepPs] at h
  | t :: ts, h1, h2 => by
    by_cases c1 : (stepP t).2.2 ≠ 0
    · rw [stepPs, if_pos c1] at h2; cases h2
    · by_cases c2 : (stepP t).2.1 = true
      · have e : stepPs (t :: ts) = (0, (stepP t).1, true, 0) := by rw [stepPs, if_neg c1, if_pos c2]
        have c3 : (stepP t).2.2 = 0 := by omega
        simp only [e]
        exact ⟨by simp, rfl, c2, c3⟩
      · have e : stepPs (t :: ts) = ((stepPs ts).1 + 1, (stepPs ts).2) := by rw [stepPs, if_neg c1, if_neg c2]
        rw [e] at h1 h2
        obtain ⟨h, g1, g2, g3⟩ := nE ts h1 h2
        simp only [e]
        refine ⟨by simpa using h, ?_, ?_, ?_⟩
        · rw [List.getElem_cons_succ]; exact g1
        · rw [List.getElem_cons_succ]; exact g2
        · rw [List.getElem_cons_succ]; exact g3
theorem rC (r : Tree) : ∀ (l : List Tree) (j : Nat) (h : j < l.length), Tree.sizes (l.set j r) + l[j].size = Tree.sizes l + r.size
  | [], _, h => by simp at h
  | x :: l, 0, h => by simp only [List.set_cons_zero, Tree.sizes, List.getElem_cons_zero]; omega
  | x :: l, j + 1, h => by have := rC r l j (by simpa using h); simp only [List.set_cons_succ, Tree.sizes, List.getElem_cons_succ]; omega
theorem oZ {r : Tree} (hr : r.whole = true) : ∀ (l : List Tree) (j : Nat), Tree.wholes l = true → Tree.wholes (l.set j r) = true
  | [], _, _ => by simp [Tree.wholes]
  | x :: l, 0, h => by
    simp only [List.set_cons_zero, Tree.wholes, Bool.and_eq_true] at h ⊢
    exact ⟨hr, h.2⟩
  | x :: l, j + 1, h => by
    simp only [List.set_cons_succ, Tree.wholes, Bool.and_eq_true] at h ⊢
    exact ⟨h.1, oZ hr l j h.2⟩
theorem pA (t : Tree) : t.whole = true → (stepP t).2.1 = true → (stepP t).2.2 = 0 → (stepP t).1.whole = true ∧ (stepP t).1.size ≤ t.size + 65536 := by
  induction t using Tree.ind with
  | h1 => intro h; simp [Tree.whole] at h
  | h2 k n a b kids ih =>
    intro hw h1 h2
    rw [stepP] at h1 h2 ⊢
    cases hr : redexP (.node k n a b kids) with
    | some p =>
      obtain ⟨bd, y⟩ := p
      rw [hr] at h1 h2
      have := nC bd 0 y h2
      exact ⟨this.1, by dsimp only; omega⟩
    | none =>
      rw [hr] at h1 h2
      dsimp only at h1 h2 ⊢
      by_cases c1 : (stepPs kids).2.2.2 ≠ 0
      · rw [if_pos c1] at h1; cases h1
      · rw [if_neg c1] at h1 h2 ⊢
        by_cases c2 : (stepPs kids).2.2.1 = true
        · rw [if_pos c2]
          obtain ⟨h, g1, g2, g3⟩ := nE kids (by omega) c2
          have hm := List.getElem_mem h
          have := ih _ hm (bL hw hm) g2 g3
          rw [← g1] at this
          have hz := cY hm
          refine ⟨oZ this.1 kids _ hw, ?_⟩
          have hss := rC (stepPs kids).2.1 kids _ h
          simp only [Tree.size]
          omega
        · rw [if_neg c2] at h1; cases h1
set_option maxHeartbeats 16000000 in
set_option maxRecDepth 10000 in
theorem aCh (t : Tree) : t.whole = true → okStep t = true → t.size ≤ 400000 → ACalls Tryz.prog 70 [.imm t.iv] [] (.imm (.tup [(stepP t).1.iv, .lit (.bool (stepP t).2.1), .lit (.int .i64 (stepP t).2.2)])) [] := by
  induction t using Tree.ind with
  | h1 => intro h; simp [Tree.whole] at h
  | h2 k n a b kids ih =>
    intro hw ho hs
    have hl := cO kids hw
    have hsz : (Tree.node k n a b kids).size = 1 + Tree.sizes kids := by rw [Tree.size]
    rw [hsz] at hs
    have c1 := aBC (.node k n a b kids) hw ho
    generalize hR : stepP (.node k n a b kids) = R
    rw [stepP] at hR
    cases hr : redexP (.node k n a b kids) with
    | some p =>
      obtain ⟨bd, y⟩ := p
      rw [hr] at hR c1
      dsimp only at hR
      obtain ⟨n1, a1, b1, n', a', b', u, e⟩ := nD hr
      cases e
      have hbs : bd.size ≤ 400000 := by
        have h1 := bR (k := 119) (n := n') (a := a') (b := b') (kids := [u, bd]) (t := bd) (by simp)
        have h2 := cY (l := [.node 119 n' a' b' [u, bd], y]) (t := .node 119 n' a' b' [u, bd]) (by simp)
        omega
      have hys : y.size ≤ 400000 := by
        have h2 := cY (l := [.node 119 n' a' b' [u, bd], y]) (t := y) (by simp)
        omega
      have c2 := xW bd 0 y (by omega) (by omega)
      clear ih hr hw ho
      generalize substP bd 0 y = S at *
      obtain ⟨S1, S2⟩ := S
      dsimp only at hR c2
      subst hR
      dsimp only
      by_cases h0 : S2 = 0
      · rw [decide_eq_true h0]
        refine cL Tryz.func70 rfl rfl (nb rfl) rfl ?_
        repeat' (first | refine aG ?_ | (refine aI ?_;  first | refine aC tabOk rfl rfl rfl (nb rfl) rfl ?_ | (refine aK rfl rfl rfl (nb rfl) rfl rfl rfl (fun hq => ?_) (fun hq => ?_) <;> (first | (simp only [sD, sE, sB, sC, sN, sM, sT, sF] at hq; try (exfalso; omega)) | skip)) | refine aD rfl rfl (nb rfl) rfl rfl rfl rfl (c1) ?_ | refine aD rfl rfl (nb rfl) rfl rfl rfl rfl (c2) ?_ | refine bE tabOk rfl rfl rfl (nb rfl) rfl rfl rfl rfl (by first | rfl | omega) (by first | omega | simp) ?_) | (refine aN ?_;  first | refine aH ?_ | refine aQ ?_ | refine aT ?_ | refine aE (b := true) rfl (fun _ => ?_) nTf | refine aR mixed (by kernel_rfl) ?_) | (refine aM ?_;  first | refine bA ?_ | refine aV ?_) | refine bG (bF (by kernel_rfl)) ?_)
        all_goals first
          | exact absurd h0 (by assumption)
          | exact absurd rfl (by assumption)
          | (refine cM ?_; refine aU (by first | exact .inl rfl | exact .inr rfl) (eQ rfl (aA rfl) (aA rfl) (aA rfl)) rfl ?_; rfl)
      · rw [decide_eq_false h0]
        refine cL Tryz.func70 rfl rfl (nb rfl) rfl ?_
        repeat' (first | refine aG ?_ | (refine aI ?_;  first | refine aC tabOk rfl rfl rfl (nb rfl) rfl ?_ | (refine aK rfl rfl rfl (nb rfl) rfl rfl rfl (fun hq => ?_) (fun hq => ?_) <;> (first | (simp only [sD, sE, sB, sC, sN, sM, sT, sF] at hq; try (exfalso; omega)) | skip)) | refine aD rfl rfl (nb rfl) rfl rfl rfl rfl (c1) ?_ | refine aD rfl rfl (nb rfl) rfl rfl rfl rfl (c2) ?_ | refine bE tabOk rfl rfl rfl (nb rfl) rfl rfl rfl rfl (by first | rfl | omega) (by first | omega | simp) ?_) | (refine aN ?_;  first | refine aH ?_ | refine aQ ?_ | refine aT ?_ | refine aE (b := true) rfl (fun _ => ?_) nTf | refine aR mixed (by kernel_rfl) ?_) | (refine aM ?_;  first | refine bA ?_ | refine aV ?_) | refine bG (bF (by kernel_rfl)) ?_)
        all_goals first
          | exact absurd (by assumption) h0
          | exact absurd rfl (by assumption)
          | (refine cM ?_; refine aU (by first | exact .inl rfl | exact .inr rfl) (eQ rfl (aA rfl) (aA rfl) (aA rfl)) rfl ?_; rfl)
    | none =>
      rw [hr] at hR c1
      dsimp only at hR
      have hind : ∀ j (h : j < kids.length), ACalls Tryz.prog 70 [.imm kids[j].iv] [] (.imm (.tup [(stepP kids[j]).1.iv, .lit (.bool (stepP kids[j]).2.1), .lit (.int .i64 (stepP kids[j]).2.2)])) [] := fun j h => by
        have hm := List.getElem_mem h
        have hz := cY hm
        rw [okStep, Bool.and_eq_true] at ho
        exact ih _ hm (bL hw hm) (jH ho.2 _ hm) (by omega)
      clear ih hr ho hsz
      refine cL Tryz.func70 rfl rfl (nb rfl) rfl ?_
      repeat' (first | refine aG ?_ | (refine aI ?_;  first | refine aC tabOk rfl rfl rfl (nb rfl) rfl ?_ | refine aD rfl rfl (nb rfl) rfl rfl rfl rfl (c1) ?_ | refine aY tabOk rfl rfl (nb rfl) rfl ?_) | (refine aN ?_;  first | refine aH ?_ | refine aQ ?_ | refine aX ?_ | refine aZ ?_ | refine aE (b := false) rfl nFt (fun _ => ?_)) | (refine aM ?_;  first | refine bA ?_))
      all_goals first
        | exact absurd rfl (by assumption)
        | (exfalso; omega)
        | skip
      refine cW (eG 500 (by simp) rfl rfl) ?_
      refine cH (ι := {j : Nat // j ≤ kids.length ∧ stepPs kids = ((stepPs (kids.drop j)).1 + j, (stepPs (kids.drop j)).2)}) (fun j => S.f ⟨[(44, .imm (.lit (.int .i64 (j.1 : Int)))), (43, .imm (.lit (.int .i64 (kids.length : Int)))), (0, .imm (Tree.iv (.node k n a b kids)))], [(500, .fut)]⟩) (fun j => kids.length - j.1) ⟨0, Nat.zero_le _, rfl⟩ (bW (by repeat' first | exact trivial | refine ⟨rfl, ?_⟩) (by repeat' first | exact trivial | refine ⟨rfl, ?_⟩)) ?_
      clear c1
      rintro ⟨j, hj, hst⟩
      dsimp only
      by_cases hlt : j < kids.length
      · have hget := cS kids j hlt
        have hc := hind j hlt
        have hwk := bL hw (List.getElem_mem hlt)
        have hfn := pA kids[j] hwk
        rw [List.drop_eq_getElem_cons hlt, stepPs] at hst
        have hset := fun r : Tree => (show (Tree.ivs kids).set j r.iv = Tree.ivs (kids.set j r) by rw [cX, cX, List.map_set])
        have hstn := fun r : Tree => (show (Tree.node k n a b (kids.set j r)).iv = .ptr [.lit (.int .i64 k), .lit (.int .i64 n), .lit (.string a), .lit (.string b), .sl false kids.length (Tree.ivs (kids.set j r))] 0 by rw [Tree.iv, List.length_set])
        have hcl := aBB kids.length (Tree.ivs kids) (by omega) (by omega) (dD kids)
        clear hind
        generalize stepP kids[j] = Q at *
        obtain ⟨Q1, Q2, Q3⟩ := Q
        dsimp only at *
        by_cases h0 : Q3 = 0
        · subst h0
          cases Q2 with
          | true =>
            rw [if_neg (by simp), if_pos rfl] at hst
            have hs1 : stepPs kids = (0 + j, Q1, true, 0) := hst
            rw [hs1] at hR
            have hR : (Tree.node k n a b (kids.set (0 + j) Q1), true, (0 : Int)) = R := by simpa using hR
            subst hR
            rw [Nat.zero_add]
            dsimp only
            rw [hstn Q1, ← hset Q1]
            obtain ⟨pc, hpc⟩ := bT (bK (hfn rfl rfl).1)
            rw [hpc] at hc ⊢
            clear hset hstn hfn hst hs1
            repeat' (first | refine aG ?_ | (refine aI ?_;  first | refine aC tabOk rfl rfl rfl (nb rfl) rfl ?_ | (refine aK rfl rfl rfl (nb rfl) rfl rfl rfl (fun hq => ?_) (fun hq => ?_) <;> (first | (simp only [sD, sE, sB, sC, sN, sM, sT, sF] at hq; try (exfalso; omega)) | skip)) | refine aD rfl rfl (nb rfl) rfl rfl rfl rfl (hc) ?_ | refine cD rfl rfl (nb rfl) rfl rfl rfl rfl hcl (by repeat' first | exact trivial | refine ⟨rfl, ?_⟩) rfl (by show ([500] : List Nat).Nodup; decide) ?_ | refine eV tabOk rfl rfl rfl (nb rfl) rfl rfl rfl rfl rfl rfl rfl hlt ?_ | refine lO tabOk rfl rfl rfl rfl rfl rfl rfl rfl rfl rfl (by omega) (by show j * 1 < kids.length * 1; omega) ?_ | refine dC tabOk rfl rfl rfl (nb rfl) rfl rfl rfl rfl rfl rfl ?_ | refine bM tabOk rfl rfl rfl (nb rfl) rfl rfl rfl rfl ?_ | refine bP tabOk rfl rfl rfl rfl rfl rfl rfl rfl rfl rfl rfl ?_ | refine bH tabOk rfl rfl rfl (nb rfl) rfl rfl rfl rfl (by first | assumption | omega) ?_ | refine bO tabOk rfl rfl rfl (nb rfl) rfl rfl rfl (by assumption) ?_) | (refine aN ?_;  first | refine aH ?_ | refine aQ ?_ | refine aX ?_ | refine aT ?_ | refine aZ ?_ | refine aE (b := true) rfl (fun _ => ?_) nTf | refine aE (b := false) rfl nFt (fun _ => ?_)) | (refine aM ?_;  first | refine bA ?_ | refine aV ?_) | (refine aW ?_;  first | refine bD ?_))
            all_goals first
              | exact absurd rfl (by assumption)
              | (exfalso; omega)
              | (refine dU ((Imp.of_le (σ' := S.f ⟨[(2, .obj 11 0), (3, .imm (.lit (.bool true))), (4, .imm (.lit (.int .i64 0)))], [(500, .arr 28 1 kids.length ((Tree.ivs kids).set (j * 1) (.ptr pc 0))), (11, .cells [.imm (.lit (.int .i64 k)), .imm (.lit (.int .i64 n)), .imm (.lit (.string a)), .imm (.lit (.string b)), .ref 500 kids.length])]⟩) (bW (by repeat' first | exact trivial | refine ⟨rfl, ?_⟩) (by repeat' first | exact trivial | refine ⟨rfl, ?_⟩))).trans ((cU (g := 500) rfl (by repeat' first | exact trivial | exact fun _ => rfl | refine ⟨?_, ?_⟩) (by repeat' first | exact trivial | exact fun _ => rfl | refine ⟨?_, ?_⟩)).trans (eH (g := 11) rfl rfl))) ?_
                 refine aU (by first | exact .inl rfl | exact .inr rfl) (eQ rfl (aA rfl) (aA rfl) (aA rfl)) rfl ?_; rw [Nat.mul_one]; rfl)
          | false =>
            rw [if_neg (by simp), if_neg (by simp)] at hst
            have hs1 : stepPs kids = ((stepPs (kids.drop (j + 1))).1 + (j + 1), (stepPs (kids.drop (j + 1))).2) := by rw [hst]; simp only [Nat.add_assoc, Nat.add_comm 1 j]
            clear hset hstn hfn hst hcl
            repeat' (first | refine aG ?_ | (refine aI ?_;  first | refine aC tabOk rfl rfl rfl (nb rfl) rfl ?_ | (refine aK rfl rfl rfl (nb rfl) rfl rfl rfl (fun hq => ?_) (fun hq => ?_) <;> (first | (simp only [sD, sE, sB, sC, sN, sM, sT, sF] at hq; try (exfalso; omega)) | skip)) | refine aD rfl rfl (nb rfl) rfl rfl rfl rfl (hc) ?_ | refine bX rfl rfl rfl (nb rfl) rfl rfl (by omega) ?_ | refine bH tabOk rfl rfl rfl (nb rfl) rfl rfl rfl rfl (by first | assumption | omega) ?_ | refine bO tabOk rfl rfl rfl (nb rfl) rfl rfl rfl (by assumption) ?_) | (refine aN ?_;  first | refine aH ?_ | refine aQ ?_ | refine bI ?_ | refine aX ?_ | refine aZ ?_ | refine aE (b := true) rfl (fun _ => ?_) nTf | refine aE (b := false) rfl nFt (fun _ => ?_)) | (refine aM ?_;  first | refine bA ?_) | (refine aW ?_;  first | refine bS ?_))
            all_goals first
              | exact absurd rfl (by assumption)
              | (exfalso; omega)
              | exact ⟨⟨j + 1, hlt, hs1⟩, (by show kids.length - (j + 1) < kids.length - j; omega), (bW (by repeat' first | exact trivial | refine ⟨rfl, ?_⟩) (by repeat' first | exact trivial | refine ⟨rfl, ?_⟩))⟩
        · rw [if_pos h0] at hst
          rw [hst] at hR
          have hR : (Tree.nil, false, Q3) = R := by rw [if_pos h0] at hR; exact hR
          subst hR
          clear hset hstn hfn hst hcl
          repeat' (first | refine aG ?_ | (refine aI ?_;  first | refine aC tabOk rfl rfl rfl (nb rfl) rfl ?_ | (refine aK rfl rfl rfl (nb rfl) rfl rfl rfl (fun hq => ?_) (fun hq => ?_) <;> (first | (simp only [sD, sE, sB, sC, sN, sM, sT, sF] at hq; try (exfalso; omega)) | skip)) | refine aD rfl rfl (nb rfl) rfl rfl rfl rfl (hc) ?_ | refine bH tabOk rfl rfl rfl (nb rfl) rfl rfl rfl rfl (by first | assumption | omega) ?_ | refine bO tabOk rfl rfl rfl (nb rfl) rfl rfl rfl (by assumption) ?_) | (refine aN ?_;  first | refine aH ?_ | refine aQ ?_ | refine aX ?_ | refine aT ?_ | refine aZ ?_ | refine aE (b := true) rfl (fun _ => ?_) nTf) | (refine aM ?_;  first | refine bA ?_ | refine aV ?_) | (refine aW ?_;  first | refine bD ?_))
          all_goals first
            | exact absurd (by assumption) h0
            | (exfalso; omega)
            | (refine cM ?_; refine aU (by first | exact .inl rfl | exact .inr rfl) (eQ rfl (aA rfl) (aA rfl) (aA rfl)) rfl ?_; rfl)
      · have ej : j = kids.length := by omega
        subst ej
        rw [List.drop_length] at hst
        have hs1 : stepPs kids = (0 + kids.length, .nil, false, 0) := hst
        rw [hs1] at hR
        have hR : (Tree.nil, false, (0 : Int)) = R := by simpa using hR
        subst hR
        clear hind
        repeat' (first | refine aG ?_ | (refine aI ?_;  first | refine aC tabOk rfl rfl rfl (nb rfl) rfl ?_ | (refine aK rfl rfl rfl (nb rfl) rfl rfl rfl (fun hq => ?_) (fun hq => ?_) <;> (first | (simp only [sD, sE, sB, sC, sN, sM, sT, sF] at hq; try (exfalso; omega)) | skip))) | (refine aN ?_;  first | refine aH ?_ | refine aQ ?_ | refine aT ?_ | refine bY ?_ | refine aE (b := false) rfl nFt (fun _ => ?_)) | (refine aM ?_;  first | refine bA ?_ | refine bN ?_) | (refine aW ?_;  first | refine bJ ?_))
        all_goals first
          | (exfalso; omega)
          | (refine cM ?_; refine aU (by first | exact .inl rfl | exact .inr rfl) (eQ rfl (aA rfl) (aA rfl) (aA rfl)) rfl ?_; rfl)
end Go.Proofs.YtocaohipfiapkaaGreat.Ab
namespace Go.Proofs.YtocaohipfiapkaaGreat.Ab
set_option linter.unusedVariables false
set_option linter.unusedSimpArgs false
attribute [local irreducible] AWP AOps AExit AThen ABlock ANoGoto FeetOk
def StepP (t : Tree) : Tree × Bool × Int := if checkP isConP t = 0 then stepP t else (.nil, false, checkP isConP t)
set_option maxHeartbeats 4000000 in
set_option maxRecDepth 10000 in
theorem aCi (t : Tree) (hs : t.size ≤ 100000000) : ACalls Tryz.prog 45 [.imm t.iv] [] (.imm (.tup [(StepP t).1.iv, .lit (.bool (StepP t).2.1), .lit (.int .i64 (StepP t).2.2)])) [] := by
  have c1 := eM t hs
  unfold StepP
  by_cases hc : checkP isConP t = 0
  · rw [if_pos hc]
    rw [hc] at c1
    obtain ⟨hw, hz, hf⟩ := bQ hc
    have c2 := aCh t hw (wQ t hf) (by omega)
    generalize stepP t = S at *
    obtain ⟨S1, S2, S3⟩ := S
    dsimp only at *
    refine aJ Tryz.func45 rfl rfl (nb rfl) rfl ?_
    repeat' (first | refine aG ?_ | (refine aI ?_;  first | refine aC tabOk rfl rfl rfl (nb rfl) rfl ?_ | (refine aK rfl rfl rfl (nb rfl) rfl rfl rfl (fun hq => ?_) (fun hq => ?_) <;> (first | (simp only [sD, sE, sB, sC, sN, sM, sT, sF] at hq; try (exfalso; omega)) | skip)) | refine aD rfl rfl (nb rfl) rfl rfl rfl rfl (c1) ?_ | refine aD rfl rfl (nb rfl) rfl rfl rfl rfl (c2) ?_) | (refine aN ?_;  first | refine aH ?_ | refine aQ ?_ | refine aT ?_ | refine aZ ?_ | refine aE (b := false) rfl nFt (fun _ => ?_)) | (refine aM ?_;  first | refine bA ?_))
    all_goals first
      | exact absurd rfl (by assumption)
      | (refine aU (by first | exact .inl rfl | exact .inr rfl) (eQ rfl (aA rfl) (aA rfl) (aA rfl)) rfl ?_; rfl)
  · rw [if_neg hc]
    generalize checkP isConP t = C at *
    refine aJ Tryz.func45 rfl rfl (nb rfl) rfl ?_
    repeat' (first | refine aG ?_ | (refine aI ?_;  first | refine aC tabOk rfl rfl rfl (nb rfl) rfl ?_ | (refine aK rfl rfl rfl (nb rfl) rfl rfl rfl (fun hq => ?_) (fun hq => ?_) <;> (first | (simp only [sD, sE, sB, sC, sN, sM, sT, sF] at hq; try (exfalso; omega)) | skip)) | refine aD rfl rfl (nb rfl) rfl rfl rfl rfl (c1) ?_) | (refine aN ?_;  first | refine aH ?_ | refine aQ ?_ | refine aT ?_ | refine aE (b := true) rfl (fun _ => ?_) nTf) | (refine aM ?_;  first | refine aV ?_))
    all_goals first
      | exact absurd (by assumption) hc
      | (refine aU (by first | exact .inl rfl | exact .inr rfl) (eQ rfl (aA rfl) (aA rfl) (aA rfl)) rfl ?_; rfl)
theorem wR (t : Tree) (h1 : (StepP t).2.1 = true) (h2 : (StepP t).2.2 = 0) : (StepP t).1.whole = true ∧ (StepP t).1.size ≤ 131072 := by
  unfold StepP at h1 h2 ⊢
  by_cases hc : checkP isConP t = 0
  · rw [if_pos hc] at h1 h2 ⊢
    obtain ⟨hw, hz, hf⟩ := bQ hc
    have := pA t hw h1 h2
    exact ⟨this.1, by omega⟩
  · rw [if_neg hc] at h1; cases h1
/-- A normal form, with so many steps at most. -/
def normalP : Nat → Tree → Tree × Int
  | 0, t => if (StepP t).2.2 ≠ 0 then (.nil, (StepP t).2.2) else if (StepP t).2.1 = true then (.nil, 18) else (t, 0)
  | f + 1, t => if (StepP t).2.2 ≠ 0 then (.nil, (StepP t).2.2) else if (StepP t).2.1 = true then normalP f (StepP t).1 else (t, 0)
set_option maxHeartbeats 8000000 in
set_option maxRecDepth 10000 in
theorem pB (t : Tree) (hs : t.size ≤ 100000000) : ACalls Tryz.prog 28 [.imm t.iv] [] (.imm (.tup [(normalP 1000 t).1.iv, .lit (.int .i64 (normalP 1000 t).2)])) [] := by
  generalize hR : normalP 1000 t = R
  refine aJ Tryz.func28 rfl rfl (nb rfl) rfl ?_
  repeat' (first | refine aG ?_ | (refine aI ?_;  first | refine aC tabOk rfl rfl rfl (nb rfl) rfl ?_) | (refine aN ?_;  first | refine aH ?_ | refine aQ ?_ | refine aX ?_))
  refine cH (ι := {x : Nat × Nat × Tree // x.1 + x.2.1 = 1000 ∧ x.2.2.size ≤ 100000000 ∧ normalP x.2.1 x.2.2 = R}) (fun x => S.f ⟨[(10, .imm (.lit (.int .i64 (x.1.1 : Int)))), (0, .imm x.1.2.2.iv)], []⟩) (fun x => 1000 - x.1.1) ⟨(0, 1000, t), rfl, hs, hR⟩ (bW (by repeat' first | exact trivial | refine ⟨rfl, ?_⟩) (by repeat' first | exact trivial | refine ⟨rfl, ?_⟩)) ?_
  clear hR hs
  rintro ⟨⟨i, f, t⟩, hif, hs, hR⟩
  have hif : i + f = 1000 := hif
  have hs : t.size ≤ 100000000 := hs
  have hR : normalP f t = R := hR
  dsimp only
  have c1 := aCi t hs
  have hfn := wR t
  by_cases hlt : i < 1000
  · obtain ⟨f, rfl⟩ : ∃ f', f = f' + 1 := ⟨f - 1, by omega⟩
    rw [normalP] at hR
    generalize StepP t = S at *
    obtain ⟨S1, S2, S3⟩ := S
    dsimp only at *
    by_cases h0 : S3 = 0
    · subst h0
      rw [if_neg (by simp)] at hR
      cases S2 with
      | true =>
        rw [if_pos rfl] at hR
        have h1 := hfn rfl rfl
        repeat' (first | refine aG ?_ | (refine aI ?_;  first | refine aC tabOk rfl rfl rfl (nb rfl) rfl ?_ | (refine aK rfl rfl rfl (nb rfl) rfl rfl rfl (fun hq => ?_) (fun hq => ?_) <;> (first | (simp only [sD, sE, sB, sC, sN, sM, sT, sF] at hq; try (exfalso; omega)) | skip)) | refine aD rfl rfl (nb rfl) rfl rfl rfl rfl (c1) ?_ | refine bX rfl rfl rfl (nb rfl) rfl rfl (by omega) ?_) | (refine aN ?_;  first | refine aH ?_ | refine aQ ?_ | refine bI ?_ | refine aX ?_ | refine aZ ?_ | refine aE (b := true) rfl (fun _ => ?_) nTf | refine aE (b := false) rfl nFt (fun _ => ?_)) | (refine aM ?_;  first | refine bA ?_) | (refine aW ?_;  first | refine bS ?_))
        all_goals first
          | exact absurd rfl (by assumption)
          | (exfalso; omega)
          | exact ⟨⟨(i + 1, f, S1), by dsimp only; omega, by dsimp only; omega, hR⟩, (by show 1000 - (i + 1) < 1000 - i; omega), (bW (by repeat' first | exact trivial | refine ⟨rfl, ?_⟩) (by repeat' first | exact trivial | refine ⟨rfl, ?_⟩))⟩
      | false =>
        rw [if_neg (by simp)] at hR
        subst hR
        repeat' (first | refine aG ?_ | (refine aI ?_;  first | refine aC tabOk rfl rfl rfl (nb rfl) rfl ?_ | (refine aK rfl rfl rfl (nb rfl) rfl rfl rfl (fun hq => ?_) (fun hq => ?_) <;> (first | (simp only [sD, sE, sB, sC, sN, sM, sT, sF] at hq; try (exfalso; omega)) | skip)) | refine aD rfl rfl (nb rfl) rfl rfl rfl rfl (c1) ?_) | (refine aN ?_;  first | refine aH ?_ | refine aQ ?_ | refine aX ?_ | refine aT ?_ | refine aZ ?_ | refine aE (b := true) rfl (fun _ => ?_) nTf | refine aE (b := false) rfl nFt (fun _ => ?_)) | (refine aM ?_;  first | refine bA ?_ | refine aV ?_) | (refine aW ?_;  first | refine bD ?_))
        all_goals first
          | exact absurd rfl (by assumption)
          | (exfalso; omega)
          | (refine aU (by first | exact .inl rfl | exact .inr rfl) (bB rfl (aA rfl) (aA rfl)) rfl ?_; rfl)
    · rw [if_pos h0] at hR
      subst hR
      repeat' (first | refine aG ?_ | (refine aI ?_;  first | refine aC tabOk rfl rfl rfl (nb rfl) rfl ?_ | (refine aK rfl rfl rfl (nb rfl) rfl rfl rfl (fun hq => ?_) (fun hq => ?_) <;> (first | (simp only [sD, sE, sB, sC, sN, sM, sT, sF] at hq; try (exfalso; omega)) | skip)) | refine aD rfl rfl (nb rfl) rfl rfl rfl rfl (c1) ?_) | (refine aN ?_;  first | refine aH ?_ | refine aQ ?_ | refine aX ?_ | refine aT ?_ | refine aZ ?_ | refine aE (b := true) rfl (fun _ => ?_) nTf) | (refine aM ?_;  first | refine bA ?_ | refine aV ?_) | (refine aW ?_;  first | refine bD ?_))
      all_goals first
        | exact absurd (by assumption) h0
        | exact absurd rfl (by assumption)
        | (exfalso; omega)
        | (refine aU (by first | exact .inl rfl | exact .inr rfl) (bB rfl (aA rfl) (aA rfl)) rfl ?_; rfl)
  · have e0 : f = 0 := by omega
    subst e0
    rw [normalP] at hR
    generalize StepP t = S at *
    obtain ⟨S1, S2, S3⟩ := S
    dsimp only at *
    by_cases h0 : S3 = 0
    · subst h0
      rw [if_neg (by simp)] at hR
      cases S2 with
      | true =>
        rw [if_pos rfl] at hR
        subst hR
        repeat' (first | refine aG ?_ | (refine aI ?_;  first | refine aC tabOk rfl rfl rfl (nb rfl) rfl ?_ | (refine aK rfl rfl rfl (nb rfl) rfl rfl rfl (fun hq => ?_) (fun hq => ?_) <;> (first | (simp only [sD, sE, sB, sC, sN, sM, sT, sF] at hq; try (exfalso; omega)) | skip)) | refine aD rfl rfl (nb rfl) rfl rfl rfl rfl (c1) ?_) | (refine aN ?_;  first | refine aH ?_ | refine aQ ?_ | refine aX ?_ | refine aT ?_ | refine bY ?_ | refine aE (b := true) rfl (fun _ => ?_) nTf | refine aE (b := false) rfl nFt (fun _ => ?_)) | (refine aM ?_;  first | refine bA ?_ | refine bN ?_ | refine aV ?_) | (refine aW ?_;  first | refine bJ ?_ | refine bD ?_))
        all_goals first
          | exact absurd rfl (by assumption)
          | (exfalso; omega)
          | (refine aU (by first | exact .inl rfl | exact .inr rfl) (bB rfl (aA rfl) (aA rfl)) rfl ?_; rfl)
      | false =>
        rw [if_neg (by simp)] at hR
        subst hR
        repeat' (first | refine aG ?_ | (refine aI ?_;  first | refine aC tabOk rfl rfl rfl (nb rfl) rfl ?_ | (refine aK rfl rfl rfl (nb rfl) rfl rfl rfl (fun hq => ?_) (fun hq => ?_) <;> (first | (simp only [sD, sE, sB, sC, sN, sM, sT, sF] at hq; try (exfalso; omega)) | skip)) | refine aD rfl rfl (nb rfl) rfl rfl rfl rfl (c1) ?_) | (refine aN ?_;  first | refine aH ?_ | refine aQ ?_ | refine aX ?_ | refine aT ?_ | refine bY ?_ | refine aZ ?_ | refine aE (b := false) rfl nFt (fun _ => ?_)) | (refine aM ?_;  first | refine bA ?_ | refine bN ?_) | (refine aW ?_;  first | refine bS ?_ | refine bJ ?_))
        all_goals first
          | exact absurd rfl (by assumption)
          | (exfalso; omega)
          | (refine aU (by first | exact .inl rfl | exact .inr rfl) (bB rfl (aA rfl) (aA rfl)) rfl ?_; rfl)
    · rw [if_pos h0] at hR
      subst hR
      repeat' (first | refine aG ?_ | (refine aI ?_;  first | refine aC tabOk rfl rfl rfl (nb rfl) rfl ?_ | (refine aK rfl rfl rfl (nb rfl) rfl rfl rfl (fun hq => ?_) (fun hq => ?_) <;> (first | (simp only [sD, sE, sB, sC, sN, sM, sT, sF] at hq; try (exfalso; omega)) | skip)) | refine aD rfl rfl (nb rfl) rfl rfl rfl rfl (c1) ?_) | (refine aN ?_;  first | refine aH ?_ | refine aQ ?_ | refine aX ?_ | refine aT ?_ | refine bY ?_ | refine aE (b := true) rfl (fun _ => ?_) nTf | refine aE (b := false) rfl nFt (fun _ => ?_)) | (refine aM ?_;  first | refine bA ?_ | refine bN ?_ | refine aV ?_) | (refine aW ?_;  first | refine bJ ?_ | refine bD ?_))
      all_goals first
        | exact absurd (by assumption) h0
        | exact absurd rfl (by assumption)
        | (exfalso; omega)
        | (refine aU (by first | exact .inl rfl | exact .inr rfl) (bB rfl (aA rfl) (aA rfl)) rfl ?_; rfl)
/-- A normal form is a constructor that makes no step. -/
theorem pD : ∀ (f : Nat) (t : Tree), (normalP f t).2 = 0 → StepP (normalP f t).1 = (.nil, false, 0) ∨ (StepP (normalP f t).1).2 = (false, 0)
  | 0, t, h => by
    rw [normalP] at h ⊢
    split at h
    · rename_i h0; exact absurd h h0
    · rename_i h0
      rw [if_neg h0]
      split at h
      · cases h
      · rename_i h1
        rw [if_neg h1]
        right
        exact Prod.ext (by simpa using h1) (by simpa using h0)
  | f + 1, t, h => by
    rw [normalP] at h ⊢
    split at h
    · rename_i h0; exact absurd h h0
    · rename_i h0
      rw [if_neg h0]
      split at h
      · rename_i h1
        rw [if_pos h1]
        exact pD f _ h
      · rename_i h1
        rw [if_neg h1]
        right
        exact Prod.ext (by simpa using h1) (by simpa using h0)
theorem sZ {t : Tree} (h : (StepP t).2 = (false, 0)) (f : Nat) : normalP f t = (t, 0) := by
  have h1 : (StepP t).2.2 = 0 := by rw [h]
  have h2 : (StepP t).2.1 = false := by rw [h]
  cases f <;> rw [normalP, if_neg (by simpa using h1), if_neg (by simp [h2])]
theorem tA (f g : Nat) (t : Tree) (h : (normalP f t).2 = 0) : (StepP (normalP f t).1).2 = (false, 0) ∧ normalP g (normalP f t).1 = ((normalP f t).1, 0) := by
  have h1 : (StepP (normalP f t).1).2 = (false, 0) := by
    rcases pD f t h with e | e
    · rw [e]
    · exact e
  exact ⟨h1, sZ h1 g⟩
end Go.Proofs.YtocaohipfiapkaaGreat.Ab
namespace Go.Proofs.YtocaohipfiapkaaGreat.Ab
set_option linter.unusedVariables false
set_option linter.unusedSimpArgs false
attribute [local irreducible] AWP AOps AExit AThen ABlock ANoGoto FeetOk
end Go.Proofs.YtocaohipfiapkaaGreat.Ab
namespace Go.Proofs.YtocaohipfiapkaaGreat.Ab
set_option linter.unusedVariables false
set_option linter.unusedSimpArgs false
attribute [local irreducible] AWP AOps AExit AThen ABlock ANoGoto FeetOk
end Go.Proofs.YtocaohipfiapkaaGreat.Ab
namespace Go.Proofs.YtocaohipfiapkaaGreat.Ab
set_option linter.unusedVariables false
set_option linter.unusedSimpArgs false
attribute [local irreducible] AWP AOps AExit AThen ABlock ANoGoto FeetOk
/-- slices.IndexFunc, of trees, by a function over one variable. -/
def findP (R : Tree → Bool) : List Tree → Nat → Int
  | [], _ => -1
  | t :: ts, j => if R t then (j : Int) else findP R ts (j + 1)
theorem mI (R : Tree → Bool) : ∀ (l : List Tree) (j : Nat), (0 ≤ findP R l j ↔ l.any R = true)
  | [], _ => by simp [findP]
  | t :: ts, j => by
    rw [findP, List.any_cons]
    by_cases h : R t = true
    · rw [if_pos h, h]; simp
    · rw [if_neg h, mI R ts (j + 1)]; simp [h]
set_option maxHeartbeats 4000000 in
set_option maxRecDepth 10000 in
theorem tB (l : List Tree) (F : FuncId) (x : IV) (R : Tree → Bool) (hl : l.length < 1000000000)
    (hf : ∀ j (h : j < l.length), ACalls Tryz.prog F [.imm l[j].iv, .obj 1001 0] [(1001, .cells [.imm x])] (.imm (.lit (.bool (R l[j])))) [(1001, .cells [.imm x])]) :
    ACalls Tryz.prog 27 [.imm (.sl false l.length (Tree.ivs l)), .func F [] [.obj 1001 0]] [(1001, .cells [.imm x])] (.imm (.lit (.int .i64 (findP R l 0)))) [(1001, .cells [.imm x])] := by
  generalize hR : findP R l 0 = Q
  refine bZ [1001] Tryz.func27 rfl rfl (nb rfl) rfl rfl ?_
  repeat' (first | refine aG ?_ | (refine aI ?_;  first | refine aC tabOk rfl rfl rfl (nb rfl) rfl ?_ | refine aY tabOk rfl rfl (nb rfl) rfl ?_) | (refine aN ?_;  first | refine aH ?_ | refine aQ ?_ | refine aX ?_))
  refine cH (ι := {j : Nat // j ≤ l.length ∧ findP R (l.drop j) j = Q}) (fun j => S.f ⟨[(8, .imm (.lit (.int .i64 (j.1 : Int)))), (7, .imm (.lit (.int .i64 (l.length : Int)))), (0, .imm (.sl false l.length (Tree.ivs l))), (1, .func F [] [.obj 1001 0])], [(1001, .cells [.imm x])]⟩) (fun j => l.length - j.1) ⟨0, Nat.zero_le _, hR⟩ (bW (by repeat' first | exact trivial | refine ⟨rfl, ?_⟩) (by repeat' first | exact trivial | refine ⟨rfl, ?_⟩)) ?_
  clear hR
  rintro ⟨j, hj, hR⟩
  dsimp only
  by_cases hlt : j < l.length
  · have hget := cS l j hlt
    have hc := hf j hlt
    rw [List.drop_eq_getElem_cons hlt, findP] at hR
    cases hRj : R l[j] with
    | true =>
      rw [hRj] at hc hR
      rw [if_pos rfl] at hR
      subst hR
      repeat' (first | refine aG ?_ | (refine aI ?_;  first | refine aC tabOk rfl rfl rfl (nb rfl) rfl ?_ | (refine aK rfl rfl rfl (nb rfl) rfl rfl rfl (fun hq => ?_) (fun hq => ?_) <;> (first | (simp only [sD, sE, sB, sC, sN, sM, sT, sF] at hq; try (exfalso; omega)) | skip)) | refine cD rfl rfl (nb rfl) rfl rfl rfl rfl hc (by repeat' first | exact trivial | refine ⟨rfl, ?_⟩) rfl (by show ([1001] : List Nat).Nodup; decide) ?_ | refine bH tabOk rfl rfl rfl (nb rfl) rfl rfl rfl rfl (by first | assumption | omega) ?_ | refine bO tabOk rfl rfl rfl (nb rfl) rfl rfl rfl (by assumption) ?_) | (refine aN ?_;  first | refine aH ?_ | refine aQ ?_ | refine aX ?_ | refine aT ?_ | refine aZ ?_ | refine aE (b := true) rfl (fun _ => ?_) nTf) | (refine aM ?_;  first | refine bA ?_ | refine aV ?_) | (refine aW ?_;  first | refine bD ?_))
      all_goals first
        | (exfalso; omega)
        | (refine cG (cF (by first | exact .inl rfl | exact .inr rfl) (bC rfl (aA rfl)) rfl (by repeat' first | exact trivial | refine ⟨rfl, ?_⟩) rfl ?_); rfl)
    | false =>
      rw [hRj] at hc hR
      rw [if_neg (by simp)] at hR
      repeat' (first | refine aG ?_ | (refine aI ?_;  first | refine aC tabOk rfl rfl rfl (nb rfl) rfl ?_ | (refine aK rfl rfl rfl (nb rfl) rfl rfl rfl (fun hq => ?_) (fun hq => ?_) <;> (first | (simp only [sD, sE, sB, sC, sN, sM, sT, sF] at hq; try (exfalso; omega)) | skip)) | refine cD rfl rfl (nb rfl) rfl rfl rfl rfl hc (by repeat' first | exact trivial | refine ⟨rfl, ?_⟩) rfl (by show ([1001] : List Nat).Nodup; decide) ?_ | refine bX rfl rfl rfl (nb rfl) rfl rfl (by omega) ?_ | refine bH tabOk rfl rfl rfl (nb rfl) rfl rfl rfl rfl (by first | assumption | omega) ?_ | refine bO tabOk rfl rfl rfl (nb rfl) rfl rfl rfl (by assumption) ?_) | (refine aN ?_;  first | refine aH ?_ | refine aQ ?_ | refine bI ?_ | refine aX ?_ | refine aZ ?_ | refine aE (b := true) rfl (fun _ => ?_) nTf | refine aE (b := false) rfl nFt (fun _ => ?_)) | (refine aM ?_;  first | refine bA ?_) | (refine aW ?_;  first | refine bS ?_))
      all_goals first
        | (exfalso; omega)
        | exact ⟨⟨j + 1, hlt, hR⟩, (by show l.length - (j + 1) < l.length - j; omega), (bW (by repeat' first | exact trivial | refine ⟨rfl, ?_⟩) (by repeat' first | exact trivial | refine ⟨rfl, ?_⟩))⟩
  · have ej : j = l.length := by omega
    subst ej
    rw [List.drop_length, findP] at hR
    subst hR
    repeat' (first | refine aG ?_ | (refine aI ?_;  first | refine aC tabOk rfl rfl rfl (nb rfl) rfl ?_ | (refine aK rfl rfl rfl (nb rfl) rfl rfl rfl (fun hq => ?_) (fun hq => ?_) <;> (first | (simp only [sD, sE, sB, sC, sN, sM, sT, sF] at hq; try (exfalso; omega)) | skip))) | (refine aN ?_;  first | refine aH ?_ | refine aQ ?_ | refine aT ?_ | refine bY ?_ | refine aE (b := false) rfl nFt (fun _ => ?_)) | (refine aM ?_;  first | refine bA ?_ | refine bN ?_) | (refine aW ?_;  first | refine bJ ?_))
    all_goals first
      | (exfalso; omega)
      | (refine cG (cF (by first | exact .inl rfl | exact .inr rfl) (bC rfl (aA rfl)) rfl (by repeat' first | exact trivial | refine ⟨rfl, ?_⟩) rfl ?_); rfl)
set_option maxHeartbeats 4000000 in
set_option maxRecDepth 10000 in
theorem iS (l : List Tree) (F : FuncId) (x : IV) (R : Tree → Bool) (hl : l.length < 1000000000)
    (hf : ∀ j (h : j < l.length), ACalls Tryz.prog F [.imm l[j].iv, .obj 1001 0] [(1001, .cells [.imm x])] (.imm (.lit (.bool (R l[j])))) [(1001, .cells [.imm x])]) :
    ACalls Tryz.prog 16 [.imm (.sl false l.length (Tree.ivs l)), .func F [] [.obj 1001 0]] [(1001, .cells [.imm x])] (.imm (.lit (.bool (l.any R)))) [(1001, .cells [.imm x])] := by
  have hc := tB l F x R hl hf
  have ha := mI R l 0
  generalize findP R l 0 = Q at *
  refine bZ [1001] Tryz.func16 rfl rfl (nb rfl) rfl rfl ?_
  repeat' (first | refine aG ?_ | (refine aI ?_;  first | refine aC tabOk rfl rfl rfl (nb rfl) rfl ?_ | (refine aK rfl rfl rfl (nb rfl) rfl rfl rfl (fun hq => ?_) (fun hq => ?_) <;> (first | (simp only [sD, sE, sB, sC, sN, sM, sT, sF] at hq; try (exfalso; omega)) | skip)) | refine cD rfl rfl (nb rfl) rfl rfl rfl rfl hc (by repeat' first | exact trivial | refine ⟨rfl, ?_⟩) rfl (by show ([1001] : List Nat).Nodup; decide) ?_) | (refine aN ?_;  first | refine aH ?_ | refine aT ?_))
  all_goals
    (have e : l.any R = decide (Q ≥ 0) := by
       cases h : l.any R with
       | true => exact (decide_eq_true (ha.2 h)).symm
       | false => exact (decide_eq_false (fun hq => by rw [ha.1 hq] at h; cases h)).symm
     rw [e]
     refine cG (cF (by first | exact .inl rfl | exact .inr rfl) (bC rfl (aA rfl)) rfl (by repeat' first | exact trivial | refine ⟨rfl, ?_⟩) rfl ?_); refine cR ?_; first | exact (decide_eq_true (by assumption)).symm | exact (decide_eq_false (by assumption)).symm)
end Go.Proofs.YtocaohipfiapkaaGreat.Ab
namespace Go.Proofs.YtocaohipfiapkaaGreat.Ab
set_option linter.unusedVariables false
set_option linter.unusedSimpArgs false
attribute [local irreducible] AWP AOps AExit AThen ABlock ANoGoto FeetOk
set_option maxRecDepth 10000 in
theorem pE (s : ByteArray) : ACalls Tryz.prog 36 [.imm (.lit (.string s))] [] (.imm (.lit (.bool (labelP s)))) [] := by
  refine aJ Tryz.func36 rfl rfl (nb rfl) rfl ?_
  repeat' (first | refine aG ?_ | (refine aI ?_;  first | refine aC tabOk rfl rfl rfl (nb rfl) rfl ?_ | refine cA rfl rfl (nb rfl) ?_ | (refine aK rfl rfl rfl (nb rfl) rfl rfl rfl (fun hq => ?_) (fun hq => ?_) <;> (first | (simp only [sD, sE, sB, sC, sN, sM, sT, sF] at hq; try (exfalso; omega)) | skip)) | refine aY tabOk rfl rfl (nb rfl) rfl ?_) | (refine aN ?_;  first | refine aH ?_ | refine aT ?_))
  all_goals (refine aU (by first | exact .inl rfl | exact .inr rfl) (bC rfl (aA rfl)) rfl ?_; refine cR ?_; simp_all [labelP] <;> omega)
def numberP (k n : Int) : Bool :=
  if k = 130 then decide (n ≥ 0) && decide (n ≤ 65536)
  else if k = 131 then decide (n ≥ -1073741824) && decide (n ≤ 1073741824)
  else if k = 132 then (n == 0) || (n == 1)
  else if k = 145 then decide (n ≥ 1) && decide (n ≤ 5)
  else n == 0
set_option maxHeartbeats 4000000 in
set_option maxRecDepth 10000 in
theorem wS (k n : Int) (a b : ByteArray) (kids : List Tree) : ACalls Tryz.prog 37 [.imm (Tree.iv (.node k n a b kids))] [] (.imm (.lit (.bool (numberP k n)))) [] := by
  refine aJ Tryz.func37 rfl rfl (nb rfl) rfl ?_
  repeat' (first | refine aG ?_ | (refine aI ?_;  first | refine aC tabOk rfl rfl rfl (nb rfl) rfl ?_ | refine cA rfl rfl (nb rfl) ?_ | (refine aK rfl rfl rfl (nb rfl) rfl rfl rfl (fun hq => ?_) (fun hq => ?_) <;> (first | (simp only [sD, sE, sB, sC, sN, sM, sT, sF] at hq; try (exfalso; omega)) | skip))) | (refine aN ?_;  first | refine aH ?_ | refine aQ ?_ | refine aX ?_ | refine aT ?_ | refine aZ ?_ | refine aE (b := true) rfl (fun _ => ?_) nTf | refine aE (b := false) rfl nFt (fun _ => ?_)) | (refine aM ?_;  first | refine bA ?_ | refine aV ?_) | (refine aW ?_;  first | refine bS ?_ | refine bD ?_))
  all_goals (refine aU (by first | exact .inl rfl | exact .inr rfl) (bC rfl (aA rfl)) rfl ?_; refine cR ?_; first | (simp_all [numberP]; done) | (simp_all [numberP]; omega))
def tconP (t : Tree) : Bool := checkP isConP t == 0
def tkindP (t : Tree) : Bool := checkP isKindP t == 0
set_option maxRecDepth 10000 in
theorem aAG (t : Tree) (hs : t.size ≤ 100000000) : ACalls Tryz.prog 39 [.imm t.iv] [] (.imm (.lit (.bool (tconP t)))) [] := by
  refine aJ Tryz.func39 rfl rfl (nb rfl) rfl ?_
  repeat' (first | refine aG ?_ | (refine aI ?_;  first | refine aC tabOk rfl rfl rfl (nb rfl) rfl ?_ | (refine aK rfl rfl rfl (nb rfl) rfl rfl rfl (fun hq => ?_) (fun hq => ?_) <;> (first | (simp only [sD, sE, sB, sC, sN, sM, sT, sF] at hq; try (exfalso; omega)) | skip)) | (refine oO rfl rfl rfl (nb rfl) rfl rfl rfl (eM t hs) (fun q hq => ?_))) | (refine aN ?_;  first | refine aH ?_ | refine aT ?_))
  all_goals (refine aU (by first | exact .inl rfl | exact .inr rfl) (bC rfl (aA rfl)) rfl ?_; refine cR ?_; simp_all [tconP])
set_option maxRecDepth 10000 in
theorem zF (t : Tree) (hs : t.size ≤ 100000000) : ACalls Tryz.prog 40 [.imm t.iv] [] (.imm (.lit (.bool (tkindP t)))) [] := by
  refine aJ Tryz.func40 rfl rfl (nb rfl) rfl ?_
  repeat' (first | refine aG ?_ | (refine aI ?_;  first | refine aC tabOk rfl rfl rfl (nb rfl) rfl ?_ | (refine aK rfl rfl rfl (nb rfl) rfl rfl rfl (fun hq => ?_) (fun hq => ?_) <;> (first | (simp only [sD, sE, sB, sC, sN, sM, sT, sF] at hq; try (exfalso; omega)) | skip)) | (refine oO rfl rfl rfl (nb rfl) rfl rfl rfl (oX t hs) (fun q hq => ?_))) | (refine aN ?_;  first | refine aH ?_ | refine aT ?_))
  all_goals (refine aU (by first | exact .inl rfl | exact .inr rfl) (bC rfl (aA rfl)) rfl ?_; refine cR ?_; simp_all [tkindP])
/-- The first kids are of these forms, one after the other. -/
def formsP : List (FuncId × (Tree → Bool)) → List Tree → Bool
  | p :: ps, t :: ts => p.2 t && formsP ps ts
  | [], _ => true
  | _ :: _, [] => false
theorem kX : ∀ (fs : List (FuncId × (Tree → Bool))) (l : List Tree), fs.length ≤ l.length → (formsP fs l = true ↔ ∀ i (hi : i < fs.length) (hk : i < l.length), fs[i].2 l[i] = true)
  | [], l, _ => by simp [formsP]
  | p :: ps, [], h => by simp at h
  | p :: ps, t :: ts, h => by
    rw [formsP, Bool.and_eq_true, kX ps ts (by simpa using h)]
    constructor
    · rintro ⟨h1, h2⟩ i hi hk
      cases i with
      | zero => exact h1
      | succ i => exact h2 i (by simpa using hi) (by simpa using hk)
    · intro h
      exact ⟨h 0 (by simp) (by simp), fun i hi hk => h (i + 1) (by simpa using hi) (by simpa using hk)⟩
def kidsP (kids : List Tree) (more : Bool) (fs : List (FuncId × (Tree → Bool))) : Bool := decide (fs.length ≤ kids.length) && (more || decide (kids.length ≤ fs.length)) && formsP fs kids
def fsIv (fs : List (FuncId × (Tree → Bool))) : List IV := fs.map fun p => .func p.1 [] []
theorem aAH (fs : List (FuncId × (Tree → Bool))) (i : Nat) (h : i < fs.length) : (fsIv fs)[i * 1]? = some (.func fs[i].1 [] []) := by simp [fsIv, h]
set_option maxHeartbeats 4000000 in
set_option maxRecDepth 10000 in
theorem eZ (k n : Int) (a b : ByteArray) (kids : List Tree) (more : Bool) (fs : List (FuncId × (Tree → Bool))) (hlen : fs.length < 1000) (hl : kids.length < 1000000000)
    (hf : ∀ i (hi : i < fs.length) (hk : i < kids.length), ACalls Tryz.prog fs[i].1 [.imm kids[i].iv] [] (.imm (.lit (.bool (fs[i].2 kids[i])))) []) :
    ACalls Tryz.prog 38 [.imm (Tree.iv (.node k n a b kids)), .imm (.lit (.bool more)), .imm (.sl true fs.length (fsIv fs))] [] (.imm (.lit (.bool (kidsP kids more fs)))) [] := by
  refine aJ Tryz.func38 rfl rfl (nb rfl) rfl ?_
  repeat' (first | refine aG ?_ | (refine aI ?_;  first | refine aC tabOk rfl rfl rfl (nb rfl) rfl ?_ | refine cA rfl rfl (nb rfl) ?_ | (refine aK rfl rfl rfl (nb rfl) rfl rfl rfl (fun hq => ?_) (fun hq => ?_) <;> (first | (simp only [sD, sE, sB, sC, sN, sM, sT, sF] at hq; try (exfalso; omega)) | skip)) | refine aY tabOk rfl rfl (nb rfl) rfl ?_ | ((fail_if_success (refine gY (b := true) rfl rfl rfl ?_)); (fail_if_success (refine gY (b := false) rfl rfl rfl ?_)); refine kU rfl rfl rfl (fun hq => ?_) (fun hq => ?_) <;> first | subst hq | (first | (simp only [sD, sE, sB, sC, sN, sM, sT, sF] at hq; try (exfalso; omega)) | skip))) | (refine aN ?_;  first | refine aH ?_ | refine aQ ?_ | refine aX ?_ | refine aT ?_ | refine aZ ?_ | refine aE (b := true) rfl (fun _ => ?_) nTf | refine aE (b := false) rfl nFt (fun _ => ?_)) | (refine aM ?_;  first | refine bA ?_ | refine aV ?_))
  · refine aU (by first | exact .inl rfl | exact .inr rfl) (bC rfl (aA rfl)) rfl ?_; refine cR ?_; simp_all [kidsP]; omega
  · refine aU (by first | exact .inl rfl | exact .inr rfl) (bC rfl (aA rfl)) rfl ?_; refine cR ?_; simp_all [kidsP]; omega
  all_goals
    have hle : fs.length ≤ kids.length := by omega
    have hmore : (more || decide (kids.length ≤ fs.length)) = true := by simp_all; try omega
    refine cH (ι := {j : Nat // j ≤ fs.length ∧ ∀ i (hi : i < fs.length) (hk : i < kids.length), i < j → fs[i].2 kids[i] = true}) (fun j => S.f ⟨[(33, .imm (.lit (.int .i64 (j.1 : Int)))), (32, .imm (.lit (.int .i64 (fs.length : Int)))), (31, .imm (.sl true fs.length (fsIv fs))), (0, .imm (Tree.iv (.node k n a b kids)))], []⟩) (fun j => fs.length - j.1) ⟨0, Nat.zero_le _, fun i _ _ hi => absurd hi (Nat.not_lt_zero _)⟩ (bW (by repeat' first | exact trivial | refine ⟨rfl, ?_⟩) (by repeat' first | exact trivial | refine ⟨rfl, ?_⟩)) ?_
    rintro ⟨j, hj, hok⟩
    dsimp only
    by_cases hlt : j < fs.length
    · have hltk : j < kids.length := by omega
      repeat' (first | refine aG ?_ | (refine aI ?_;  first | refine aC tabOk rfl rfl rfl (nb rfl) rfl ?_ | (refine aK rfl rfl rfl (nb rfl) rfl rfl rfl (fun hq => ?_) (fun hq => ?_) <;> (first | (simp only [sD, sE, sB, sC, sN, sM, sT, sF] at hq; try (exfalso; omega)) | skip)) | refine bO tabOk rfl rfl rfl (nb rfl) rfl rfl rfl (aAH fs j hlt) ?_ | (refine cE rfl rfl rfl (nb rfl) rfl rfl rfl (hf j hlt hltk) (fun hq => ?_) (fun hq => ?_)) | refine bX rfl rfl rfl (nb rfl) rfl rfl (by omega) ?_ | refine bH tabOk rfl rfl rfl (nb rfl) rfl rfl rfl rfl (by first | assumption | omega) ?_ | refine bO tabOk rfl rfl rfl (nb rfl) rfl rfl rfl (cS _ _ (by first | assumption | omega)) ?_) | (refine aN ?_;  first | refine aH ?_ | refine aQ ?_ | refine bI ?_ | refine aX ?_ | refine aT ?_ | refine aZ ?_ | refine aE (b := true) rfl (fun _ => ?_) nTf | refine aE (b := false) rfl nFt (fun _ => ?_)) | (refine aM ?_;  first | refine bA ?_ | refine aV ?_) | (refine aW ?_;  first | refine bS ?_ | refine bD ?_))
      all_goals first
        | (have hq : fs[j].2 kids[j] = false := by assumption
           refine aU (by first | exact .inl rfl | exact .inr rfl) (bC rfl (aA rfl)) rfl ?_; refine cR ?_; symm; rw [Bool.eq_false_iff]; intro hc
           simp only [kidsP, Bool.and_eq_true] at hc
           have := (kX fs kids hle).1 hc.2 j hlt hltk
           rw [hq] at this; cases this; done)
        | (have hq : fs[j].2 kids[j] = true := by assumption
           exact ⟨⟨j + 1, hlt, fun i hi hk hij => by
             by_cases e : i = j
             · subst e; exact hq
             · exact hok i hi hk (by omega)⟩, (by show fs.length - (j + 1) < fs.length - j; omega), (bW (by repeat' first | exact trivial | refine ⟨rfl, ?_⟩) (by repeat' first | exact trivial | refine ⟨rfl, ?_⟩))⟩)
    · repeat' (first | refine aG ?_ | (refine aI ?_;  first | refine aC tabOk rfl rfl rfl (nb rfl) rfl ?_ | (refine aK rfl rfl rfl (nb rfl) rfl rfl rfl (fun hq => ?_) (fun hq => ?_) <;> (first | (simp only [sD, sE, sB, sC, sN, sM, sT, sF] at hq; try (exfalso; omega)) | skip))) | (refine aN ?_;  first | refine aH ?_ | refine aQ ?_ | refine aT ?_ | refine bY ?_ | refine aE (b := false) rfl nFt (fun _ => ?_)) | (refine aM ?_;  first | refine bA ?_ | refine bN ?_) | (refine aW ?_;  first | refine bJ ?_))
      all_goals (refine aU (by first | exact .inl rfl | exact .inr rfl) (bC rfl (aA rfl)) rfl ?_; refine cR ?_; simp only [kidsP, hmore, Bool.and_true]; rw [(kX fs kids hle).2 (fun i hi hk => hok i hi hk (by omega))]; simp [hle])
end Go.Proofs.YtocaohipfiapkaaGreat.Ab
namespace Go.Proofs.YtocaohipfiapkaaGreat.Ab
set_option linter.unusedVariables false
set_option linter.unusedSimpArgs false
/-- No name is ahead of the one before it. -/
def steadyP : List Tree → Bool
  | t :: u :: r => !(ltB u.name t.name) && steadyP (u :: r)
  | _ => true
theorem jJ : ∀ (l : List Tree), steadyP l = true ↔ ∀ i (hi : i + 1 < l.length), ltB l[i + 1].name (l[i]'(by omega)).name = false
  | [] => by simp [steadyP]
  | [x] => by simp [steadyP]
  | t :: u :: r => by
    rw [steadyP, Bool.and_eq_true, jJ (u :: r), Bool.not_eq_true']
    constructor
    · rintro ⟨h1, h2⟩ i hi
      cases i with
      | zero => simpa using h1
      | succ i => exact h2 i (by simpa using hi)
    · intro h
      exact ⟨h 0 (by simp), fun i hi => h (i + 1) (by simpa using hi)⟩
def namedK (k : Int) : Bool := k == 138 || k == 146
def headP (k n : Int) (a b : ByteArray) : Bool := eqB b emptyB && (namedK k == !(eqB a emptyB)) && (!(namedK k) || labelP a) && numberP k n
mutual
def isTermP : Tree → Bool
  | .nil => false
  | .node k n a b kids => headP k n a b &&
    (if k = 130 ∨ k = 131 ∨ k = 132 ∨ k = 133 then kids.isEmpty
     else if k = 134 then isT_ct kids
     else if k = 139 then isT_kt kids
     else if k = 135 ∨ k = 142 ∨ k = 143 ∨ k = 145 then isT_tt kids
     else if k = 136 then fieldsP kids 137 && distinctP kids && steadyP kids
     else if k = 138 then isT_t kids
     else if k = 140 then isT_tc kids
     else if k = 141 then isT_ctc kids
     else if k = 144 then isT_ttt kids
     else if k = 146 then isT_ct kids
     else if k = 147 then isT_ta kids
     else if k = 148 then isT_tca kids
     else false)
def isT_t : List Tree → Bool
  | [x] => isTermP x
  | _ => false
def isT_ct : List Tree → Bool
  | [x, y] => tconP x && isTermP y
  | _ => false
def isT_kt : List Tree → Bool
  | [x, y] => tkindP x && isTermP y
  | _ => false
def isT_tt : List Tree → Bool
  | [x, y] => isTermP x && isTermP y
  | _ => false
def isT_tc : List Tree → Bool
  | [x, y] => isTermP x && tconP y
  | _ => false
def isT_ctc : List Tree → Bool
  | [x, y, z] => tconP x && isTermP y && tconP z
  | _ => false
def isT_ttt : List Tree → Bool
  | [x, y, z] => isTermP x && isTermP y && isTermP z
  | _ => false
def isT_ta : List Tree → Bool
  | x :: y :: r => isTermP x && (fieldsP (y :: r) 149 && distinctP (y :: r))
  | _ => false
def isT_tca : List Tree → Bool
  | x :: y :: z :: r => isTermP x && tconP y && (fieldsP (z :: r) 149 && distinctP (z :: r))
  | _ => false
def fieldsP : List Tree → Int → Bool
  | [], _ => true
  | .nil :: _, _ => false
  | .node k n a b ks :: ts, kind => (k == kind && n == 0 && eqB b emptyB && labelP a && isT_t ks) && fieldsP ts kind
end
/-- One field, one arm. -/
def okField (kind : Int) : Tree → Bool
  | .nil => false
  | .node k n a b ks => k == kind && n == 0 && eqB b emptyB && labelP a && isT_t ks
theorem jK (kind : Int) (l : List Tree) : fieldsP l kind = l.all (okField kind) := by
  induction l with
  | nil => simp [fieldsP]
  | cons t ts ih => cases t <;> simp [fieldsP, okField, ih]
end Go.Proofs.YtocaohipfiapkaaGreat.Ab
namespace Go.Proofs.YtocaohipfiapkaaGreat.Ab
set_option linter.unusedVariables false
set_option linter.unusedSimpArgs false
attribute [local irreducible] AWP AOps AExit AThen ABlock ANoGoto FeetOk
theorem tC (f : FuncId) (l : List Tree) : kidsP l false [(f, isTermP)] = isT_t l := by
  rcases l with _ | ⟨x, _ | ⟨y, r⟩⟩ <;> simp [kidsP, formsP, isT_t]
def labelledP (l : List Tree) (kind : Int) (rise : Bool) : Bool := fieldsP l kind && distinctP l && (!rise || steadyP l)
theorem zG (a : ByteArray) : Op.bytesLess a.toList emptyB.toList = false := by
  have : emptyB.toList = [] := by rw [ByteArray.toList_eq]; rfl
  rw [this]
  cases a.toList <;> rfl
set_option maxHeartbeats 8000000 in
set_option maxRecDepth 10000 in
theorem lS (l : List Tree) (kind : Int) (rise : Bool) (h : Tree.wholes l = true) (hsz : Tree.sizes l ≤ 100000000)
    (ht : ∀ t', t'.size < Tree.sizes l → t'.whole = true → ACalls Tryz.prog 24 [.imm t'.iv] [] (.imm (.lit (.bool (isTermP t')))) []) :
    ACalls Tryz.prog 41 [.imm (.sl false l.length (Tree.ivs l)), .imm (.lit (.int .i64 kind)), .imm (.lit (.bool rise))] [] (.imm (.lit (.bool (labelledP l kind rise)))) [] := by
  have hl : l.length < 1000000000 := by have := cO l h; omega
  refine aJ Tryz.func41 rfl rfl (nb rfl) rfl ?_
  repeat' (first | refine aG ?_ | (refine aI ?_;  first | refine aC tabOk rfl rfl rfl (nb rfl) rfl ?_ | refine lK rfl rfl rfl (nb rfl) rfl rfl rfl ?_ | refine aY tabOk rfl rfl (nb rfl) rfl ?_) | (refine aN ?_;  first | refine aH ?_ | refine aQ ?_ | refine aX ?_))
  refine cH (ι := {p : Nat × List (ByteArray × IV) × ByteArray // p.1 ≤ l.length ∧ p.2.1 = seenL (l.take p.1) ∧ (p.1 = 0 → p.2.2 = emptyB) ∧ (∀ i (hi : i < l.length), i + 1 = p.1 → p.2.2 = l[i].name) ∧ (∀ i (hi : i < l.length), i < p.1 → okField kind l[i] = true) ∧
      (∀ i i' (h1 : i < i') (h2 : i' < l.length), i' < p.1 → eqB l[i'].name (l[i]'(by omega)).name = false) ∧ (rise = true → ∀ i (hi : i + 1 < l.length), i + 1 < p.1 → ltB l[i + 1].name (l[i]'(by omega)).name = false)})
    (fun p => S.f ⟨[(14, .imm (.lit (.int .i64 (p.1.1 : Int)))), (13, .imm (.lit (.int .i64 (l.length : Int)))), (12, .imm (.sl false l.length (Tree.ivs l))), (7, .mp 11), (8, .imm (.lit (.string p.1.2.2))), (1, .imm (.lit (.int .i64 kind))), (2, .imm (.lit (.bool rise)))], [(11, .map p.1.2.1)]⟩) (fun p => l.length - p.1.1)
    ⟨(0, [], emptyB), Nat.zero_le _, rfl, fun _ => rfl, fun i _ hi => by omega, fun i _ hi => absurd hi (Nat.not_lt_zero _), fun i i' _ _ hi => absurd hi (Nat.not_lt_zero _), fun _ i _ hi => absurd hi (Nat.not_lt_zero _)⟩ (bW (by repeat' first | exact trivial | refine ⟨rfl, ?_⟩) (by repeat' first | exact trivial | refine ⟨rfl, ?_⟩)) ?_
  rintro ⟨⟨j, ml, last⟩, hj, hs, hlast0, hlast, hok, hdi, hst⟩
  dsimp only at hj hs hlast0 hlast hok hdi hst ⊢
  by_cases hlt : j < l.length
  · obtain ⟨k1, n1, a1, b1, ks1, e1, hget, hw1⟩ := oW h hlt
    have hb := qX (l.take j) a1
    rw [← hs] at hb
    have hno : ((l.take j).any fun u => eqB u.name a1) = false → mget ml a1 = none := fun h => by rw [hs]; exact qY h
    have hm1 := cY (List.getElem_mem hlt)
    rw [e1] at hm1
    have hl1 : ks1.length < 1000000000 := by have := cO ks1 hw1; simp only [Tree.size] at hm1; omega
    have hf : ∀ i (hi : i < [((24 : FuncId), isTermP)].length) (hk : i < ks1.length), ACalls Tryz.prog [((24 : FuncId), isTermP)][i].1 [.imm ks1[i].iv] [] (.imm (.lit (.bool ([((24 : FuncId), isTermP)][i].2 ks1[i])))) [] := fun i hi hk => by
      have : i = 0 := by simpa using hi
      subst this
      have h2 := bR (k := k1) (n := n1) (a := a1) (b := b1) (List.getElem_mem hk)
      exact ht _ (by omega) (bL hw1 (List.getElem_mem hk))
    have hmeet : ((l.take j).any fun u => eqB u.name a1) = true → labelledP l kind rise = false := fun h => by
      rw [Bool.eq_false_iff]
      intro hd
      simp only [labelledP, Bool.and_eq_true] at hd
      have hd := (eD _).1 hd.1.2
      rw [List.any_eq_true] at h
      obtain ⟨u, hu, hub⟩ := h
      obtain ⟨i, hi, rfl⟩ := List.getElem_of_mem hu
      simp only [List.length_take] at hi
      have h2 := hd i j (by omega) hlt
      rw [e1] at h2
      simp only [List.getElem_take] at hub
      rw [(dV _ _).1 hub] at h2
      have h3 := (dV a1 a1).2 rfl
      rw [show Tree.name (Tree.node k1 n1 a1 b1 ks1) = a1 from rfl, h3] at h2
      cases h2
    have hnext : ((l.take j).any fun u => eqB u.name a1) = false → ∀ i i' (h1 : i < i') (h2 : i' < l.length), i' < j + 1 → eqB l[i'].name (l[i]'(by omega)).name = false := fun h i i' h1 h2 h3 => by
      by_cases e : i' = j
      · subst e
        rw [List.any_eq_false] at h
        have := h l[i] (List.mem_iff_getElem.2 ⟨i, by simp; omega, by simp⟩)
        rw [e1]
        rw [Bool.eq_false_iff]
        intro hc
        exact this ((dV _ _).2 ((dV _ _).1 hc).symm)
      · exact hdi i i' h1 h2 (by omega)
    have hlast1 : ∀ i (hi : i < l.length), i + 1 = j + 1 → a1 = l[i].name := fun i hi hij => by
      have : i = j := by omega
      subst this
      rw [e1]; rfl
    have hbad : okField kind (Tree.node k1 n1 a1 b1 ks1) = false → labelledP l kind rise = false := fun hb => by
      simp only [labelledP, jK, mW hlt (by rw [e1]; exact hb), Bool.false_and]
    have hgood : okField kind (Tree.node k1 n1 a1 b1 ks1) = true → ∀ i (hi : i < l.length), i < j + 1 → okField kind l[i] = true := fun hgb i hi hij => by
      by_cases e : i = j
      · subst e; rw [e1]; exact hgb
      · exact hok i hi (by omega)
    have hfall : rise = true → Op.bytesLess a1.toList last.toList = true → labelledP l kind rise = false := fun hr hb => by
      rw [Bool.eq_false_iff]
      intro hd
      simp only [labelledP, Bool.and_eq_true, hr, Bool.not_true, Bool.false_or] at hd
      by_cases hj0 : j = 0
      · rw [hlast0 hj0, zG] at hb; cases hb
      · have h2 := (jJ _).1 hd.2 (j - 1) (by omega)
        have x1 : l[j - 1 + 1]'(by omega) = Tree.node k1 n1 a1 b1 ks1 := by simpa only [show j - 1 + 1 = j by omega] using e1
        rw [x1, ← hlast (j - 1) (by omega) (by omega)] at h2
        have h3 : Op.bytesLess a1.toList last.toList = false := h2
        rw [h3] at hb; cases hb
    have hrise : (rise = true → Op.bytesLess a1.toList last.toList = false) → rise = true → ∀ i (hi : i + 1 < l.length), i + 1 < j + 1 → ltB l[i + 1].name (l[i]'(by omega)).name = false := fun hb hr i hi hij => by
      by_cases e : i + 1 = j
      · have x1 : l[i + 1] = Tree.node k1 n1 a1 b1 ks1 := by simpa only [e] using e1
        rw [x1, ← hlast i (by omega) e]
        exact hb hr
      · exact hst hr i hi (by omega)
    repeat' (first | refine aG ?_ | (refine aI ?_;  first | refine aC tabOk rfl rfl rfl (nb rfl) rfl ?_ | refine cA rfl rfl (nb rfl) ?_ | (refine aK rfl rfl rfl (nb rfl) rfl rfl rfl (fun hq => ?_) (fun hq => ?_) <;> (first | (simp only [sD, sE, sB, sC, sN, sM, sT, sF] at hq; try (exfalso; omega)) | skip)) | (refine lL tabOk rfl rfl rfl (nb rfl) rfl rfl rfl rfl rfl rfl rfl rfl (hb) (fun hq => ?_) (fun hq => ?_)) | refine qI tabOk rfl rfl rfl (nb rfl) rfl rfl rfl rfl rfl rfl rfl rfl (hno (by assumption)) ?_ | refine qJ rfl rfl rfl rfl rfl rfl rfl rfl rfl ?_ | (refine cE rfl rfl rfl (nb rfl) rfl rfl rfl (pE _) (fun hq => ?_) (fun hq => ?_)) | (refine cE rfl rfl rfl (nb rfl) rfl rfl rfl (eZ _ _ _ _ _ false [((24 : FuncId), isTermP)] (by decide) hl1 hf) (fun hq => ?_) (fun hq => ?_)) | refine bX rfl rfl rfl (nb rfl) rfl rfl (by omega) ?_ | refine cI tabOk rfl rfl rfl (nb rfl) rfl rfl rfl rfl rfl rfl rfl rfl rfl ?_ | refine bH tabOk rfl rfl rfl (nb rfl) rfl rfl rfl rfl (by first | assumption | omega) ?_ | refine bO tabOk rfl rfl rfl (nb rfl) rfl rfl rfl (by assumption) ?_ | ((fail_if_success (refine gY (b := true) rfl rfl rfl ?_)); (fail_if_success (refine gY (b := false) rfl rfl rfl ?_)); refine kU rfl rfl rfl (fun hq => ?_) (fun hq => ?_) <;> first | subst hq | (first | (simp only [sD, sE, sB, sC, sN, sM, sT, sF] at hq; try (exfalso; omega)) | skip))) | (refine aN ?_;  first | refine aH ?_ | refine aQ ?_ | refine bI ?_ | refine aX ?_ | refine aT ?_ | refine aZ ?_ | refine aE (b := true) rfl (fun _ => ?_) nTf | refine aE (b := false) rfl nFt (fun _ => ?_) | refine aR mixed (by kernel_rfl) ?_) | (refine aM ?_;  first | refine bA ?_ | refine aV ?_) | (refine aW ?_;  first | refine bS ?_ | refine bD ?_) | refine bG (bF (by kernel_rfl)) ?_)
    all_goals first
      | (refine aU (by first | exact .inl rfl | exact .inr rfl) (bC rfl (aA rfl)) rfl ?_; refine cR ?_; symm; first
          | exact hmeet (by assumption)
          | exact hfall rfl (by assumption)
          | (refine hbad ?_; simp_all [okField, tC, eqB, emptyB]; done))
      | exact ⟨⟨(j + 1, ml ++ [(a1, .lit (.bool true))], a1), hlt, (hs ▸ qZ l _ j hlt e1), (fun h => by cases h), hlast1,
          hgood (by simp_all [okField, tC, eqB, emptyB]), hnext (by assumption), hrise (by first | (intro _; assumption) | (intro h; cases h))⟩, (by show l.length - (j + 1) < l.length - j; omega), (bW (by repeat' first | exact trivial | refine ⟨rfl, ?_⟩) (by repeat' first | exact trivial | refine ⟨rfl, ?_⟩))⟩
  · repeat' (first | refine aG ?_ | (refine aI ?_;  first | refine aC tabOk rfl rfl rfl (nb rfl) rfl ?_ | (refine aK rfl rfl rfl (nb rfl) rfl rfl rfl (fun hq => ?_) (fun hq => ?_) <;> (first | (simp only [sD, sE, sB, sC, sN, sM, sT, sF] at hq; try (exfalso; omega)) | skip))) | (refine aN ?_;  first | refine aH ?_ | refine aQ ?_ | refine aT ?_ | refine bY ?_ | refine aE (b := false) rfl nFt (fun _ => ?_)) | (refine aM ?_;  first | refine bA ?_ | refine bN ?_) | (refine aW ?_;  first | refine bJ ?_))
    all_goals (refine aU (by first | exact .inl rfl | exact .inr rfl) (bC rfl (aA rfl)) rfl ?_; refine cR ?_; symm
               have z1 : fieldsP l kind = true := by rw [jK]; exact oV fun i hi => hok i hi (by omega)
               have z2 : distinctP l = true := (eD l).2 fun i i' h1 h2 => hdi i i' h1 h2 (by omega)
               have z3 : rise = true → steadyP l = true := fun hr => (jJ l).2 fun i hi => hst hr i hi (by omega)
               simp only [labelledP, z1, z2, Bool.true_and]
               cases rise with
               | true => simp [z3 rfl]
               | false => rfl)
end Go.Proofs.YtocaohipfiapkaaGreat.Ab
namespace Go.Proofs.YtocaohipfiapkaaGreat.Ab
set_option linter.unusedVariables false
set_option linter.unusedSimpArgs false
attribute [local irreducible] AWP AOps AExit AThen ABlock ANoGoto FeetOk
theorem nF : ∀ (l : List Tree) (f : Nat), Tree.wholes l = true → Tree.wholes (l.drop f) = true
  | l, 0, h => h
  | [], f + 1, _ => rfl
  | t :: ts, f + 1, h => by
    simp only [Tree.wholes, Bool.and_eq_true] at h
    exact nF ts f h.2
theorem pF : ∀ (l : List Tree) (f : Nat), Tree.sizes (l.drop f) ≤ Tree.sizes l
  | l, 0 => Nat.le_refl _
  | [], f + 1 => Nat.le_refl _
  | t :: ts, f + 1 => by
    have := pF ts f
    simp only [List.drop_succ_cons, Tree.sizes]; omega
theorem pG (l : List Tree) (f : Nat) (h : f ≤ l.length) : IV.sl false (l.length - f) (((Tree.ivs l).drop (f * 1)).take ((l.length - f) * 1)) = IV.sl false (l.drop f).length (Tree.ivs (l.drop f)) := by
  rw [cX, cX, List.length_drop, Nat.mul_one, Nat.mul_one, ← List.map_drop, List.take_of_length_le (by simp)]
def armsP (kids : List Tree) (f : Nat) : Bool := decide (f < kids.length) && labelledP (kids.drop f) 149 false
set_option maxHeartbeats 4000000 in
set_option maxRecDepth 10000 in
theorem uN (k n : Int) (a b : ByteArray) (kids : List Tree) (f : Nat) (hf : f < 1000) (h : Tree.wholes kids = true) (hsz : Tree.sizes kids ≤ 100000000)
    (ht : ∀ t', t'.size ≤ Tree.sizes kids → t'.whole = true → ACalls Tryz.prog 24 [.imm t'.iv] [] (.imm (.lit (.bool (isTermP t')))) []) :
    ACalls Tryz.prog 42 [.imm (Tree.iv (.node k n a b kids)), .imm (.lit (.int .i64 (f : Int)))] [] (.imm (.lit (.bool (armsP kids f)))) [] := by
  have hd := pF kids f
  refine aJ Tryz.func42 rfl rfl (nb rfl) rfl ?_
  repeat' (first | refine aG ?_ | (refine aI ?_;  first | refine aC tabOk rfl rfl rfl (nb rfl) rfl ?_ | refine cA rfl rfl (nb rfl) ?_ | (refine aK rfl rfl rfl (nb rfl) rfl rfl rfl (fun hq => ?_) (fun hq => ?_) <;> (first | (simp only [sD, sE, sB, sC, sN, sM, sT, sF] at hq; try (exfalso; omega)) | skip)) | refine dQ tabOk rfl rfl rfl (nb rfl) rfl rfl rfl rfl rfl (by omega) (Nat.le_refl _) (pG kids f (by omega)) ?_ | (refine cE rfl rfl rfl (nb rfl) rfl rfl rfl (lS _ _ _ (nF kids f h) (by omega) (fun t' h1 h2 => ht t' (by omega) h2)) (fun hq => ?_) (fun hq => ?_)) | refine aY tabOk rfl rfl (nb rfl) rfl ?_) | (refine aN ?_;  first | refine aH ?_ | refine aT ?_))
  all_goals (refine aU (by first | exact .inl rfl | exact .inr rfl) (bC rfl (aA rfl)) rfl ?_; refine cR ?_; first | (simp_all [armsP]; done) | (simp_all [armsP]; omega))
set_option maxHeartbeats 4000000 in
set_option maxRecDepth 10000 in
theorem zH (k n : Int) (a b : ByteArray) (kids : List Tree) : ACalls Tryz.prog 38 [.imm (Tree.iv (.node k n a b kids)), .imm (.lit (.bool false)), .imm (.lit (.slice none 0 0))] [] (.imm (.lit (.bool kids.isEmpty))) [] := by
  refine aJ Tryz.func38 rfl rfl (nb rfl) rfl ?_
  repeat' (first | refine aG ?_ | (refine aI ?_;  first | refine aC tabOk rfl rfl rfl (nb rfl) rfl ?_ | (refine aK rfl rfl rfl (nb rfl) rfl rfl rfl (fun hq => ?_) (fun hq => ?_) <;> (first | (simp only [sD, sE, sB, sC, sN, sM, sT, sF] at hq; try (exfalso; omega)) | skip)) | refine aY tabOk rfl rfl (nb rfl) rfl ?_) | (refine aN ?_;  first | refine aH ?_ | refine aQ ?_ | refine aX ?_ | refine aT ?_ | refine aZ ?_ | refine aE (b := true) rfl (fun _ => ?_) nTf | refine aE (b := false) rfl nFt (fun _ => ?_)) | (refine aM ?_;  first | refine bA ?_ | refine aV ?_))
  · refine aU (by first | exact .inl rfl | exact .inr rfl) (bC rfl (aA rfl)) rfl ?_; refine cR ?_; cases kids <;> simp_all
  · refine cH (ι := Unit) (fun _ => S.f ⟨[(33, .imm (.lit (.int .i64 0))), (32, .imm (.lit (.int .i64 0)))], []⟩) (fun _ => 0) () (bW (by repeat' first | exact trivial | refine ⟨rfl, ?_⟩) (by repeat' first | exact trivial | refine ⟨rfl, ?_⟩)) ?_
    intro _
    repeat' (first | refine aG ?_ | (refine aI ?_;  first | refine aC tabOk rfl rfl rfl (nb rfl) rfl ?_ | (refine aK rfl rfl rfl (nb rfl) rfl rfl rfl (fun hq => ?_) (fun hq => ?_) <;> (first | (simp only [sD, sE, sB, sC, sN, sM, sT, sF] at hq; try (exfalso; omega)) | skip))) | (refine aN ?_;  first | refine aH ?_ | refine aQ ?_ | refine aT ?_ | refine bY ?_ | refine aE (b := false) rfl nFt (fun _ => ?_)) | (refine aM ?_;  first | refine bA ?_ | refine bN ?_) | (refine aW ?_;  first | refine bJ ?_))
    all_goals first
      | (exfalso; omega)
      | (refine aU (by first | exact .inl rfl | exact .inr rfl) (bC rfl (aA rfl)) rfl ?_; refine cR ?_; cases kids <;> simp_all)
theorem aAI (f g : FuncId) (l : List Tree) : kidsP l false [(f, tconP), (g, isTermP)] = isT_ct l := by
  rcases l with _ | ⟨x, _ | ⟨y, _ | ⟨z, r⟩⟩⟩ <;> simp [kidsP, formsP, isT_ct]
theorem aAJ (f g : FuncId) (l : List Tree) : kidsP l false [(f, tkindP), (g, isTermP)] = isT_kt l := by
  rcases l with _ | ⟨x, _ | ⟨y, _ | ⟨z, r⟩⟩⟩ <;> simp [kidsP, formsP, isT_kt]
theorem aAK (f g : FuncId) (l : List Tree) : kidsP l false [(f, isTermP), (g, isTermP)] = isT_tt l := by
  rcases l with _ | ⟨x, _ | ⟨y, _ | ⟨z, r⟩⟩⟩ <;> simp [kidsP, formsP, isT_tt]
theorem aAL (f g : FuncId) (l : List Tree) : kidsP l false [(f, isTermP), (g, tconP)] = isT_tc l := by
  rcases l with _ | ⟨x, _ | ⟨y, _ | ⟨z, r⟩⟩⟩ <;> simp [kidsP, formsP, isT_tc]
theorem zI (f g h : FuncId) (l : List Tree) : kidsP l false [(f, tconP), (g, isTermP), (h, tconP)] = isT_ctc l := by
  rcases l with _ | ⟨x, _ | ⟨y, _ | ⟨z, _ | ⟨u, r⟩⟩⟩⟩ <;> simp [kidsP, formsP, isT_ctc, Bool.and_assoc]
theorem zJ (f g h : FuncId) (l : List Tree) : kidsP l false [(f, isTermP), (g, isTermP), (h, isTermP)] = isT_ttt l := by
  rcases l with _ | ⟨x, _ | ⟨y, _ | ⟨z, _ | ⟨u, r⟩⟩⟩⟩ <;> simp [kidsP, formsP, isT_ttt, Bool.and_assoc]
theorem aAM (f : FuncId) (l : List Tree) : (kidsP l true [(f, isTermP)] && armsP l 1) = isT_ta l := by
  rcases l with _ | ⟨x, _ | ⟨y, r⟩⟩ <;> simp [kidsP, formsP, isT_ta, armsP, labelledP]
theorem zK (f g : FuncId) (l : List Tree) : (kidsP l true [(f, isTermP), (g, tconP)] && armsP l 2) = isT_tca l := by
  rcases l with _ | ⟨x, _ | ⟨y, _ | ⟨z, r⟩⟩⟩ <;> simp [kidsP, formsP, isT_tca, armsP, labelledP]
end Go.Proofs.YtocaohipfiapkaaGreat.Ab
namespace Go.Proofs.YtocaohipfiapkaaGreat.Ab
set_option linter.unusedVariables false
set_option linter.unusedSimpArgs false
attribute [local irreducible] AWP AOps AExit AThen ABlock ANoGoto FeetOk
theorem false_and {x y : Bool} (h : x = false) : false = (x && y) := by rw [h]; rfl
set_option maxHeartbeats 16000000 in
set_option maxRecDepth 10000 in
theorem wT (t : Tree) : t.whole = true → t.size ≤ 100000000 → ACalls Tryz.prog 24 [.imm t.iv] [] (.imm (.lit (.bool (isTermP t)))) [] := by
  induction t using Tree.sind with
  | h t ih =>
    intro h hs
    obtain ⟨k, n, a, b, kids, rfl⟩ := cJ h
    have hw : Tree.wholes kids = true := h
    have hz : Tree.sizes kids ≤ 100000000 := by simp only [Tree.size] at hs; omega
    have hl : kids.length < 1000000000 := by have := cO kids h; omega
    have ht : ∀ t', t'.size ≤ Tree.sizes kids → t'.whole = true → ACalls Tryz.prog 24 [.imm t'.iv] [] (.imm (.lit (.bool (isTermP t')))) [] := fun t' h1 h2 => ih t' (by simp only [Tree.size]; omega) h2 (by omega)
    have hfs : ∀ fs : List (FuncId × (Tree → Bool)), (∀ p ∈ fs, p = ((39 : FuncId), tconP) ∨ p = ((40 : FuncId), tkindP) ∨ p = ((24 : FuncId), isTermP)) →
        ∀ i (hi : i < fs.length) (hk : i < kids.length), ACalls Tryz.prog fs[i].1 [.imm kids[i].iv] [] (.imm (.lit (.bool (fs[i].2 kids[i])))) [] := fun fs hp i hi hk => by
      have hm := cY (List.getElem_mem hk)
      rcases hp fs[i] (List.getElem_mem hi) with e | e | e <;> rw [e]
      · exact aAG _ (by omega)
      · exact zF _ (by omega)
      · exact ht _ hm (bL h (List.getElem_mem hk))
    refine aJ Tryz.func24 rfl rfl (nb rfl) rfl ?_
    repeat' (first | refine aG ?_ | (refine aI ?_;  first | refine aC tabOk rfl rfl rfl (nb rfl) rfl ?_ | refine cA rfl rfl (nb rfl) ?_ | (refine aK rfl rfl rfl (nb rfl) rfl rfl rfl (fun hq => ?_) (fun hq => ?_) <;> (first | (simp only [sD, sE, sB, sC, sN, sM, sT, sF] at hq; try (exfalso; omega)) | skip)) | (refine cE rfl rfl rfl (nb rfl) rfl rfl rfl (pE _) (fun hq => ?_) (fun hq => ?_)) | (refine cE rfl rfl rfl (nb rfl) rfl rfl rfl (wS _ _ _ _ _) (fun hq => ?_) (fun hq => ?_)) | (refine cE rfl rfl rfl (nb rfl) rfl rfl rfl (zH _ _ _ _ _) (fun hq => ?_) (fun hq => ?_)) | (refine cE rfl rfl rfl (nb rfl) rfl rfl rfl (lS kids 137 true hw hz (fun t' h1 h2 => ht t' (by omega) h2)) (fun hq => ?_) (fun hq => ?_)) | (refine cE rfl rfl rfl (nb rfl) rfl rfl rfl (uN _ _ _ _ kids 1 (by omega) hw hz ht) (fun hq => ?_) (fun hq => ?_)) | (refine cE rfl rfl rfl (nb rfl) rfl rfl rfl (uN _ _ _ _ kids 2 (by omega) hw hz ht) (fun hq => ?_) (fun hq => ?_)) | (refine cE rfl rfl rfl (nb rfl) rfl rfl rfl (eZ _ _ _ _ _ _ [((39 : FuncId), tconP), ((24 : FuncId), isTermP)] (by decide) hl (hfs _ (by simp))) (fun hq => ?_) (fun hq => ?_)) | (refine cE rfl rfl rfl (nb rfl) rfl rfl rfl (eZ _ _ _ _ _ _ [((40 : FuncId), tkindP), ((24 : FuncId), isTermP)] (by decide) hl (hfs _ (by simp))) (fun hq => ?_) (fun hq => ?_)) | (refine cE rfl rfl rfl (nb rfl) rfl rfl rfl (eZ _ _ _ _ _ _ [((24 : FuncId), isTermP), ((24 : FuncId), isTermP)] (by decide) hl (hfs _ (by simp))) (fun hq => ?_) (fun hq => ?_)) | (refine cE rfl rfl rfl (nb rfl) rfl rfl rfl (eZ _ _ _ _ _ _ [((24 : FuncId), isTermP)] (by decide) hl (hfs _ (by simp))) (fun hq => ?_) (fun hq => ?_)) | (refine cE rfl rfl rfl (nb rfl) rfl rfl rfl (eZ _ _ _ _ _ _ [((24 : FuncId), isTermP), ((39 : FuncId), tconP)] (by decide) hl (hfs _ (by simp))) (fun hq => ?_) (fun hq => ?_)) | (refine cE rfl rfl rfl (nb rfl) rfl rfl rfl (eZ _ _ _ _ _ _ [((39 : FuncId), tconP), ((24 : FuncId), isTermP), ((39 : FuncId), tconP)] (by decide) hl (hfs _ (by simp))) (fun hq => ?_) (fun hq => ?_)) | (refine cE rfl rfl rfl (nb rfl) rfl rfl rfl (eZ _ _ _ _ _ _ [((24 : FuncId), isTermP), ((24 : FuncId), isTermP), ((24 : FuncId), isTermP)] (by decide) hl (hfs _ (by simp))) (fun hq => ?_) (fun hq => ?_)) | refine cI tabOk rfl rfl rfl (nb rfl) rfl rfl rfl rfl rfl rfl rfl rfl rfl ?_ | refine aY tabOk rfl rfl (nb rfl) rfl ?_) | (refine aN ?_;  first | refine aH ?_ | refine aQ ?_ | refine bI ?_ | refine aX ?_ | refine aT ?_ | refine aZ ?_ | refine aE (b := true) rfl (fun _ => ?_) nTf | refine aE (b := false) rfl nFt (fun _ => ?_)) | (refine aM ?_;  first | refine bA ?_ | refine aV ?_) | (refine aW ?_;  first | refine bS ?_ | refine bD ?_))
    all_goals
      refine aU (by first | exact .inl rfl | exact .inr rfl) (bC rfl (aA rfl)) rfl ?_
      refine cR ?_
      clear hfs ht ih
      have e1 := (aAM 24 kids).symm
      have e2 := (zK 24 39 kids).symm
      have e3 : (fieldsP kids 137 && distinctP kids && steadyP kids) = labelledP kids 137 true := by simp [labelledP]
      try simp only [aAI, aAJ, aAK, tC, aAL, zI, zJ] at *
      first | (have hk : k = 130 := (by assumption); subst hk) | (have hk : k = 131 := (by assumption); subst hk) | (have hk : k = 132 := (by assumption); subst hk) | (have hk : k = 133 := (by assumption); subst hk) | (have hk : k = 134 := (by assumption); subst hk) | (have hk : k = 135 := (by assumption); subst hk) | (have hk : k = 136 := (by assumption); subst hk) | (have hk : k = 138 := (by assumption); subst hk) | (have hk : k = 139 := (by assumption); subst hk) | (have hk : k = 140 := (by assumption); subst hk) | (have hk : k = 141 := (by assumption); subst hk) | (have hk : k = 142 := (by assumption); subst hk) | (have hk : k = 143 := (by assumption); subst hk) | (have hk : k = 144 := (by assumption); subst hk) | (have hk : k = 145 := (by assumption); subst hk) | (have hk : k = 146 := (by assumption); subst hk) | (have hk : k = 147 := (by assumption); subst hk) | (have hk : k = 148 := (by assumption); subst hk) | skip
      rw [isTermP]
      first | (have h3 : eqB a emptyB = true := beq_iff_eq.2 (by assumption); have h4 : eqB b emptyB = true := beq_iff_eq.2 (by assumption); simp [headP, namedK, h3, h4, *]; done) | (have h3 : eqB a emptyB = false := beq_eq_false_iff_ne.2 (by assumption); have h4 : eqB b emptyB = true := beq_iff_eq.2 (by assumption); simp [headP, namedK, h3, h4, *]; done) | (simp [headP, namedK, eqB, emptyB, *]; done) | (refine false_and ?_; have h1 : (k == 138) = false := beq_eq_false_iff_ne.2 (by assumption); have h2 : (k == 146) = false := beq_eq_false_iff_ne.2 (by assumption); have h3 : eqB a emptyB = false := beq_eq_false_iff_ne.2 (by assumption); simp [headP, namedK, h1, h2, h3]; done) | (refine false_and ?_; have h1 : (k == 138) = false := beq_eq_false_iff_ne.2 (by assumption); have h2 : (k == 146) = false := beq_eq_false_iff_ne.2 (by assumption); clear e1 e2 e3; simp_all [headP, namedK, eqB, emptyB]; done) | (refine false_and ?_; clear e1 e2 e3; simp_all [headP, namedK, eqB, emptyB]; done) | skip
def tcheckP (t : Tree) : Int := checkP isTermP t
set_option maxHeartbeats 4000000 in
set_option maxRecDepth 10000 in
theorem wU (t : Tree) (hs : t.size ≤ 100000000) : ACalls Tryz.prog 12 [.imm t.iv] [] (.imm (.lit (.int .i64 (tcheckP t)))) [] := by
  refine aJ Tryz.func12 rfl rfl (nb rfl) rfl ?_
  repeat' (first | refine aG ?_ | (refine aI ?_;  first | refine aC tabOk rfl rfl rfl (nb rfl) rfl ?_ | refine cA rfl rfl (nb rfl) ?_ | (refine aK rfl rfl rfl (nb rfl) rfl rfl rfl (fun hq => ?_) (fun hq => ?_) <;> (first | (simp only [sD, sE, sB, sC, sN, sM, sT, sF] at hq; try (exfalso; omega)) | skip)) | refine cV 1000 tabOk rfl rfl rfl (nb rfl) rfl rfl rfl rfl rfl rfl ?_ | refine cD rfl rfl (nb rfl) rfl rfl rfl rfl (wP t 65536 hs (by omega) (by omega)) (by exact ⟨rfl, trivial⟩) rfl (by simp) ?_ | (refine cE rfl rfl rfl (nb rfl) rfl rfl rfl (wT t (iF t _ (by assumption)) hs) (fun hq => ?_) (fun hq => ?_)) | refine bP tabOk rfl rfl rfl rfl rfl rfl rfl rfl rfl rfl rfl ?_) | (refine aN ?_;  first | refine aH ?_ | refine aQ ?_ | refine aT ?_ | refine aZ ?_ | refine aE (b := true) rfl (fun _ => ?_) nTf | refine aE (b := false) rfl nFt (fun _ => ?_)) | (refine aM ?_;  first | refine bA ?_ | refine aV ?_))
  all_goals (refine aU (by first | exact .inl rfl | exact .inr rfl) (bC rfl (aA rfl)) rfl ?_; refine oP ?_; simp_all [tcheckP, checkP])
end Go.Proofs.YtocaohipfiapkaaGreat.Ab
namespace Go.Proofs.YtocaohipfiapkaaGreat.Ab
set_option linter.unusedVariables false
set_option linter.unusedSimpArgs false
attribute [local irreducible] AWP AOps AExit AThen ABlock ANoGoto FeetOk
def zipP (R : Tree → Tree → Bool) : List Tree → List Tree → Bool
  | [], [] => true
  | x :: xs, y :: ys => R x y && zipP R xs ys
  | _, _ => false
theorem uO (R : Tree → Tree → Bool) : ∀ (l l' : List Tree), l.length ≠ l'.length → zipP R l l' = false
  | [], [], h => absurd rfl h
  | x :: xs, y :: ys, h => by rw [zipP, uO R xs ys (by simpa using h), Bool.and_false]
  | [], _ :: _, _ => rfl
  | _ :: _, [], _ => rfl
theorem pH (R : Tree → Tree → Bool) : ∀ (l l' : List Tree), l.length = l'.length → (zipP R l l' = true ↔ ∀ i (hi : i < l.length) (hk : i < l'.length), R l[i] l'[i] = true)
  | [], [], _ => by simp [zipP]
  | [], _ :: _, h => by simp at h
  | _ :: _, [], h => by simp at h
  | x :: xs, y :: ys, h => by
    rw [zipP, Bool.and_eq_true, pH R xs ys (by simpa using h)]
    constructor
    · rintro ⟨h1, h2⟩ i hi hk
      cases i with
      | zero => exact h1
      | succ i => exact h2 i (by simpa using hi) (by simpa using hk)
    · intro h
      exact ⟨h 0 (by simp) (by simp), fun i hi hk => h (i + 1) (by simpa using hi) (by simpa using hk)⟩
set_option maxHeartbeats 4000000 in
set_option maxRecDepth 10000 in
theorem kN (l l' : List Tree) (f : FuncId) (R : Tree → Tree → Bool) (hl : l.length < 1000000000) (hl' : l'.length < 1000000000)
    (hf : ∀ i (hi : i < l.length) (hk : i < l'.length), ACalls Tryz.prog f [.imm l[i].iv, .imm l'[i].iv] [] (.imm (.lit (.bool (R l[i] l'[i])))) []) :
    ACalls Tryz.prog 21 [.imm (.sl false l.length (Tree.ivs l)), .imm (.sl false l'.length (Tree.ivs l')), .imm (.func f [] [])] [] (.imm (.lit (.bool (zipP R l l')))) [] := by
  refine aJ Tryz.func21 rfl rfl (nb rfl) rfl ?_
  repeat' (first | refine aG ?_ | (refine aI ?_;  first | refine aC tabOk rfl rfl rfl (nb rfl) rfl ?_ | (refine aK rfl rfl rfl (nb rfl) rfl rfl rfl (fun hq => ?_) (fun hq => ?_) <;> (first | (simp only [sD, sE, sB, sC, sN, sM, sT, sF] at hq; try (exfalso; omega)) | skip)) | refine aY tabOk rfl rfl (nb rfl) rfl ?_) | (refine aN ?_;  first | refine aH ?_ | refine aQ ?_ | refine aX ?_ | refine aT ?_ | refine aZ ?_ | refine aE (b := true) rfl (fun _ => ?_) nTf | refine aE (b := false) rfl nFt (fun _ => ?_)) | (refine aM ?_;  first | refine bA ?_ | refine aV ?_))
  · refine aU (by first | exact .inl rfl | exact .inr rfl) (bC rfl (aA rfl)) rfl ?_; exact cR (uO R l l' (by omega)).symm
  · have hle : l.length = l'.length := by omega
    refine cH (ι := {j : Nat // j ≤ l.length ∧ ∀ i (hi : i < l.length) (hk : i < l'.length), i < j → R l[i] l'[i] = true}) (fun j => S.f ⟨[(17, .imm (.lit (.int .i64 (j.1 : Int)))), (16, .imm (.lit (.int .i64 (l.length : Int)))), (15, .imm (.sl false l.length (Tree.ivs l))), (1, .imm (.sl false l'.length (Tree.ivs l'))), (2, .imm (.func f [] []))], []⟩) (fun j => l.length - j.1) ⟨0, Nat.zero_le _, fun i _ _ hi => absurd hi (Nat.not_lt_zero _)⟩ (bW (by repeat' first | exact trivial | refine ⟨rfl, ?_⟩) (by repeat' first | exact trivial | refine ⟨rfl, ?_⟩)) ?_
    rintro ⟨j, hj, hok⟩
    dsimp only
    by_cases hlt : j < l.length
    · have hltk : j < l'.length := by omega
      repeat' (first | refine aG ?_ | (refine aI ?_;  first | refine aC tabOk rfl rfl rfl (nb rfl) rfl ?_ | (refine aK rfl rfl rfl (nb rfl) rfl rfl rfl (fun hq => ?_) (fun hq => ?_) <;> (first | (simp only [sD, sE, sB, sC, sN, sM, sT, sF] at hq; try (exfalso; omega)) | skip)) | (refine cE rfl rfl rfl (nb rfl) rfl rfl rfl (hf j hlt hltk) (fun hq => ?_) (fun hq => ?_)) | refine bX rfl rfl rfl (nb rfl) rfl rfl (by omega) ?_ | refine bH tabOk rfl rfl rfl (nb rfl) rfl rfl rfl rfl (by first | assumption | omega) ?_ | refine bO tabOk rfl rfl rfl (nb rfl) rfl rfl rfl (cS _ _ (by first | assumption | omega)) ?_) | (refine aN ?_;  first | refine aH ?_ | refine aQ ?_ | refine bI ?_ | refine aX ?_ | refine aT ?_ | refine aZ ?_ | refine aE (b := true) rfl (fun _ => ?_) nTf | refine aE (b := false) rfl nFt (fun _ => ?_)) | (refine aM ?_;  first | refine bA ?_ | refine aV ?_) | (refine aW ?_;  first | refine bS ?_ | refine bD ?_))
      all_goals first
        | (have hq : R l[j] l'[j] = false := by assumption
           refine aU (by first | exact .inl rfl | exact .inr rfl) (bC rfl (aA rfl)) rfl ?_; refine cR ?_; symm; rw [Bool.eq_false_iff]; intro hc
           have := (pH R l l' hle).1 hc j hlt hltk
           rw [hq] at this; cases this; done)
        | (have hq : R l[j] l'[j] = true := by assumption
           exact ⟨⟨j + 1, hlt, fun i hi hk hij => by
             by_cases e : i = j
             · subst e; exact hq
             · exact hok i hi hk (by omega)⟩, (by show l.length - (j + 1) < l.length - j; omega), (bW (by repeat' first | exact trivial | refine ⟨rfl, ?_⟩) (by repeat' first | exact trivial | refine ⟨rfl, ?_⟩))⟩)
    · repeat' (first | refine aG ?_ | (refine aI ?_;  first | refine aC tabOk rfl rfl rfl (nb rfl) rfl ?_ | (refine aK rfl rfl rfl (nb rfl) rfl rfl rfl (fun hq => ?_) (fun hq => ?_) <;> (first | (simp only [sD, sE, sB, sC, sN, sM, sT, sF] at hq; try (exfalso; omega)) | skip))) | (refine aN ?_;  first | refine aH ?_ | refine aQ ?_ | refine aT ?_ | refine bY ?_ | refine aE (b := false) rfl nFt (fun _ => ?_)) | (refine aM ?_;  first | refine bA ?_ | refine bN ?_) | (refine aW ?_;  first | refine bJ ?_))
      all_goals (refine aU (by first | exact .inl rfl | exact .inr rfl) (bC rfl (aA rfl)) rfl ?_; refine cR ?_; symm; rw [pH R l l' hle]; exact fun i hi hk => hok i hi hk (by omega))
end Go.Proofs.YtocaohipfiapkaaGreat.Ab
namespace Go.Proofs.YtocaohipfiapkaaGreat.Ab
set_option linter.unusedVariables false
set_option linter.unusedSimpArgs false
attribute [local irreducible] AWP AOps AExit AThen ABlock ANoGoto FeetOk
mutual
def sameP : Tree → Tree → Bool
  | .nil, .nil => true
  | .node k n a b ks, .node k' n' a' b' ks' => (((k == k' && n == n') && eqB a a') && eqB b b') && samePs ks ks'
  | _, _ => false
def samePs : List Tree → List Tree → Bool
  | [], [] => true
  | x :: xs, y :: ys => sameP x y && samePs xs ys
  | _, _ => false
end
theorem pI : ∀ l l' : List Tree, samePs l l' = zipP sameP l l'
  | [], [] => by simp [samePs, zipP]
  | t :: ts, u :: us => by simp [samePs, zipP, pI ts us]
  | [], _ :: _ => by simp [samePs, zipP]
  | _ :: _, [] => by simp [samePs, zipP]
theorem rD (t : Tree) : ∀ u, sameP t u = true ↔ t = u := by
  induction t using Tree.ind with
  | h1 => intro u; cases u <;> simp [sameP]
  | h2 k n a b ks ih =>
    intro u
    cases u with
    | nil => simp [sameP]
    | node k' n' a' b' ks' =>
      have key : ∀ (l l' : List Tree), (∀ t ∈ l, t ∈ ks) → (samePs l l' = true ↔ l = l') := by
        intro l
        induction l with
        | nil => intro l' _; cases l' <;> simp [samePs]
        | cons x xs ihl =>
          intro l' hm
          cases l' with
          | nil => simp [samePs]
          | cons y ys =>
            rw [samePs, Bool.and_eq_true, ih x (hm x (by simp)) y, ihl ys (fun t ht => hm t (by simp [ht]))]
            simp
      simp only [sameP, Bool.and_eq_true, beq_iff_eq, dV, key ks ks' (fun _ h => h), Tree.node.injEq]
      constructor
      · rintro ⟨⟨⟨⟨h1, h2⟩, h3⟩, h4⟩, h5⟩; exact ⟨h1, h2, h3, h4, h5⟩
      · rintro ⟨h1, h2, h3, h4, h5⟩; exact ⟨⟨⟨⟨h1, h2⟩, h3⟩, h4⟩, h5⟩
set_option maxHeartbeats 8000000 in
set_option maxRecDepth 10000 in
theorem iH (t : Tree) : ∀ u : Tree, (t = .nil ∨ t.whole = true) → (u = .nil ∨ u.whole = true) → t.size ≤ 100000000 → u.size ≤ 100000000 → ACalls Tryz.prog 10 [.imm t.iv, .imm u.iv] [] (.imm (.lit (.bool (sameP t u)))) [] := by
  induction t using Tree.ind with
  | h1 =>
    intro u _ _ _ _
    cases u with
    | nil =>
      rw [show sameP .nil .nil = true by simp [sameP]]
      refine aJ Tryz.func10 rfl rfl (nb rfl) rfl ?_
      repeat' (first | refine aG ?_ | (refine aI ?_;  first | refine aC tabOk rfl rfl rfl (nb rfl) rfl ?_ | refine cA rfl rfl (nb rfl) ?_ | refine aY tabOk rfl rfl (nb rfl) rfl ?_) | (refine aN ?_;  first | refine aH ?_ | refine aQ ?_ | refine aT ?_ | refine aE (b := true) rfl (fun _ => ?_) nTf) | (refine aM ?_;  first | refine aV ?_))
      all_goals first
        | exact absurd rfl (by assumption)
        | exact dW (by first | exact .inl rfl | exact .inr rfl) (bC rfl (aA rfl)) rfl
    | node k n a b ks =>
      rw [show sameP .nil (.node k n a b ks) = false by simp [sameP]]
      refine aJ Tryz.func10 rfl rfl (nb rfl) rfl ?_
      repeat' (first | refine aG ?_ | (refine aI ?_;  first | refine aC tabOk rfl rfl rfl (nb rfl) rfl ?_ | refine cA rfl rfl (nb rfl) ?_ | refine aY tabOk rfl rfl (nb rfl) rfl ?_) | (refine aN ?_;  first | refine aH ?_ | refine aQ ?_ | refine aT ?_ | refine aE (b := true) rfl (fun _ => ?_) nTf) | (refine aM ?_;  first | refine aV ?_))
      all_goals first
        | exact absurd rfl (by assumption)
        | exact dW (by first | exact .inl rfl | exact .inr rfl) (bC rfl (aA rfl)) rfl
  | h2 k n a b ks ih =>
    intro u hw hw2 hs hs2
    cases u with
    | nil =>
      rw [show sameP (.node k n a b ks) .nil = false by simp [sameP]]
      refine aJ Tryz.func10 rfl rfl (nb rfl) rfl ?_
      repeat' (first | refine aG ?_ | (refine aI ?_;  first | refine aC tabOk rfl rfl rfl (nb rfl) rfl ?_ | refine cA rfl rfl (nb rfl) ?_ | refine aY tabOk rfl rfl (nb rfl) rfl ?_) | (refine aN ?_;  first | refine aH ?_ | refine aQ ?_ | refine aT ?_ | refine aE (b := true) rfl (fun _ => ?_) nTf) | (refine aM ?_;  first | refine aV ?_))
      all_goals first
        | exact absurd rfl (by assumption)
        | exact dW (by first | exact .inl rfl | exact .inr rfl) (bC rfl (aA rfl)) rfl
    | node k' n' a' b' ks' =>
      have hw : (Tree.node k n a b ks).whole = true := by
        rcases hw with h | h
        · cases h
        · exact h
      have hw2 : (Tree.node k' n' a' b' ks').whole = true := by
        rcases hw2 with h | h
        · cases h
        · exact h
      have hl := cO ks hw
      have hl2 := cO ks' hw2
      simp only [Tree.size] at hs hs2
      have hf : ∀ i (hi : i < ks.length) (hk : i < ks'.length), ACalls Tryz.prog 10 [.imm ks[i].iv, .imm ks'[i].iv] [] (.imm (.lit (.bool (sameP ks[i] ks'[i])))) [] := fun i hi hk => by
        have h1 := List.getElem_mem hi
        have h2 := List.getElem_mem hk
        have h3 := cY h1
        have h4 := cY h2
        exact ih _ h1 _ (.inr (bL hw h1)) (.inr (bL hw2 h2)) (by omega) (by omega)
      have ce := kN ks ks' 10 sameP (by omega) (by omega) hf
      clear ih hf
      have e : sameP (.node k n a b ks) (.node k' n' a' b' ks') = ((((k == k' && n == n') && eqB a a') && eqB b b') && zipP sameP ks ks') := by rw [sameP, pI]
      rw [e]
      generalize zipP sameP ks ks' = Z at *
      refine aJ Tryz.func10 rfl rfl (nb rfl) rfl ?_
      repeat' (first | refine aG ?_ | (refine aI ?_;  first | refine aC tabOk rfl rfl rfl (nb rfl) rfl ?_ | refine cA rfl rfl (nb rfl) ?_ | (refine aK rfl rfl rfl (nb rfl) rfl rfl rfl (fun hq => ?_) (fun hq => ?_) <;> (first | (simp only [sD, sE, sB, sC, sN, sM, sT, sF] at hq; try (exfalso; omega)) | skip)) | (refine cE rfl rfl rfl (nb rfl) rfl rfl rfl (ce) (fun hq => ?_) (fun hq => ?_)) | refine aY tabOk rfl rfl (nb rfl) rfl ?_) | (refine aN ?_;  first | refine aH ?_ | refine aQ ?_ | refine aT ?_ | refine aZ ?_ | refine aE (b := false) rfl nFt (fun _ => ?_) | refine aR mixed (by kernel_rfl) ?_) | (refine aM ?_;  first | refine bA ?_) | refine bG (bF (by kernel_rfl)) ?_)
      all_goals first
        | exact absurd rfl (by assumption)
        | (refine aU (by first | exact .inl rfl | exact .inr rfl) (bC rfl (aA rfl)) rfl ?_; refine cR ?_; simp_all [eqB])
def kid0 : Tree → Tree
  | .node _ _ _ _ (c :: _) => c
  | _ => .nil
end Go.Proofs.YtocaohipfiapkaaGreat.Ab
namespace Go.Proofs.YtocaohipfiapkaaGreat.Ab
set_option linter.unusedVariables false
set_option linter.unusedSimpArgs false
attribute [local irreducible] AWP AOps AExit AThen ABlock ANoGoto FeetOk
def Tree.kids : Tree → List Tree
  | .nil => []
  | .node _ _ _ _ ks => ks
end Go.Proofs.YtocaohipfiapkaaGreat.Ab
namespace Go.Proofs.YtocaohipfiapkaaGreat.Ab
set_option linter.unusedVariables false
set_option linter.unusedSimpArgs false
attribute [local irreducible] AWP AOps AExit AThen ABlock ANoGoto FeetOk
end Go.Proofs.YtocaohipfiapkaaGreat.Ab
namespace Go.Proofs.YtocaohipfiapkaaGreat.Ab
set_option linter.unusedVariables false
set_option linter.unusedSimpArgs false
attribute [local irreducible] AWP AOps AExit AThen ABlock ANoGoto FeetOk
end Go.Proofs.YtocaohipfiapkaaGreat.Ab
namespace Go.Proofs.YtocaohipfiapkaaGreat.Ab
set_option linter.unusedVariables false
set_option linter.unusedSimpArgs false
open Go.RowKit
attribute [local irreducible] AWP AOps AExit AThen ABlock ANoGoto FeetOk
end Go.Proofs.YtocaohipfiapkaaGreat.Ab
namespace Go.Proofs.YtocaohipfiapkaaGreat.Ab
set_option linter.unusedVariables false
set_option linter.unusedSimpArgs false
attribute [local irreducible] AWP AOps AExit AThen ABlock ANoGoto FeetOk
end Go.Proofs.YtocaohipfiapkaaGreat.Ab
namespace Go.Proofs.YtocaohipfiapkaaGreat.Ab
set_option linter.unusedVariables false
set_option linter.unusedSimpArgs false
open Go.RowKit
attribute [local irreducible] AWP AOps AExit AThen ABlock ANoGoto FeetOk
theorem zL {P : Program} {f : FuncId} {args : List AV} {m m' : Mem} {r : AV} (h : ACalls P f (args.map AV.nz) m r m') : ACalls P f args m r m' :=
  ⟨h.enters, fun w M β vs ha hm hv => h.go w M β vs ha hm hv.nz⟩
end Go.Proofs.YtocaohipfiapkaaGreat.Ab
