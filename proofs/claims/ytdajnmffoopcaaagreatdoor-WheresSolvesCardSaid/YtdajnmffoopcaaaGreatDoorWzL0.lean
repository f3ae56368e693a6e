/- Words, walks and laws under the claim's statement: what it uses of them. No condition of its own. -/
import Derived.Test.YtdajnmffoopcaaaGreatDoorWzAb0
import Derived.Test.YtdajnmffoopcaaaGreatDoorWzAb1
namespace Go.Proofs.YtdajnmffoopcaaaGreatDoor.Ab
set_option linter.unusedVariables false
set_option linter.unusedSimpArgs false
inductive Tree where
  | nil
  | node (k n : Int) (name mark : ByteArray) (kids : List Tree)
mutual
def Tree.iv : Tree → IV
  | .nil => .lit (.pointer none)
  | .node k n a b kids => .ptr [.lit (.int .i64 k), .lit (.int .i64 n), .lit (.string a), .lit (.string b), .sl false kids.length (Tree.ivs kids)] 0
def Tree.ivs : List Tree → List IV
  | [] => []
  | t :: ts => Tree.iv t :: Tree.ivs ts
end
theorem dL : ∀ l : List Tree, Tree.ivs l = l.map Tree.iv
  | [] => rfl
  | t :: ts => by simp [Tree.ivs, dL ts]
theorem eG (l : List Tree) : (Tree.ivs l).length = l.length := by simp [dL]
theorem bX (l : List Tree) (j : Nat) (h : j < l.length) : (Tree.ivs l)[j * 1]? = some (l[j].iv) := by simp [dL, h]
theorem Tree.ind {motive : Tree → Prop} (h1 : motive .nil) (h2 : ∀ k n a b kids, (∀ t ∈ kids, motive t) → motive (.node k n a b kids)) (t : Tree) : motive t :=
  Tree.rec (motive_1 := motive) (motive_2 := fun ts => ∀ t ∈ ts, motive t) h1 (fun k n a b kids ih => h2 k n a b kids ih) (fun t h => by cases h) (fun t ts h1 h2 t' h => by
    rcases List.mem_cons.1 h with rfl | h
    · exact h1
    · exact h2 t' h) t
mutual
def Tree.whole : Tree → Bool
  | .nil => false
  | .node _ _ _ _ kids => Tree.wholes kids
def Tree.wholes : List Tree → Bool
  | [] => true
  | t :: ts => t.whole && Tree.wholes ts
end
mutual
def Tree.size : Tree → Nat
  | .nil => 0
  | .node _ _ _ _ kids => 1 + Tree.sizes kids
def Tree.sizes : List Tree → Nat
  | [] => 0
  | t :: ts => t.size + Tree.sizes ts
end
mutual
/-- Nodes and bytes. -/
def Tree.wt : Tree → Nat
  | .nil => 1
  | .node _ _ a b kids => 1 + a.size + b.size + Tree.wts kids
def Tree.wts : List Tree → Nat
  | [] => 0
  | t :: ts => t.wt + Tree.wts ts
end
theorem bS {t : Tree} : ∀ {l : List Tree}, Tree.wholes l = true → t ∈ l → t.whole = true
  | x :: xs, h, hm => by
    simp only [Tree.wholes, Bool.and_eq_true] at h
    rcases List.mem_cons.1 hm with rfl | hm
    · exact h.1
    · exact bS h.2 hm
theorem dE {t : Tree} : ∀ {l : List Tree}, t ∈ l → t.size ≤ Tree.sizes l
  | x :: xs, hm => by
    simp only [Tree.sizes]
    rcases List.mem_cons.1 hm with rfl | hm
    · omega
    · have := dE hm; omega
theorem cM {k n : Int} {a b : ByteArray} {kids : List Tree} {t : Tree} (h : t ∈ kids) : t.size < (Tree.node k n a b kids).size := by
  have := dE h
  simp only [Tree.size]; omega
theorem tI {t : Tree} (h : t.whole = true) : 1 ≤ t.size := by cases t <;> simp [Tree.whole, Tree.size] at *
theorem cC : ∀ (l : List Tree), Tree.wholes l = true → l.length ≤ Tree.sizes l
  | [], _ => Nat.le_refl _
  | t :: ts, h => by
    simp only [Tree.wholes, Bool.and_eq_true] at h
    have := cC ts h.2
    have := tI h.1
    simp only [Tree.sizes, List.length_cons]; omega
theorem Tree.sind {motive : Tree → Prop} (h : ∀ t, (∀ t', t'.size < t.size → motive t') → motive t) (t : Tree) : motive t := by
  have key : ∀ n (t : Tree), t.size = n → motive t := fun n => by
    induction n using Nat.strongRecOn with
    | _ n ih => exact fun t e => h t fun t' ht => ih t'.size (by omega) t' rfl
  exact key t.size t rfl
theorem cF {t : Tree} (h : t.whole = true) : ∃ k n a b kids, t = .node k n a b kids := by cases t with | nil => simp [Tree.whole] at h | node k n a b kids => exact ⟨k, n, a, b, kids, rfl⟩
end Go.Proofs.YtdajnmffoopcaaaGreatDoor.Ab
namespace Go.Proofs.YtdajnmffoopcaaaGreatDoor.Ab
set_option linter.unusedVariables false
set_option linter.unusedSimpArgs false
attribute [local irreducible] AWP AOps AExit AThen ABlock ANoGoto FeetOk
def eqB (a b : ByteArray) : Bool := a.toList == b.toList
def emptyB : ByteArray := ⟨#[]⟩
def labelP (s : ByteArray) : Bool := decide ((1 : Int) ≤ s.size) && decide ((s.size : Int) ≤ 160)
set_option maxRecDepth 10000 in
theorem yM (s : ByteArray) : ACalls Tryz.prog 90 [.imm (.lit (.string s))] [] (.imm (.lit (.bool (labelP s)))) [] := by
  refine aJ Tryz.func90 rfl rfl (nb rfl) rfl ?_
  repeat' (first | refine aG ?_ | (refine aI ?_;  first | refine aD tabOk rfl rfl rfl (nb rfl) rfl ?_ | refine bE rfl rfl (nb rfl) ?_ | (refine aM rfl rfl rfl (nb rfl) rfl rfl rfl (fun hq => ?_) (fun hq => ?_) <;> (first | (simp only [sD, sE, sB, sC, sN, sM, sT, sF] at hq; try (exfalso; omega)) | skip)) | refine bB tabOk rfl rfl (nb rfl) rfl ?_) | (refine aN ?_;  first | refine aH ?_ | refine aT ?_))
  all_goals (refine aV (by first | exact .inl rfl | exact .inr rfl) (aZ rfl (aC rfl)) rfl ?_; refine cO ?_; simp_all [labelP] <;> omega)
def bareP (n : Int) (a b : ByteArray) (nm nu : Bool) : Bool := (eqB b emptyB && (nm || eqB a emptyB)) && (nu || (n == 0))
set_option maxRecDepth 10000 in
theorem oH (k n : Int) (a b : ByteArray) (kids : List Tree) (nm nu : Bool) : ACalls Tryz.prog 69 [.imm (Tree.iv (.node k n a b kids)), .imm (.lit (.bool nm)), .imm (.lit (.bool nu))] [] (.imm (.lit (.bool (bareP n a b nm nu)))) [] := by
  refine aJ Tryz.func69 rfl rfl (nb rfl) rfl ?_
  repeat' (first | refine aG ?_ | (refine aI ?_;  first | refine aD tabOk rfl rfl rfl (nb rfl) rfl ?_ | refine bE rfl rfl (nb rfl) ?_ | (refine aM rfl rfl rfl (nb rfl) rfl rfl rfl (fun hq => ?_) (fun hq => ?_) <;> (first | (simp only [sD, sE, sB, sC, sN, sM, sT, sF] at hq; try (exfalso; omega)) | skip)) | ((fail_if_success (refine cB (b := true) rfl rfl rfl ?_)); (fail_if_success (refine cB (b := false) rfl rfl rfl ?_)); refine cR rfl rfl rfl (fun hq => ?_) (fun hq => ?_) <;> first | subst hq | (first | (simp only [sD, sE, sB, sC, sN, sM, sT, sF] at hq; try (exfalso; omega)) | skip))) | (refine aN ?_;  first | refine aH ?_ | refine aT ?_))
  all_goals (refine aV (by first | exact .inl rfl | exact .inr rfl) (aZ rfl (aC rfl)) rfl ?_; refine cO ?_; simp_all [bareP, eqB, emptyB])
mutual
def isKindP : Tree → Bool
  | .nil => false
  | .node k n a b kids => if k = 100 then bareP n a b false false && ((kids.length : Int) == 0) else if k = 101 then bareP n a b false false && ((kids.length : Int) == 2) && (isKindPs kids).all id else false
def isKindPs : List Tree → List Bool
  | [] => []
  | t :: ts => isKindP t :: isKindPs ts
end
theorem fI : ∀ l : List Tree, isKindPs l = l.map isKindP
  | [] => rfl
  | t :: ts => by simp [isKindPs, fI ts]
theorem two {α : Type} {l : List α} (h : l.length = 2) : ∃ x y, l = [x, y] := by
  match l, h with
  | [x, y], _ => exact ⟨x, y, rfl⟩
set_option maxRecDepth 10000 in
theorem vN (t : Tree) (h : t.whole = true) : ACalls Tryz.prog 72 [.imm t.iv] [] (.imm (.lit (.bool (isKindP t)))) [] := by
  induction t using Tree.ind with
  | h1 => simp [Tree.whole] at h
  | h2 k n a b kids ih =>
    refine aJ Tryz.func72 rfl rfl (nb rfl) rfl ?_
    repeat' (first | refine aG ?_ | (refine aI ?_;  first | refine aD tabOk rfl rfl rfl (nb rfl) rfl ?_ | refine bE rfl rfl (nb rfl) ?_ | (refine aM rfl rfl rfl (nb rfl) rfl rfl rfl (fun hq => ?_) (fun hq => ?_) <;> (first | (simp only [sD, sE, sB, sC, sN, sM, sT, sF] at hq; try (exfalso; omega)) | skip)) | (refine bT rfl rfl rfl (nb rfl) rfl rfl rfl (oH _ _ _ _ _ _ _) (fun hq => ?_) (fun hq => ?_)) | (refine bT rfl rfl rfl (nb rfl) rfl rfl rfl (ih _ (List.getElem_mem _) (bS h (List.getElem_mem _))) (fun hq => ?_) (fun hq => ?_)) | refine bB tabOk rfl rfl (nb rfl) rfl ?_ | refine bN tabOk rfl rfl rfl (nb rfl) rfl rfl rfl rfl (by first | rfl | omega) (by first | omega | simp) ?_ | refine bC tabOk rfl rfl rfl (nb rfl) rfl rfl rfl (bX _ _ (by first | assumption | omega)) ?_) | (refine aN ?_;  first | refine aH ?_ | refine aQ ?_ | refine aY ?_ | refine aT ?_ | refine aU ?_ | refine aA (b := true) rfl (fun _ => ?_) nTf | refine aA (b := false) rfl nFt (fun _ => ?_)) | (refine aK ?_;  first | refine aX ?_ | refine aR ?_) | (refine bA ?_;  first | refine bU ?_ | refine bF ?_))
    all_goals (refine aV (by first | exact .inl rfl | exact .inr rfl) (aZ rfl (aC rfl)) rfl ?_; refine cO ?_; by_cases h2 : kids.length = 2 <;> first | (obtain ⟨x, y, rfl⟩ := two h2; simp_all [isKindP, isKindPs]; done) | (simp_all [isKindP]; done) | (simp_all [isKindP]; omega))
end Go.Proofs.YtdajnmffoopcaaaGreatDoor.Ab
namespace Go.Proofs.YtdajnmffoopcaaaGreatDoor.Ab
set_option linter.unusedVariables false
set_option linter.unusedSimpArgs false
def Tree.name : Tree → ByteArray
  | .nil => emptyB
  | .node _ _ a _ _ => a
def ltB (a b : ByteArray) : Bool := Op.bytesLess a.toList b.toList
def risingP : List Tree → Bool
  | t :: u :: r => ltB t.name u.name && risingP (u :: r)
  | _ => true
def distinctP : List Tree → Bool
  | [] => true
  | t :: r => !(r.any fun u => eqB u.name t.name) && distinctP r
mutual
def isConP : Tree → Bool
  | .nil => false
  | .node k n a b kids => bareP n a b false (k == 110) &&
     (if k = 110 then decide (n ≥ 0) && decide (n ≤ 65536) && ((kids.length : Int) == 0)
      else if k = 111 ∨ k = 112 ∨ k = 113 then ((kids.length : Int) == 0)
      else if k = 114 ∨ k = 120 then ((kids.length : Int) == 2) && isCons kids
      else if k = 115 then namedPs kids 116 && risingP kids
      else if k = 117 ∨ k = 118 ∨ k = 119 then isCon2 kids
      else if k = 121 then decide ((kids.length : Int) > 0) && namedPs kids 122 && distinctP kids
      else false)
def isCons : List Tree → Bool
  | [] => true
  | t :: ts => isConP t && isCons ts
def namedPs : List Tree → Int → Bool
  | [], _ => true
  | .nil :: _, _ => false
  | .node k n a b ks :: ts, kind => (k == kind && bareP n a b true false && labelP a && isCon1 ks) && namedPs ts kind
def isCon1 : List Tree → Bool
  | [c] => isConP c
  | _ => false
def isCon2 : List Tree → Bool
  | [x, y] => isKindP x && isConP y
  | _ => false
end
/-- One field, one case. -/
def okNamed (kind : Int) : Tree → Bool
  | .nil => false
  | .node k n a b ks => k == kind && bareP n a b true false && labelP a && isCon1 ks
theorem dV (kind : Int) (l : List Tree) : namedPs l kind = l.all (okNamed kind) := by
  induction l with
  | nil => simp [namedPs]
  | cons t ts ih => cases t <;> simp [namedPs, okNamed, ih]
theorem kL (l : List Tree) : isCons l = l.all isConP := by
  induction l with
  | nil => simp [isCons]
  | cons t ts ih => simp [isCons, ih]
theorem one_of {α : Type} {l : List α} (h : l.length = 1) : ∃ x, l = [x] := by
  match l, h with
  | [x], _ => exact ⟨x, rfl⟩
theorem jQ {l : List Tree} (h : l.length ≠ 1) : isCon1 l = false := by
  match l, h with
  | [], _ => simp [isCon1]
  | [x], h => simp at h
  | x :: y :: r, _ => simp [isCon1]
theorem eZ {l : List Tree} (h : l.length ≠ 2) : isCon2 l = false := by
  match l, h with
  | [], _ => simp [isCon2]
  | [x], _ => simp [isCon2]
  | [x, y], h => simp at h
  | x :: y :: z :: r, _ => simp [isCon2]
theorem iE {α : Type} {p : α → Bool} {l : List α} (h : ∀ i (hi : i < l.length), p l[i] = true) : l.all p = true := by
  rw [List.all_eq_true]
  intro x hx
  obtain ⟨i, hi, rfl⟩ := List.getElem_of_mem hx
  exact h i hi
theorem iW {α : Type} {p : α → Bool} {l : List α} {j : Nat} (hj : j < l.length) (h : p l[j] = false) : l.all p = false := by
  cases hc : l.all p with
  | false => rfl
  | true =>
    rw [List.all_eq_true] at hc
    have := hc l[j] (List.getElem_mem hj)
    rw [h] at this
    cases this
theorem dR : ∀ (l : List Tree), risingP l = true ↔ ∀ i (hi : i + 1 < l.length), ltB (l[i]'(by omega)).name l[i + 1].name = true
  | [] => by simp [risingP]
  | [x] => by simp [risingP]
  | t :: u :: r => by
    rw [risingP, Bool.and_eq_true, dR (u :: r)]
    constructor
    · rintro ⟨h1, h2⟩ i hi
      cases i with
      | zero => simpa using h1
      | succ i => exact h2 i (by simpa using hi)
    · intro h
      exact ⟨h 0 (by simp), fun i hi => h (i + 1) (by simpa using hi)⟩
theorem dO (a b : ByteArray) : eqB a b = true ↔ a = b := by
  unfold eqB
  rw [beq_iff_eq]
  constructor
  · intro h
    have e : ∀ x : ByteArray, x = ⟨x.toList.toArray⟩ := fun x => by
      rw [ByteArray.toList_eq]
    rw [e a, e b, h]
  · rintro rfl; rfl
theorem fD : ∀ (l : List Tree), distinctP l = true ↔ ∀ i j (hij : i < j) (hj : j < l.length), eqB l[j].name (l[i]'(by omega)).name = false
  | [] => by simp [distinctP]
  | t :: r => by
    rw [distinctP, Bool.and_eq_true, fD r]
    constructor
    · rintro ⟨h1, h2⟩ i j hij hj
      cases j with
      | zero => omega
      | succ j =>
        cases i with
        | zero =>
          simp only [Bool.not_eq_true', List.any_eq_false] at h1
          have hj' : j < r.length := by simpa using hj
          have := h1 r[j] (List.getElem_mem hj')
          exact Bool.eq_false_iff.2 this
        | succ i => exact h2 i j (by omega) (by simpa using hj)
    · intro h
      refine ⟨?_, fun i j hij hj => h (i + 1) (j + 1) (by omega) (by simpa using hj)⟩
      simp only [Bool.not_eq_true', List.any_eq_false]
      intro u hu
      obtain ⟨j, hj, rfl⟩ := List.getElem_of_mem hu
      exact Bool.eq_false_iff.1 (h 0 (j + 1) (by omega) (by simpa using hj))
end Go.Proofs.YtdajnmffoopcaaaGreatDoor.Ab
namespace Go.Proofs.YtdajnmffoopcaaaGreatDoor.Ab
set_option linter.unusedVariables false
set_option linter.unusedSimpArgs false
attribute [local irreducible] AWP AOps AExit AThen ABlock ANoGoto FeetOk
/-- Kid j, written out. -/
theorem gM {kids : List Tree} (h : Tree.wholes kids = true) {j : Nat} (hj : j < kids.length) : ∃ k n a b ks, kids[j] = Tree.node k n a b ks ∧ (Tree.ivs kids)[j * 1]? = some (Tree.iv (.node k n a b ks)) ∧ Tree.wholes ks = true := by
  obtain ⟨k, n, a, b, ks, e⟩ := cF (bS h (List.getElem_mem hj))
  have hw := bS h (List.getElem_mem hj)
  rw [e] at hw
  exact ⟨k, n, a, b, ks, e, by rw [bX _ _ hj, e], hw⟩
set_option maxHeartbeats 4000000 in
set_option maxRecDepth 10000 in
theorem yN (k n : Int) (a b : ByteArray) (kids : List Tree) (kind : Int) (h : Tree.wholes kids = true) (hl : kids.length < 1000000000)
    (hc : ∀ t', t'.size < (Tree.node k n a b kids).size → t'.whole = true → ACalls Tryz.prog 42 [.imm t'.iv] [] (.imm (.lit (.bool (isConP t')))) []) :
    ACalls Tryz.prog 70 [.imm (Tree.iv (.node k n a b kids)), .imm (.lit (.int .i64 kind))] [] (.imm (.lit (.bool (namedPs kids kind)))) [] := by
  refine aJ Tryz.func70 rfl rfl (nb rfl) rfl ?_
  repeat' (first | refine aG ?_ | (refine aI ?_;  first | refine aD tabOk rfl rfl rfl (nb rfl) rfl ?_ | refine bB tabOk rfl rfl (nb rfl) rfl ?_) | (refine aN ?_;  first | refine aH ?_ | refine aQ ?_ | refine aY ?_))
  refine cI (ι := {j : Nat // j ≤ kids.length ∧ ∀ i (hi : i < kids.length), i < j → okNamed kind kids[i] = true}) (fun j => S.f ⟨[(12, .imm (.lit (.int .i64 (j.1 : Int)))), (11, .imm (.lit (.int .i64 (kids.length : Int)))), (10, .imm (.sl false kids.length (Tree.ivs kids))), (1, .imm (.lit (.int .i64 kind)))], []⟩) (fun j => kids.length - j.1) ⟨0, Nat.zero_le _, fun i _ hi => absurd hi (Nat.not_lt_zero _)⟩ (cA (by repeat' first | exact trivial | refine ⟨rfl, ?_⟩) (by repeat' first | exact trivial | refine ⟨rfl, ?_⟩)) ?_
  rintro ⟨j, hj, hok⟩
  dsimp only
  by_cases hlt : j < kids.length
  · obtain ⟨k1, n1, a1, b1, ks1, e1, hget, hw1⟩ := gM h hlt
    have hsz : ∀ i (hi : i < ks1.length), ks1[i].size < (Tree.node k n a b kids).size := fun i hi => by
      have h1 := cM (k := k1) (n := n1) (a := a1) (b := b1) (List.getElem_mem hi)
      have h2 := cM (k := k) (n := n) (a := a) (b := b) (List.getElem_mem hlt)
      rw [e1] at h2
      omega
    have hbad : okNamed kind (Tree.node k1 n1 a1 b1 ks1) = false → namedPs kids kind = false := fun hb => by
      rw [dV]; exact iW hlt (by rw [e1]; exact hb)
    have hgood : okNamed kind (Tree.node k1 n1 a1 b1 ks1) = true → ∀ i (hi : i < kids.length), i < j + 1 → okNamed kind kids[i] = true := fun hb i hi hij => by
      by_cases e : i = j
      · subst e; rw [e1]; exact hb
      · exact hok i hi (by omega)
    repeat' (first | refine aG ?_ | (refine aI ?_;  first | refine aD tabOk rfl rfl rfl (nb rfl) rfl ?_ | refine bE rfl rfl (nb rfl) ?_ | (refine aM rfl rfl rfl (nb rfl) rfl rfl rfl (fun hq => ?_) (fun hq => ?_) <;> (first | (simp only [sD, sE, sB, sC, sN, sM, sT, sF] at hq; try (exfalso; omega)) | skip)) | (refine bT rfl rfl rfl (nb rfl) rfl rfl rfl (oH _ _ _ _ _ _ _) (fun hq => ?_) (fun hq => ?_)) | (refine bT rfl rfl rfl (nb rfl) rfl rfl rfl (yM _) (fun hq => ?_) (fun hq => ?_)) | (refine bT rfl rfl rfl (nb rfl) rfl rfl rfl (hc _ (hsz _ _) (bS hw1 (List.getElem_mem _))) (fun hq => ?_) (fun hq => ?_)) | refine bP rfl rfl rfl (nb rfl) rfl rfl (by omega) ?_ | refine bB tabOk rfl rfl (nb rfl) rfl ?_ | refine bG tabOk rfl rfl rfl (nb rfl) rfl rfl rfl rfl (by first | assumption | omega) ?_ | refine bN tabOk rfl rfl rfl (nb rfl) rfl rfl rfl rfl (by first | rfl | omega) (by first | omega | simp) ?_ | refine bC tabOk rfl rfl rfl (nb rfl) rfl rfl rfl (by assumption) ?_ | refine bC tabOk rfl rfl rfl (nb rfl) rfl rfl rfl (bX _ _ (by first | assumption | omega)) ?_) | (refine aN ?_;  first | refine aH ?_ | refine aQ ?_ | refine bH ?_ | refine aY ?_ | refine aT ?_ | refine aU ?_ | refine aA (b := true) rfl (fun _ => ?_) nTf | refine aA (b := false) rfl nFt (fun _ => ?_)) | (refine aK ?_;  first | refine aX ?_ | refine aR ?_) | (refine bA ?_;  first | refine bU ?_ | refine bF ?_))
    all_goals first
      | (refine aV (by first | exact .inl rfl | exact .inr rfl) (aZ rfl (aC rfl)) rfl ?_; refine cO (hbad ?_).symm; by_cases h1 : ks1.length = 1 <;> first | (obtain ⟨c, rfl⟩ := one_of h1; simp_all [okNamed, isCon1]; done) | (exfalso; omega) | (simp_all [okNamed, jQ]; done))
      | exact ⟨⟨j + 1, hlt, hgood (by obtain ⟨c, rfl⟩ := one_of (l := ks1) (by omega); simp_all [okNamed, isCon1])⟩, (by show kids.length - (j + 1) < kids.length - j; omega), (cA (by repeat' first | exact trivial | refine ⟨rfl, ?_⟩) (by repeat' first | exact trivial | refine ⟨rfl, ?_⟩))⟩
  · repeat' (first | refine aG ?_ | (refine aI ?_;  first | refine aD tabOk rfl rfl rfl (nb rfl) rfl ?_ | (refine aM rfl rfl rfl (nb rfl) rfl rfl rfl (fun hq => ?_) (fun hq => ?_) <;> (first | (simp only [sD, sE, sB, sC, sN, sM, sT, sF] at hq; try (exfalso; omega)) | skip))) | (refine aN ?_;  first | refine aH ?_ | refine aQ ?_ | refine aT ?_ | refine bW ?_ | refine aA (b := false) rfl nFt (fun _ => ?_)) | (refine aK ?_;  first | refine aX ?_ | refine bM ?_) | (refine bA ?_;  first | refine bI ?_))
    all_goals (refine aV (by first | exact .inl rfl | exact .inr rfl) (aZ rfl (aC rfl)) rfl ?_; refine cO ?_; rw [dV]; exact (iE fun i hi => hok i hi (by omega)).symm)
end Go.Proofs.YtdajnmffoopcaaaGreatDoor.Ab
namespace Go.Proofs.YtdajnmffoopcaaaGreatDoor.Ab
set_option linter.unusedVariables false
set_option linter.unusedSimpArgs false
attribute [local irreducible] AWP AOps AExit AThen ABlock ANoGoto FeetOk
set_option maxHeartbeats 4000000 in
set_option maxRecDepth 10000 in
theorem vO (k n : Int) (a b : ByteArray) (kids : List Tree) (h : Tree.wholes kids = true) (hl : kids.length < 1000000000) :
    ACalls Tryz.prog 71 [.imm (Tree.iv (.node k n a b kids))] [] (.imm (.lit (.bool (risingP kids)))) [] := by
  refine aJ Tryz.func71 rfl rfl (nb rfl) rfl ?_
  repeat' (first | refine aG ?_ | (refine aI ?_;  first | refine aD tabOk rfl rfl rfl (nb rfl) rfl ?_) | (refine aN ?_;  first | refine aH ?_ | refine aQ ?_ | refine aY ?_))
  refine cI (ι := {j : Nat // 1 ≤ j ∧ (j ≤ kids.length ∨ j = 1) ∧ ∀ i (hi : i + 1 < kids.length), i + 1 < j → ltB (kids[i]'(by omega)).name kids[i + 1].name = true}) (fun j => S.f ⟨[(3, .imm (.lit (.int .i64 (j.1 : Int)))), (0, .imm (Tree.iv (.node k n a b kids)))], []⟩) (fun j => kids.length - j.1) ⟨1, Nat.le_refl _, .inr rfl, fun i _ hi => by omega⟩ (cA (by repeat' first | exact trivial | refine ⟨rfl, ?_⟩) (by repeat' first | exact trivial | refine ⟨rfl, ?_⟩)) ?_
  rintro ⟨j, hj1, hj, hok⟩
  dsimp only
  by_cases hlt : j < kids.length
  · obtain ⟨k1, n1, a1, b1, ks1, e1, hget, hw1⟩ := gM h hlt
    obtain ⟨k0, n0, a0, b0, ks0, e0, hget0, hw0⟩ := gM h (j := ((j : Int) - 1).toNat) (by omega)
    have e2 : ∀ i, i + 1 = j → ∀ (hi : i + 1 < kids.length), ltB (kids[i]'(by omega)).name kids[i + 1].name = Op.bytesLess a0.toList a1.toList := fun i hij hi => by
      have hi2 : ((j : Int) - 1).toNat = i := by omega
      have x0 : kids[i]'(by omega) = Tree.node k0 n0 a0 b0 ks0 := by simpa only [hi2] using e0
      have x1 : kids[i + 1] = Tree.node k1 n1 a1 b1 ks1 := by simpa only [hij] using e1
      rw [x0, x1]; rfl
    repeat' (first | refine aG ?_ | (refine aI ?_;  first | refine aD tabOk rfl rfl rfl (nb rfl) rfl ?_ | (refine aM rfl rfl rfl (nb rfl) rfl rfl rfl (fun hq => ?_) (fun hq => ?_) <;> (first | (simp only [sD, sE, sB, sC, sN, sM, sT, sF] at hq; try (exfalso; omega)) | skip)) | refine bP rfl rfl rfl (nb rfl) rfl rfl (by omega) ?_ | refine bV rfl rfl rfl (nb rfl) rfl rfl rfl (by omega) (by omega) ?_ | refine bB tabOk rfl rfl (nb rfl) rfl ?_ | refine bG tabOk rfl rfl rfl (nb rfl) rfl rfl rfl rfl (by first | assumption | omega) ?_ | refine bN tabOk rfl rfl rfl (nb rfl) rfl rfl rfl rfl (by first | rfl | omega) (by first | omega | simp) ?_ | refine bC tabOk rfl rfl rfl (nb rfl) rfl rfl rfl (by assumption) ?_) | (refine aN ?_;  first | refine aH ?_ | refine aQ ?_ | refine bH ?_ | refine aY ?_ | refine aT ?_ | refine aU ?_ | refine aA (b := true) rfl (fun _ => ?_) nTf | refine aA (b := false) rfl nFt (fun _ => ?_) | refine aW mixed (by kernel_rfl) ?_) | (refine aK ?_;  first | refine aX ?_ | refine aR ?_) | (refine bA ?_;  first | refine bU ?_ | refine bF ?_) | refine bQ (bL (by kernel_rfl)) ?_)
    all_goals first
      | (refine aV (by first | exact .inl rfl | exact .inr rfl) (aZ rfl (aC rfl)) rfl ?_; refine cO ?_; symm; rw [Bool.eq_false_iff]; intro hr; rw [dR] at hr; have := hr (j - 1) (by omega); rw [e2 (j - 1) (by omega)] at this; simp_all; done)
      | exact ⟨⟨j + 1, by omega, .inl hlt, fun i hi hij => by by_cases e : i + 1 = j <;> first | (rw [e2 i e]; simp_all; done) | exact hok i hi (by omega)⟩, (by show kids.length - (j + 1) < kids.length - j; omega), (cA (by repeat' first | exact trivial | refine ⟨rfl, ?_⟩) (by repeat' first | exact trivial | refine ⟨rfl, ?_⟩))⟩
  · repeat' (first | refine aG ?_ | (refine aI ?_;  first | refine aD tabOk rfl rfl rfl (nb rfl) rfl ?_ | (refine aM rfl rfl rfl (nb rfl) rfl rfl rfl (fun hq => ?_) (fun hq => ?_) <;> (first | (simp only [sD, sE, sB, sC, sN, sM, sT, sF] at hq; try (exfalso; omega)) | skip)) | refine bB tabOk rfl rfl (nb rfl) rfl ?_) | (refine aN ?_;  first | refine aH ?_ | refine aQ ?_ | refine aT ?_ | refine bW ?_ | refine aA (b := false) rfl nFt (fun _ => ?_)) | (refine aK ?_;  first | refine aX ?_ | refine bM ?_) | (refine bA ?_;  first | refine bI ?_))
    all_goals (refine aV (by first | exact .inl rfl | exact .inr rfl) (aZ rfl (aC rfl)) rfl ?_; refine cO ?_; symm; rw [dR]; exact fun i hi => hok i hi (by omega))
/-- The map of the labels that were met. -/
def seenL (l : List Tree) : List (ByteArray × IV) := l.map fun t => (t.name, .lit (.bool true))
theorem tJ (l : List Tree) (key : ByteArray) : mget (seenL l) key = cond (l.any fun u => eqB u.name key) (some (.lit (.bool true))) none := by
  induction l with
  | nil => rfl
  | cons t l ih =>
    simp only [seenL, List.map_cons, mget, List.any_cons]
    cases hb : eqB t.name key with
    | true => rw [if_pos ((dO _ _).1 hb)]; simp
    | false =>
      rw [if_neg (fun e => by rw [(dO _ _).2 e] at hb; cases hb)]
      simp only [Bool.false_or]
      exact ih
theorem yO (l : List Tree) (key : ByteArray) : (mget (seenL l) key).getD (.lit (.bool false)) = .lit (.bool (l.any fun u => eqB u.name key)) := by
  rw [tJ]
  cases l.any (fun u => eqB u.name key) <;> rfl
theorem yP {l : List Tree} {key : ByteArray} (h : (l.any fun u => eqB u.name key) = false) : mget (seenL l) key = none := by
  rw [tJ, h]; rfl
theorem yQ (l : List Tree) (t : Tree) (j : Nat) (hj : j < l.length) (e : l[j] = t) : seenL (l.take j) ++ [(t.name, .lit (.bool true))] = seenL (l.take (j + 1)) := by
  rw [List.take_add_one]
  simp [seenL, hj, e]
set_option maxHeartbeats 4000000 in
set_option maxRecDepth 10000 in
theorem vP (k n : Int) (a b : ByteArray) (kids : List Tree) (h : Tree.wholes kids = true) (hl : kids.length < 1000000000) :
    ACalls Tryz.prog 73 [.imm (Tree.iv (.node k n a b kids))] [] (.imm (.lit (.bool (distinctP kids)))) [] := by
  refine aJ Tryz.func73 rfl rfl (nb rfl) rfl ?_
  repeat' (first | refine aG ?_ | (refine aI ?_;  first | refine aD tabOk rfl rfl rfl (nb rfl) rfl ?_ | refine rC rfl rfl rfl (nb rfl) rfl rfl rfl ?_ | refine bB tabOk rfl rfl (nb rfl) rfl ?_) | (refine aN ?_;  first | refine aH ?_ | refine aQ ?_ | refine aY ?_))
  refine cI (ι := {j : Nat × List (ByteArray × IV) // j.1 ≤ kids.length ∧ j.2 = seenL (kids.take j.1) ∧ ∀ i i' (h1 : i < i') (h2 : i' < kids.length), i' < j.1 → eqB kids[i'].name (kids[i]'(by omega)).name = false}) (fun j => S.f ⟨[(12, .imm (.lit (.int .i64 (j.1.1 : Int)))), (11, .imm (.lit (.int .i64 (kids.length : Int)))), (10, .imm (.sl false kids.length (Tree.ivs kids))), (3, .mp 6)], [(6, .map j.1.2)]⟩) (fun j => kids.length - j.1.1) ⟨(0, []), Nat.zero_le _, rfl, fun i i' _ _ hi => absurd hi (Nat.not_lt_zero _)⟩ (cA (by repeat' first | exact trivial | refine ⟨rfl, ?_⟩) (by repeat' first | exact trivial | refine ⟨rfl, ?_⟩)) ?_
  rintro ⟨⟨j, l⟩, hj, hs, hok⟩
  dsimp only at hj hs hok ⊢
  by_cases hlt : j < kids.length
  · obtain ⟨k1, n1, a1, b1, ks1, e1, hget, hw1⟩ := gM h hlt
    have hb := yO (kids.take j) a1
    rw [← hs] at hb
    have hno : ((kids.take j).any fun u => eqB u.name a1) = false → mget l a1 = none := fun h => by rw [hs]; exact yP h
    have hmeet : ((kids.take j).any fun u => eqB u.name a1) = true → distinctP kids = false := fun h => by
      rw [Bool.eq_false_iff]
      intro hd
      rw [fD] at hd
      rw [List.any_eq_true] at h
      obtain ⟨u, hu, hub⟩ := h
      obtain ⟨i, hi, rfl⟩ := List.getElem_of_mem hu
      simp only [List.length_take] at hi
      have h2 := hd i j (by omega) hlt
      rw [e1] at h2
      simp only [List.getElem_take] at hub
      rw [(dO _ _).1 hub] at h2
      have h3 := (dO a1 a1).2 rfl
      rw [show Tree.name (Tree.node k1 n1 a1 b1 ks1) = a1 from rfl, h3] at h2
      cases h2
    have hnext : ((kids.take j).any fun u => eqB u.name a1) = false → ∀ i i' (h1 : i < i') (h2 : i' < kids.length), i' < j + 1 → eqB kids[i'].name (kids[i]'(by omega)).name = false := fun h i i' h1 h2 h3 => by
      by_cases e : i' = j
      · subst e
        rw [List.any_eq_false] at h
        have := h kids[i] (List.mem_iff_getElem.2 ⟨i, by simp; omega, by simp⟩)
        rw [e1]
        rw [Bool.eq_false_iff]
        intro hc
        exact this ((dO _ _).2 ((dO _ _).1 hc).symm)
      · exact hok i i' h1 h2 (by omega)
    repeat' (first | refine aG ?_ | (refine aI ?_;  first | refine aD tabOk rfl rfl rfl (nb rfl) rfl ?_ | (refine aM rfl rfl rfl (nb rfl) rfl rfl rfl (fun hq => ?_) (fun hq => ?_) <;> (first | (simp only [sD, sE, sB, sC, sN, sM, sT, sF] at hq; try (exfalso; omega)) | skip)) | (refine rD tabOk rfl rfl rfl (nb rfl) rfl rfl rfl rfl rfl rfl rfl rfl (hb) (fun hq => ?_) (fun hq => ?_)) | refine tC tabOk rfl rfl rfl rfl rfl rfl rfl rfl rfl rfl rfl (hno (by assumption)) ?_ | refine bP rfl rfl rfl (nb rfl) rfl rfl (by omega) ?_ | refine bG tabOk rfl rfl rfl (nb rfl) rfl rfl rfl rfl (by first | assumption | omega) ?_ | refine bC tabOk rfl rfl rfl (nb rfl) rfl rfl rfl (by assumption) ?_) | (refine aN ?_;  first | refine aH ?_ | refine aQ ?_ | refine bH ?_ | refine aY ?_ | refine aT ?_ | refine aU ?_ | refine aA (b := true) rfl (fun _ => ?_) nTf | refine aA (b := false) rfl nFt (fun _ => ?_)) | (refine aK ?_;  first | refine aX ?_ | refine aR ?_) | (refine bA ?_;  first | refine bU ?_ | refine bF ?_))
    all_goals first
      | (refine aV (by first | exact .inl rfl | exact .inr rfl) (aZ rfl (aC rfl)) rfl ?_; exact cO (hmeet (by assumption)).symm)
      | exact ⟨⟨(j + 1, l ++ [(a1, .lit (.bool true))]), hlt, (hs ▸ yQ kids _ j hlt e1), hnext (by assumption)⟩, (by show kids.length - (j + 1) < kids.length - j; omega), (cA (by repeat' first | exact trivial | refine ⟨rfl, ?_⟩) (by repeat' first | exact trivial | refine ⟨rfl, ?_⟩))⟩
  · repeat' (first | refine aG ?_ | (refine aI ?_;  first | refine aD tabOk rfl rfl rfl (nb rfl) rfl ?_ | (refine aM rfl rfl rfl (nb rfl) rfl rfl rfl (fun hq => ?_) (fun hq => ?_) <;> (first | (simp only [sD, sE, sB, sC, sN, sM, sT, sF] at hq; try (exfalso; omega)) | skip))) | (refine aN ?_;  first | refine aH ?_ | refine aQ ?_ | refine aT ?_ | refine bW ?_ | refine aA (b := false) rfl nFt (fun _ => ?_)) | (refine aK ?_;  first | refine aX ?_ | refine bM ?_) | (refine bA ?_;  first | refine bI ?_))
    all_goals (refine aV (by first | exact .inl rfl | exact .inr rfl) (aZ rfl (aC rfl)) rfl ?_; refine cO ?_; symm; rw [fD]; exact fun i i' h1 h2 => hok i i' h1 h2 (by omega))
end Go.Proofs.YtdajnmffoopcaaaGreatDoor.Ab
namespace Go.Proofs.YtdajnmffoopcaaaGreatDoor.Ab
set_option linter.unusedVariables false
set_option linter.unusedSimpArgs false
attribute [local irreducible] AWP AOps AExit AThen ABlock ANoGoto FeetOk
set_option maxHeartbeats 8000000 in
set_option maxRecDepth 10000 in
theorem yR (t : Tree) : t.whole = true → t.size ≤ 1000000 → ACalls Tryz.prog 42 [.imm t.iv] [] (.imm (.lit (.bool (isConP t)))) [] := by
  induction t using Tree.sind with
  | h t ih =>
    intro h hs
    obtain ⟨k, n, a, b, kids, rfl⟩ := cF h
    have hl : kids.length < 1000000000 := by have := cC kids h; simp only [Tree.size] at hs; omega
    have hc : ∀ t', t'.size < (Tree.node k n a b kids).size → t'.whole = true → ACalls Tryz.prog 42 [.imm t'.iv] [] (.imm (.lit (.bool (isConP t')))) [] := fun t' h1 h2 => ih t' h1 h2 (by omega)
    refine aJ Tryz.func42 rfl rfl (nb rfl) rfl ?_
    repeat' (first | refine aG ?_ | (refine aI ?_;  first | refine aD tabOk rfl rfl rfl (nb rfl) rfl ?_ | refine bE rfl rfl (nb rfl) ?_ | (refine aM rfl rfl rfl (nb rfl) rfl rfl rfl (fun hq => ?_) (fun hq => ?_) <;> (first | (simp only [sD, sE, sB, sC, sN, sM, sT, sF] at hq; try (exfalso; omega)) | skip)) | (refine bT rfl rfl rfl (nb rfl) rfl rfl rfl (oH _ _ _ _ _ _ _) (fun hq => ?_) (fun hq => ?_)) | (refine bT rfl rfl rfl (nb rfl) rfl rfl rfl (yN _ _ _ _ _ _ h hl hc) (fun hq => ?_) (fun hq => ?_)) | (refine bT rfl rfl rfl (nb rfl) rfl rfl rfl (vO _ _ _ _ _ h hl) (fun hq => ?_) (fun hq => ?_)) | (refine bT rfl rfl rfl (nb rfl) rfl rfl rfl (vP _ _ _ _ _ h hl) (fun hq => ?_) (fun hq => ?_)) | (refine bT rfl rfl rfl (nb rfl) rfl rfl rfl (vN _ (bS h (List.getElem_mem _))) (fun hq => ?_) (fun hq => ?_)) | (refine bT rfl rfl rfl (nb rfl) rfl rfl rfl (hc _ (cM (List.getElem_mem _)) (bS h (List.getElem_mem _))) (fun hq => ?_) (fun hq => ?_)) | refine bB tabOk rfl rfl (nb rfl) rfl ?_ | refine bN tabOk rfl rfl rfl (nb rfl) rfl rfl rfl rfl (by first | rfl | omega) (by first | omega | simp) ?_ | refine bC tabOk rfl rfl rfl (nb rfl) rfl rfl rfl (bX _ _ (by first | assumption | omega)) ?_) | (refine aN ?_;  first | refine aH ?_ | refine aQ ?_ | refine bH ?_ | refine aY ?_ | refine aT ?_ | refine bW ?_ | refine aU ?_ | refine aA (b := true) rfl (fun _ => ?_) nTf | refine aA (b := false) rfl nFt (fun _ => ?_)) | (refine aK ?_;  first | refine aX ?_ | refine bM ?_ | refine aR ?_) | (refine bA ?_;  first | refine bU ?_ | refine bI ?_ | refine cK (by decide) ?_ | refine bF ?_))
    all_goals (refine aV (by first | exact .inl rfl | exact .inr rfl) (aZ rfl (aC rfl)) rfl ?_; refine cO ?_; by_cases h2 : kids.length = 2 <;> first | (obtain ⟨x, y, rfl⟩ := two h2; simp_all [isConP, isCons, isCon2]; done) | (exfalso; omega) | (simp_all [isConP, eZ]; done) | (simp_all [isConP, eZ]; omega) | (rw [isConP]; cases hk : (k == 110) <;> simp_all; done))
end Go.Proofs.YtdajnmffoopcaaaGreatDoor.Ab
namespace Go.Proofs.YtdajnmffoopcaaaGreatDoor.Ab
set_option linter.unusedVariables false
set_option linter.unusedSimpArgs false
attribute [local irreducible] AWP AOps AExit AThen ABlock ANoGoto FeetOk
mutual
/-- The answer, and what is left. -/
def wholeP : Tree → Int → Int × Int
  | .nil, l => (1, l)
  | .node _ _ _ _ kids, l => if l - 1 < 0 then (3, l - 1) else wholePs kids (l - 1)
def wholePs : List Tree → Int → Int × Int
  | [], l => (0, l)
  | t :: ts, l => if (wholeP t l).1 = 0 then wholePs ts (wholeP t l).2 else wholeP t l
end
theorem iF {l : List Tree} {x : Int} {j : Nat} (hj : j < l.length) (h : (wholePs (l.take j) x).1 = 0) : wholePs (l.take (j + 1)) x = wholeP l[j] (wholePs (l.take j) x).2 := by
  induction l generalizing x j with
  | nil => simp at hj
  | cons t ts ih =>
    cases j with
    | zero =>
      simp only [List.take_zero, wholePs, List.take_succ_cons, List.getElem_cons_zero]
      split
      · rename_i e; exact Prod.ext e.symm rfl
      · rfl
    | succ j =>
      simp only [List.take_succ_cons, wholePs, List.getElem_cons_succ] at h ⊢
      split
      · rename_i e
        rw [if_pos e] at h
        exact ih (by simpa using hj) h
      · rename_i e
        rw [if_neg e] at h
        exact absurd h e
theorem iG {l : List Tree} {x : Int} {j : Nat} (hj : j < l.length) (h : (wholePs (l.take j) x).1 = 0) (h2 : (wholeP l[j] (wholePs (l.take j) x).2).1 ≠ 0) : wholePs l x = wholeP l[j] (wholePs (l.take j) x).2 := by
  induction l generalizing x j with
  | nil => simp at hj
  | cons t ts ih =>
    cases j with
    | zero =>
      simp only [List.take_zero, wholePs, List.getElem_cons_zero] at h2 ⊢
      rw [if_neg h2]
    | succ j =>
      simp only [List.take_succ_cons, wholePs, List.getElem_cons_succ] at h h2 ⊢
      split
      · rename_i e
        rw [if_pos e] at h h2
        exact ih (by simpa using hj) h h2
      · rename_i e
        rw [if_neg e] at h
        exact absurd h e
theorem eR (t : Tree) : ∀ l, 0 ≤ l → (wholeP t l).1 = 0 → 0 ≤ (wholeP t l).2 ∧ (wholeP t l).2 + 1 ≤ l := by
  induction t using Tree.ind with
  | h1 => intro l _ h; simp [wholeP] at h
  | h2 k n a b kids ih =>
    intro l hl h
    rw [wholeP] at h ⊢
    split at h
    · cases h
    · rename_i hn
      rw [if_neg hn]
      have key : ∀ (ts : List Tree) (x : Int), (∀ t ∈ ts, t ∈ kids) → 0 ≤ x → (wholePs ts x).1 = 0 → 0 ≤ (wholePs ts x).2 ∧ (wholePs ts x).2 + ts.length ≤ x := by
        intro ts
        induction ts with
        | nil => intro x _ hx _; simp [wholePs, hx]
        | cons t ts ih2 =>
          intro x hm hx he
          rw [wholePs] at he ⊢
          split at he
          · rename_i e
            rw [if_pos e]
            have h1 := ih t (hm t (by simp)) x hx e
            have h2 := ih2 (wholeP t x).2 (fun t' ht' => hm t' (by simp [ht'])) h1.1 he
            simp only [List.length_cons]
            omega
          · rename_i e; exact absurd he e
      have := key kids (l - 1) (fun _ h => h) (by omega) h
      omega
theorem fJ (ts : List Tree) : ∀ x, 0 ≤ x → (wholePs ts x).1 = 0 → 0 ≤ (wholePs ts x).2 ∧ (wholePs ts x).2 + ts.length ≤ x := by
  induction ts with
  | nil => intro x hx _; simp [wholePs, hx]
  | cons t ts ih =>
    intro x hx he
    rw [wholePs] at he ⊢
    split at he
    · rename_i e
      rw [if_pos e]
      have h1 := eR t x hx e
      have h2 := ih (wholeP t x).2 h1.1 he
      simp only [List.length_cons]
      omega
    · rename_i e; exact absurd he e
theorem kE (ts : List Tree) (x : Int) (hx : 0 ≤ x) (h : (wholePs ts x).1 = 0) : 0 ≤ (wholePs ts x).2 ∧ (wholePs ts x).2 ≤ x := by have := fJ ts x hx h; omega
set_option maxHeartbeats 4000000 in
set_option maxRecDepth 10000 in
theorem yS (t : Tree) : ∀ l : Int, t.size ≤ 1000000 → -1000000 ≤ l → l ≤ 1000000 → ACalls Tryz.prog 68 [.imm t.iv, .obj 1000 0] [(1000, .cells [.imm (.lit (.int .i64 l))])] (.imm (.lit (.int .i64 (wholeP t l).1))) [(1000, .cells [.imm (.lit (.int .i64 (wholeP t l).2))])] := by
  induction t using Tree.ind with
  | h1 =>
    intro l hs h1 h2
    refine iD Tryz.func68 rfl rfl (nb rfl) rfl rfl ?_
    repeat' (first | refine aG ?_ | (refine aI ?_;  first | refine aD tabOk rfl rfl rfl (nb rfl) rfl ?_ | refine bB tabOk rfl rfl (nb rfl) rfl ?_) | (refine aN ?_;  first | refine aH ?_ | refine aQ ?_ | refine aT ?_ | refine aA (b := true) rfl (fun _ => ?_) nTf) | (refine aK ?_;  first | refine aR ?_))
    all_goals (refine eL (cs := []) (by first | exact .inl rfl | exact .inr rfl) (aZ rfl (aC rfl)) rfl rfl rfl ?_; rfl)
  | h2 k n a b kids ih =>
    intro l hs h1 h2
    refine iD Tryz.func68 rfl rfl (nb rfl) rfl rfl ?_
    repeat' (first | refine aG ?_ | (refine aI ?_;  first | refine aD tabOk rfl rfl rfl (nb rfl) rfl ?_ | (refine aM rfl rfl rfl (nb rfl) rfl rfl rfl (fun hq => ?_) (fun hq => ?_) <;> (first | (simp only [sD, sE, sB, sC, sN, sM, sT, sF] at hq; try (exfalso; omega)) | skip)) | refine bV rfl rfl rfl (nb rfl) rfl rfl rfl (by omega) (by omega) ?_ | refine bB tabOk rfl rfl (nb rfl) rfl ?_ | refine bO tabOk rfl rfl rfl (nb rfl) rfl rfl rfl rfl ?_ | refine bJ tabOk rfl rfl rfl rfl rfl rfl rfl rfl rfl rfl rfl ?_) | (refine aN ?_;  first | refine aH ?_ | refine aQ ?_ | refine aY ?_ | refine aT ?_ | refine aU ?_ | refine aA (b := true) rfl (fun _ => ?_) nTf | refine aA (b := false) rfl nFt (fun _ => ?_)) | (refine aK ?_;  first | refine aX ?_ | refine aR ?_))
    · rw [show wholeP (.node k n a b kids) l = (3, l - 1) from if_pos (by omega)]
      refine eL (cs := []) (by first | exact .inl rfl | exact .inr rfl) (aZ rfl (aC rfl)) rfl rfl rfl ?_; rfl
    · rename_i hq
      have e0 : wholeP (.node k n a b kids) l = wholePs kids (l - 1) := if_neg (by omega)
      rw [e0]
      have hlen : kids.length < 9223372036854775807 ∨ kids.length ≥ 9223372036854775807 := by omega
      refine cI (ι := {j : Nat // j ≤ kids.length ∧ (wholePs (kids.take j) (l - 1)).1 = 0}) (fun j => S.f ⟨[(24, .imm (.lit (.int .i64 (j.1 : Int)))), (23, .imm (.lit (.int .i64 (kids.length : Int)))), (22, .imm (.sl false kids.length (Tree.ivs kids))), (1, .obj 1000 0)], [(1000, .cells [.imm (.lit (.int .i64 (wholePs (kids.take j.1) (l - 1)).2))])]⟩) (fun j => kids.length - j.1) ⟨0, Nat.zero_le _, by rw [List.take_zero, wholePs]⟩ (cA (by repeat' first | exact trivial | refine ⟨rfl, ?_⟩) (by repeat' first | exact trivial | refine ⟨rfl, ?_⟩)) ?_
      rintro ⟨j, hj, hok⟩
      dsimp only
      by_cases hlt : j < kids.length
      · have hm := List.getElem_mem hlt
        have hsz := cM (k := k) (n := n) (a := a) (b := b) hm
        have hbd := kE (kids.take j) (l - 1) (by omega) hok
        have hjl : j < 9223372036854775807 := by
          by_cases hj0 : j < 9223372036854775807
          · exact hj0
          · exfalso
            have := fJ (kids.take j) (l - 1) (by omega) hok
            rw [List.length_take] at this
            omega
        repeat' (first | refine aG ?_ | (refine aI ?_;  first | refine aD tabOk rfl rfl rfl (nb rfl) rfl ?_ | (refine aM rfl rfl rfl (nb rfl) rfl rfl rfl (fun hq => ?_) (fun hq => ?_) <;> (first | (simp only [sD, sE, sB, sC, sN, sM, sT, sF] at hq; try (exfalso; omega)) | skip)) | refine cG rfl rfl (nb rfl) rfl rfl rfl rfl (ih _ hm (wholePs (kids.take j) (l - 1)).2 (by omega) (by omega) (by omega)) (by exact ⟨rfl, trivial⟩) rfl (by simp) ?_ | refine bP rfl rfl rfl (nb rfl) rfl rfl (by omega) ?_ | refine bG tabOk rfl rfl rfl (nb rfl) rfl rfl rfl rfl (by first | assumption | omega) ?_ | refine bC tabOk rfl rfl rfl (nb rfl) rfl rfl rfl (bX _ _ (by first | assumption | omega)) ?_) | (refine aN ?_;  first | refine aH ?_ | refine aQ ?_ | refine bH ?_ | refine aY ?_ | refine aT ?_ | refine aU ?_ | refine aA (b := true) rfl (fun _ => ?_) nTf | refine aA (b := false) rfl nFt (fun _ => ?_)) | (refine aK ?_;  first | refine aX ?_ | refine aR ?_) | (refine bA ?_;  first | refine bU ?_ | refine bF ?_))
        all_goals first
          | (have hq : (wholeP kids[j] (wholePs (kids.take j) (l - 1)).2).1 ≠ 0 := by assumption
             have hst := iG hlt hok hq; rw [hst]; refine eL (cs := []) (by first | exact .inl rfl | exact .inr rfl) (aZ rfl (aC rfl)) rfl rfl rfl ?_; rfl; done)
          | (have hq : (wholeP kids[j] (wholePs (kids.take j) (l - 1)).2).1 = 0 := by assumption
             have hst := iF hlt hok; exact ⟨⟨j + 1, hlt, by rw [hst]; exact hq⟩, (by show kids.length - (j + 1) < kids.length - j; omega), (cA (by repeat' first | exact trivial | refine ⟨rfl, ?_⟩) (by rw [hst]; exact ⟨rfl, trivial⟩))⟩)
      · repeat' (first | refine aG ?_ | (refine aI ?_;  first | refine aD tabOk rfl rfl rfl (nb rfl) rfl ?_ | (refine aM rfl rfl rfl (nb rfl) rfl rfl rfl (fun hq => ?_) (fun hq => ?_) <;> (first | (simp only [sD, sE, sB, sC, sN, sM, sT, sF] at hq; try (exfalso; omega)) | skip))) | (refine aN ?_;  first | refine aH ?_ | refine aQ ?_ | refine aT ?_ | refine bW ?_ | refine aA (b := false) rfl nFt (fun _ => ?_)) | (refine aK ?_;  first | refine aX ?_ | refine bM ?_) | (refine bA ?_;  first | refine bI ?_))
        all_goals (have e1 : kids.take j = kids := List.take_of_length_le (by omega); rw [e1] at hok ⊢; refine eL (cs := []) (by first | exact .inl rfl | exact .inr rfl) (aZ rfl (aC rfl)) rfl rfl rfl ?_; exact fU hok.symm)
end Go.Proofs.YtdajnmffoopcaaaGreatDoor.Ab
namespace Go.Proofs.YtdajnmffoopcaaaGreatDoor.Ab
set_option linter.unusedVariables false
set_option linter.unusedSimpArgs false
attribute [local irreducible] AWP AOps AExit AThen ABlock ANoGoto FeetOk
theorem eT (t : Tree) : ∀ l, (wholeP t l).1 = 0 → t.whole = true := by
  induction t using Tree.ind with
  | h1 => intro l h; simp [wholeP] at h
  | h2 k n a b kids ih =>
    intro l h
    rw [wholeP] at h
    split at h
    · cases h
    · have key : ∀ (ts : List Tree) (x : Int), (∀ t ∈ ts, t ∈ kids) → (wholePs ts x).1 = 0 → Tree.wholes ts = true := by
        intro ts
        induction ts with
        | nil => intro x _ _; rfl
        | cons t ts ih2 =>
          intro x hm he
          rw [wholePs] at he
          split at he
          · rename_i e
            simp only [Tree.wholes, Bool.and_eq_true]
            exact ⟨ih t (hm t (by simp)) x e, ih2 _ (fun t' ht' => hm t' (by simp [ht'])) he⟩
          · rename_i e; exact absurd he e
      exact key kids _ (fun _ h => h) h
def checkP (form : Tree → Bool) (t : Tree) : Int := if (wholeP t 65536).1 = 0 then (if form t then 0 else 16) else (wholeP t 65536).1
set_option maxHeartbeats 4000000 in
set_option maxRecDepth 10000 in
theorem yT (t : Tree) (f : FuncId) (form : Tree → Bool) (hs : t.size ≤ 1000000) (hf : t.whole = true → ACalls Tryz.prog f [.imm t.iv] [] (.imm (.lit (.bool (form t)))) []) :
    ACalls Tryz.prog 41 [.imm t.iv, .imm (.func f [] [])] [] (.imm (.lit (.int .i64 (checkP form t)))) [] := by
  refine aJ Tryz.func41 rfl rfl (nb rfl) rfl ?_
  repeat' (first | refine aG ?_ | (refine aI ?_;  first | refine aD tabOk rfl rfl rfl (nb rfl) rfl ?_ | refine bE rfl rfl (nb rfl) ?_ | (refine aM rfl rfl rfl (nb rfl) rfl rfl rfl (fun hq => ?_) (fun hq => ?_) <;> (first | (simp only [sD, sE, sB, sC, sN, sM, sT, sF] at hq; try (exfalso; omega)) | skip)) | refine cP 1000 tabOk rfl rfl rfl (nb rfl) rfl rfl rfl rfl rfl rfl ?_ | refine cG rfl rfl (nb rfl) rfl rfl rfl rfl (yS t 65536 hs (by omega) (by omega)) (by exact ⟨rfl, trivial⟩) rfl (by simp) ?_ | (refine bT rfl rfl rfl (nb rfl) rfl rfl rfl (hf (eT t _ (by assumption))) (fun hq => ?_) (fun hq => ?_)) | refine bJ tabOk rfl rfl rfl rfl rfl rfl rfl rfl rfl rfl rfl ?_) | (refine aN ?_;  first | refine aH ?_ | refine aQ ?_ | refine aT ?_ | refine aU ?_ | refine aA (b := true) rfl (fun _ => ?_) nTf | refine aA (b := false) rfl nFt (fun _ => ?_)) | (refine aK ?_;  first | refine aX ?_ | refine aR ?_))
  all_goals (refine aV (by first | exact .inl rfl | exact .inr rfl) (aZ rfl (aC rfl)) rfl ?_; refine fU ?_; simp_all [checkP])
set_option maxRecDepth 10000 in
theorem eM (t : Tree) (hs : t.size ≤ 1000000) : ACalls Tryz.prog 17 [.imm t.iv] [] (.imm (.lit (.int .i64 (checkP isConP t)))) [] := by
  refine aJ Tryz.func17 rfl rfl (nb rfl) rfl ?_
  repeat' (first | refine aG ?_ | (refine aI ?_;  first | refine aD tabOk rfl rfl rfl (nb rfl) rfl ?_ | refine aE rfl rfl (nb rfl) rfl rfl rfl rfl (yT t _ _ hs (fun h => yR t h hs)) ?_) | (refine aN ?_;  first | refine aH ?_ | refine aT ?_))
  all_goals (refine aV (by first | exact .inl rfl | exact .inr rfl) (aZ rfl (aC rfl)) rfl ?_; rfl)
end Go.Proofs.YtdajnmffoopcaaaGreatDoor.Ab
namespace Go.Proofs.YtdajnmffoopcaaaGreatDoor.Ab
set_option linter.unusedVariables false
set_option linter.unusedSimpArgs false
attribute [local irreducible] AWP AOps AExit AThen ABlock ANoGoto FeetOk
/-- How many constructors a node binds in its kids. -/
def bindsP (k : Int) : Int := if k = 117 ∨ k = 118 ∨ k = 119 ∨ k = 121 then 1 else 0
theorem eI (k : Int) : 0 ≤ bindsP k ∧ bindsP k ≤ 1 := by unfold bindsP; split <;> omega
def varT (n : Int) : Tree := .node 110 n emptyB emptyB []
mutual
/-- Are all variables of a tree such as a constructor may have? -/
def okVars : Tree → Bool
  | .nil => false
  | .node k n a b kids => if k = 110 then decide (0 ≤ n ∧ n ≤ 65536) && (decide (a = emptyB) && (decide (b = emptyB) && kids.isEmpty)) else okVarss kids
def okVarss : List Tree → Bool
  | [] => true
  | t :: ts => okVars t && okVarss ts
end
theorem mH : ∀ {l : List Tree}, okVarss l = true → ∀ t ∈ l, okVars t = true
  | x :: xs, h, t, ht => by
    simp only [okVarss, Bool.and_eq_true] at h
    rcases List.mem_cons.1 ht with rfl | ht
    · exact h.1
    · exact mH h.2 t ht
theorem iH : ∀ {l : List Tree}, (∀ t ∈ l, okVars t = true) → okVarss l = true
  | [], _ => by rw [okVarss]
  | x :: xs, h => by
    simp only [okVarss, Bool.and_eq_true]
    exact ⟨h x (by simp), iH fun t ht => h t (by simp [ht])⟩
theorem dB {k n : Int} {a b : ByteArray} {kids : List Tree} (hk : k = 110) (h : okVars (.node k n a b kids) = true) : 0 ≤ n ∧ n ≤ 65536 ∧ a = emptyB ∧ b = emptyB ∧ kids = [] := by
  simp only [okVars, if_pos hk, Bool.and_eq_true, decide_eq_true_eq, List.isEmpty_iff] at h
  exact ⟨h.1.1, h.1.2, h.2.1, h.2.2.1, h.2.2.2⟩
theorem dA {k n : Int} {a b : ByteArray} {kids : List Tree} (hk : ¬ k = 110) (h : okVars (.node k n a b kids) = true) : ∀ t ∈ kids, okVars t = true := by
  simp only [okVars, if_neg hk] at h
  exact mH h
mutual
/-- A tree made anew, in which V has changed each variable; d: how many binders lie around. -/
def walkS {σ : Type} (V : Int → Int → σ → Tree × σ) : Tree → Int → σ → Tree × σ
  | .nil, _, s => (.nil, s)
  | .node k n a b kids, d, s => if k = 110 then V n d s else if kids.length = 0 then (.node k n a b kids, s) else
      (.node k n a b (walkSs V kids (d + bindsP k) s).1, (walkSs V kids (d + bindsP k) s).2)
def walkSs {σ : Type} (V : Int → Int → σ → Tree × σ) : List Tree → Int → σ → List Tree × σ
  | [], _, s => ([], s)
  | t :: ts, d, s => ((walkS V t d s).1 :: (walkSs V ts d (walkS V t d s).2).1, (walkSs V ts d (walkS V t d s).2).2)
end
section
variable {σ : Type} (V : Int → Int → σ → Tree × σ)
theorem dP (n d : Int) (s : σ) (a b : ByteArray) (kids : List Tree) : walkS V (.node 110 n a b kids) d s = V n d s := by rw [walkS, if_pos rfl]
theorem fX {k : Int} (n d : Int) (s : σ) {a b : ByteArray} (hk : ¬ k = 110) : walkS V (.node k n a b []) d s = (.node k n a b [], s) := by rw [walkS, if_neg hk, if_pos List.length_nil]
theorem fY {k : Int} (n d : Int) (s : σ) {a b : ByteArray} {kids : List Tree} (hk : ¬ k = 110) (h0 : ¬ kids.length = 0) : walkS V (.node k n a b kids) d s = (.node k n a b (walkSs V kids (d + bindsP k) s).1, (walkSs V kids (d + bindsP k) s).2) := by rw [walkS, if_neg hk, if_neg h0]
theorem dD (d : Int) (s : σ) : walkSs V [] d s = ([], s) := by rw [walkSs]
theorem mI (d : Int) : ∀ (l : List Tree) (t : Tree) (s : σ), walkSs V (l ++ [t]) d s = ((walkSs V l d s).1 ++ [(walkS V t d (walkSs V l d s).2).1], (walkS V t d (walkSs V l d s).2).2)
  | [], t, s => by simp [walkSs]
  | x :: l, t, s => by rw [List.cons_append, walkSs, mI d l t, walkSs]; rfl
theorem dZ (d : Int) (s : σ) {l : List Tree} {j : Nat} (h : j < l.length) : walkSs V (l.take (j + 1)) d s = ((walkSs V (l.take j) d s).1 ++ [(walkS V l[j] d (walkSs V (l.take j) d s).2).1], (walkS V l[j] d (walkSs V (l.take j) d s).2).2) := by
  rw [List.take_succ_eq_append_getElem h, mI]
theorem dS : ∀ (l : List Tree) (d : Int) (s : σ), (walkSs V l d s).1.length = l.length
  | [], d, s => by rw [walkSs]
  | t :: ts, d, s => by rw [walkSs, List.length_cons, List.length_cons, dS ts]
end
theorem dT {t : Tree} (h : t ≠ .nil) : ∃ pc, t.iv = .ptr pc 0 := by
  cases t with
  | nil => exact absurd rfl h
  | node k n a b kids => exact ⟨_, by rw [Tree.iv]⟩
set_option maxRecDepth 10000 in
theorem rM (k n : Int) (a b : ByteArray) (kids : List Tree) : ACalls Tryz.prog 74 [.imm (Tree.iv (.node k n a b kids))] [] (.imm (.lit (.int .i64 (bindsP k)))) [] := by
  refine aJ Tryz.func74 rfl rfl (nb rfl) rfl ?_
  repeat' (first | refine aG ?_ | (refine aI ?_;  first | refine aD tabOk rfl rfl rfl (nb rfl) rfl ?_ | (refine aM rfl rfl rfl (nb rfl) rfl rfl rfl (fun hq => ?_) (fun hq => ?_) <;> (first | (simp only [sD, sE, sB, sC, sN, sM, sT, sF] at hq; try (exfalso; omega)) | skip))) | (refine aN ?_;  first | refine aH ?_ | refine aQ ?_ | refine bH ?_ | refine aY ?_ | refine aT ?_ | refine aU ?_ | refine aA (b := true) rfl (fun _ => ?_) nTf | refine aA (b := false) rfl nFt (fun _ => ?_)) | (refine aK ?_;  first | refine aX ?_ | refine aR ?_) | (refine bA ?_;  first | refine bU ?_ | refine bF ?_))
  all_goals (refine aV (by first | exact .inl rfl | exact .inr rfl) (aZ rfl (aC rfl)) rfl ?_; refine fU ?_; unfold bindsP; first | (rw [if_pos (by omega)]; done) | (rw [if_neg (by omega)]; done))
/-- What is a kind, or a constructor, has no other variables. -/
theorem tK (t : Tree) : isKindP t = true → okVars t = true := by
  induction t using Tree.ind with
  | h1 => intro h; simp [isKindP] at h
  | h2 k n a b kids ih =>
    intro h
    rw [isKindP] at h
    split at h
    · rename_i e
      simp only [Bool.and_eq_true, beq_iff_eq] at h
      have e0 : kids = [] := List.eq_nil_of_length_eq_zero (by omega)
      subst e0
      rw [okVars, if_neg (by omega), okVarss]
    · split at h
      · rename_i e0 e
        simp only [Bool.and_eq_true] at h
        rw [okVars, if_neg (by omega)]
        refine iH fun t ht => ih t ht ?_
        rw [fI, List.all_map] at h
        exact List.all_eq_true.1 h.2 t ht
      · cases h
end Go.Proofs.YtdajnmffoopcaaaGreatDoor.Ab
namespace Go.Proofs.YtdajnmffoopcaaaGreatDoor.Ab
set_option linter.unusedVariables false
set_option linter.unusedSimpArgs false
attribute [local irreducible] AWP AOps AExit AThen ABlock ANoGoto FeetOk
set_option maxHeartbeats 8000000 in
set_option maxRecDepth 10000 in
theorem aBJ {σ : Type} (V : Int → Int → σ → Tree × σ) (F : FuncId) (X0 X1 X2 : σ → IV) (J : σ → Prop)
    (hV : ∀ (n d : Int) s, J s → 0 ≤ n → n ≤ 65536 → 0 ≤ d → d ≤ 1000000 → ACalls Tryz.prog F ([.imm (varT n).iv, .imm (.lit (.int .i64 d)), .obj 1000 0, .obj 1001 0, .obj 1002 0]) [(1000, .cells [.imm (X0 s)]), (1001, .cells [.imm (X1 s)]), (1002, .cells [.imm (X2 s)])] (.imm (V n d s).1.iv) [(1000, .cells [.imm (X0 ((V n d s).2))]), (1001, .cells [.imm (X1 ((V n d s).2))]), (1002, .cells [.imm (X2 ((V n d s).2))])] ∧ J (V n d s).2 ∧ (V n d s).1 ≠ .nil) (t : Tree) :
    ∀ (d : Int) s, okVars t = true → t.whole = true → 0 ≤ d → d + t.size ≤ 1000000 → J s → ACalls Tryz.prog 43 [.imm t.iv, .imm (.lit (.int .i64 d)), .func F [] [.obj 1000 0, .obj 1001 0, .obj 1002 0]] [(1000, .cells [.imm (X0 s)]), (1001, .cells [.imm (X1 s)]), (1002, .cells [.imm (X2 s)])] (.imm (walkS V t d s).1.iv) [(1000, .cells [.imm (X0 ((walkS V t d s).2))]), (1001, .cells [.imm (X1 ((walkS V t d s).2))]), (1002, .cells [.imm (X2 ((walkS V t d s).2))])] ∧ J (walkS V t d s).2 ∧ (walkS V t d s).1 ≠ .nil := by
  induction t using Tree.ind with
  | h1 => intro d s _ h; simp [Tree.whole] at h
  | h2 k n a b kids ih =>
    intro d s hv hw hd hs hJ
    have hl := cC kids hw
    have hsz : (Tree.node k n a b kids).size = 1 + Tree.sizes kids := by rw [Tree.size]
    rw [hsz] at hs
    by_cases k110 : k = 110
    · obtain ⟨q1, q2, rfl, rfl, rfl⟩ := dB k110 hv
      subst k110
      have hc := hV n d s hJ q1 q2 hd (by omega)
      rw [dP]
      refine ⟨?_, hc.2⟩
      have hc := hc.1
      generalize V n d s = R at *
      obtain ⟨R1, R2⟩ := R
      dsimp only at hc ⊢
      refine cD [1000, 1001, 1002] Tryz.func43 rfl rfl (nb rfl) rfl rfl ?_
      repeat' (first | refine aG ?_ | (refine aI ?_;  first | refine aD tabOk rfl rfl rfl (nb rfl) rfl ?_ | (refine aM rfl rfl rfl (nb rfl) rfl rfl rfl (fun hq => ?_) (fun hq => ?_) <;> (first | (simp only [sD, sE, sB, sC, sN, sM, sT, sF] at hq; try (exfalso; omega)) | skip)) | refine cG rfl rfl (nb rfl) rfl rfl rfl rfl hc (by repeat' first | exact trivial | refine ⟨rfl, ?_⟩) rfl (by show ([1000, 1001, 1002] : List Nat).Nodup; decide) ?_) | (refine aN ?_;  first | refine aH ?_ | refine aQ ?_ | refine aT ?_ | refine aA (b := true) rfl (fun _ => ?_) nTf) | (refine aK ?_;  first | refine aR ?_))
      all_goals first
        | exact absurd rfl (by assumption)
        | (refine cN (cE (by first | exact .inl rfl | exact .inr rfl) (aZ rfl (aC rfl)) rfl (by repeat' first | exact trivial | refine ⟨rfl, ?_⟩) rfl ?_); rfl)
    · by_cases hk0 : kids.length = 0
      · have e0 : kids = [] := List.eq_nil_of_length_eq_zero hk0
        subst e0
        rw [fX _ _ _ _ k110]
        refine ⟨?_, hJ, by simp⟩
        refine cD [1000, 1001, 1002] Tryz.func43 rfl rfl (nb rfl) rfl rfl ?_
        repeat' (first | refine aG ?_ | (refine aI ?_;  first | refine aD tabOk rfl rfl rfl (nb rfl) rfl ?_ | (refine aM rfl rfl rfl (nb rfl) rfl rfl rfl (fun hq => ?_) (fun hq => ?_) <;> (first | (simp only [sD, sE, sB, sC, sN, sM, sT, sF] at hq; try (exfalso; omega)) | skip)) | refine bB tabOk rfl rfl (nb rfl) rfl ?_) | (refine aN ?_;  first | refine aH ?_ | refine aQ ?_ | refine aT ?_ | refine aU ?_ | refine aA (b := true) rfl (fun _ => ?_) nTf | refine aA (b := false) rfl nFt (fun _ => ?_)) | (refine aK ?_;  first | refine aX ?_ | refine aR ?_))
        all_goals first
          | exact absurd rfl (by assumption)
          | exact absurd (by assumption) k110
          | (refine cN (cE (by first | exact .inl rfl | exact .inr rfl) (aZ rfl (aC rfl)) rfl (by repeat' first | exact trivial | refine ⟨rfl, ?_⟩) rfl ?_); rfl)
      · rw [fY _ _ _ _ k110 hk0]
        dsimp only
        have hb := eI k
        have hvs := dA k110 hv
        have hind : ∀ j (h : j < kids.length) s', J s' → ACalls Tryz.prog 43 [.imm kids[j].iv, .imm (.lit (.int .i64 (d + bindsP k))), .func F [] [.obj 1000 0, .obj 1001 0, .obj 1002 0]] [(1000, .cells [.imm (X0 s')]), (1001, .cells [.imm (X1 s')]), (1002, .cells [.imm (X2 s')])] (.imm (walkS V kids[j] (d + bindsP k) s').1.iv) [(1000, .cells [.imm (X0 ((walkS V kids[j] (d + bindsP k) s').2))]), (1001, .cells [.imm (X1 ((walkS V kids[j] (d + bindsP k) s').2))]), (1002, .cells [.imm (X2 ((walkS V kids[j] (d + bindsP k) s').2))])] ∧ J (walkS V kids[j] (d + bindsP k) s').2 ∧ (walkS V kids[j] (d + bindsP k) s').1 ≠ .nil := fun j h s' hJ' => by
          have hm := List.getElem_mem h
          have hz := dE hm
          exact ih _ hm _ s' (hvs _ hm) (bS hw hm) (by omega) (by omega) hJ'
        clear ih
        have hJs : ∀ j, j ≤ kids.length → J (walkSs V (kids.take j) (d + bindsP k) s).2 := by
          intro j
          induction j with
          | zero => intro _; rw [List.take_zero, dD]; exact hJ
          | succ j ihj =>
            intro hj
            rw [dZ V (d + bindsP k) s hj]
            exact (hind j hj _ (ihj (by omega))).2.1
        have hJe := hJs kids.length (Nat.le_refl _)
        rw [List.take_length] at hJe
        refine ⟨?_, hJe, by simp⟩
        clear hJe
        have cb := rM k n a b kids
        refine cD [1000, 1001, 1002] Tryz.func43 rfl rfl (nb rfl) rfl rfl ?_
        repeat' (first | refine aG ?_ | (refine aI ?_;  first | refine aD tabOk rfl rfl rfl (nb rfl) rfl ?_ | (refine aM rfl rfl rfl (nb rfl) rfl rfl rfl (fun hq => ?_) (fun hq => ?_) <;> (first | (simp only [sD, sE, sB, sC, sN, sM, sT, sF] at hq; try (exfalso; omega)) | skip)) | refine bB tabOk rfl rfl (nb rfl) rfl ?_ | refine cJ tabOk rfl rfl rfl (nb rfl) rfl rfl rfl rfl rfl rfl ?_ | refine bJ tabOk rfl rfl rfl rfl rfl rfl rfl rfl rfl rfl rfl ?_) | (refine aN ?_;  first | refine aH ?_ | refine aQ ?_ | refine aY ?_ | refine aU ?_ | refine aA (b := false) rfl nFt (fun _ => ?_)) | (refine aK ?_;  first | refine aX ?_))
        all_goals first
          | exact absurd (by assumption) k110
          | (exfalso; omega)
          | skip
        refine dH (dU (h0 := 7) (k0 := 4) 500 25 1 rfl rfl (by simp) rfl rfl) ?_
        refine cI (ι := {j : Nat // j ≤ kids.length}) (fun j => S.f ⟨[(35, .imm (.lit (.int .i64 (j.1 : Int)))), (34, .imm (.lit (.int .i64 (kids.length : Int)))), (33, .imm (.sl false kids.length (Tree.ivs kids))), (7, .obj 7 0), (0, .imm (Tree.iv (.node k n a b kids))), (1, .imm (.lit (.int .i64 d))), (2, .func F [] [.obj 1000 0, .obj 1001 0, .obj 1002 0])], (500, .arr 25 1 j.1 (Tree.ivs (walkSs V (kids.take j.1) (d + bindsP k) s).1)) :: (7, .cells [.imm (.lit (.int .i64 k)), .imm (.lit (.int .i64 n)), .imm (.lit (.string a)), .imm (.lit (.string b)), .ref 500 j.1]) :: [(1000, .cells [.imm (X0 ((walkSs V (kids.take j.1) (d + bindsP k) s).2))]), (1001, .cells [.imm (X1 ((walkSs V (kids.take j.1) (d + bindsP k) s).2))]), (1002, .cells [.imm (X2 ((walkSs V (kids.take j.1) (d + bindsP k) s).2))])]⟩) (fun j => kids.length - j.1) ⟨0, Nat.zero_le _⟩ (cA (by repeat' first | exact trivial | refine ⟨rfl, ?_⟩) (by repeat' first | exact trivial | refine ⟨rfl, ?_⟩)) ?_
        rintro ⟨j, hj⟩
        dsimp only
        by_cases hlt : j < kids.length
        · have hget := bX kids j hlt
          have hnx := dZ V (d + bindsP k) s hlt
          obtain ⟨hc, _, hnn⟩ := hind j hlt _ (hJs j hj)
          obtain ⟨pc, hpc⟩ := dT hnn
          rw [hpc] at hc
          have hll := dS V (kids.take j) (d + bindsP k) s
          rw [List.length_take, Nat.min_eq_left hj] at hll
          have hiv : Tree.ivs (walkSs V (kids.take (j + 1)) (d + bindsP k) s).1 = Tree.ivs (walkSs V (kids.take j) (d + bindsP k) s).1 ++ [(walkS V kids[j] (d + bindsP k) (walkSs V (kids.take j) (d + bindsP k) s).2).1.iv] := by
            rw [hnx, dL, dL, List.map_append]; rfl
          rw [hpc] at hiv
          clear hpc hnn
          have hst : (walkSs V (kids.take (j + 1)) (d + bindsP k) s).2 = (walkS V kids[j] (d + bindsP k) (walkSs V (kids.take j) (d + bindsP k) s).2).2 := by rw [hnx]
          clear hnx hind hJs
          have hil := eG (walkSs V (kids.take j) (d + bindsP k) s).1
          rw [hll] at hil
          generalize walkS V kids[j] (d + bindsP k) (walkSs V (kids.take j) (d + bindsP k) s).2 = W at *
          generalize walkSs V (kids.take j) (d + bindsP k) s = Z at *
          obtain ⟨W1, W2⟩ := W
          obtain ⟨Z1, Z2⟩ := Z
          dsimp only at *
          generalize Tree.ivs Z1 = ZI at *
          generalize hsum : d + bindsP k = dk at *
          repeat' (first | refine aG ?_ | (refine aI ?_;  first | refine aD tabOk rfl rfl rfl (nb rfl) rfl ?_ | (refine aM rfl rfl rfl (nb rfl) rfl rfl rfl (fun hq => ?_) (fun hq => ?_) <;> (first | (simp only [sD, sE, sB, sC, sN, sM, sT, sF] at hq; try (exfalso; omega)) | skip)) | refine bC tabOk rfl rfl rfl (nb rfl) rfl rfl rfl hget ?_ | refine aE rfl rfl (nb rfl) rfl rfl rfl rfl (cb) ?_ | refine bY (z := dk) rfl rfl rfl (nb rfl) rfl rfl hsum (by omega) (by omega) ?_ | refine cG rfl rfl (nb rfl) rfl rfl rfl rfl hc (by repeat' first | exact trivial | refine ⟨rfl, ?_⟩) rfl (by show ([1000, 1001, 1002] : List Nat).Nodup; decide) ?_ | refine dF tabOk rfl rfl rfl (nb rfl) rfl rfl rfl rfl rfl rfl rfl (by first | omega | decide) rfl (by first | omega | (dsimp only; omega)) (by first | omega | (dsimp only; omega)) ?_ | refine bP rfl rfl rfl (nb rfl) rfl rfl (by omega) ?_ | refine cH tabOk rfl rfl rfl (nb rfl) rfl rfl rfl rfl rfl rfl rfl rfl rfl ?_ | refine bO tabOk rfl rfl rfl (nb rfl) rfl rfl rfl rfl ?_ | refine bJ tabOk rfl rfl rfl rfl rfl rfl rfl rfl rfl rfl rfl ?_ | refine bG tabOk rfl rfl rfl (nb rfl) rfl rfl rfl rfl (by first | assumption | omega) ?_) | (refine aN ?_;  first | refine aH ?_ | refine aQ ?_ | refine bH ?_ | refine aY ?_ | refine aU ?_ | refine aA (b := true) rfl (fun _ => ?_) nTf | refine aW mixed (by kernel_rfl) ?_) | (refine aK ?_;  first | refine aX ?_) | (refine bA ?_;  first | refine bU ?_) | refine bQ (bL (by kernel_rfl)) ?_)
          all_goals first
            | (exfalso; omega)
            | (refine ⟨⟨j + 1, hlt⟩, (by show kids.length - (j + 1) < kids.length - j; omega), ?_⟩; dsimp only; rw [hiv, hst]; exact (cA (by repeat' first | exact trivial | refine ⟨rfl, ?_⟩) (by repeat' first | exact trivial | refine ⟨rfl, ?_⟩)))
        · have ej : j = kids.length := by omega
          subst ej
          rw [List.take_length]
          have hll := dS V kids (d + bindsP k) s
          clear hind hJs
          generalize walkSs V kids (d + bindsP k) s = Z at *
          obtain ⟨Z1, Z2⟩ := Z
          dsimp only at *
          have hiv : (Tree.node k n a b Z1).iv = .ptr [.lit (.int .i64 k), .lit (.int .i64 n), .lit (.string a), .lit (.string b), .sl false kids.length (Tree.ivs Z1)] 0 := by rw [Tree.iv, hll]
          rw [hiv]
          generalize Tree.ivs Z1 = ZI at *
          repeat' (first | refine aG ?_ | (refine aI ?_;  first | refine aD tabOk rfl rfl rfl (nb rfl) rfl ?_ | (refine aM rfl rfl rfl (nb rfl) rfl rfl rfl (fun hq => ?_) (fun hq => ?_) <;> (first | (simp only [sD, sE, sB, sC, sN, sM, sT, sF] at hq; try (exfalso; omega)) | skip))) | (refine aN ?_;  first | refine aH ?_ | refine aQ ?_ | refine aT ?_ | refine bW ?_ | refine aA (b := false) rfl nFt (fun _ => ?_)) | (refine aK ?_;  first | refine aX ?_ | refine bM ?_) | (refine bA ?_;  first | refine bI ?_))
          all_goals first
            | (exfalso; omega)
            | (refine gV ((Imp.of_le (σ' := S.f ⟨[(6, .obj 7 0)], (500, .arr 25 1 kids.length ZI) :: (7, .cells [.imm (.lit (.int .i64 k)), .imm (.lit (.int .i64 n)), .imm (.lit (.string a)), .imm (.lit (.string b)), .ref 500 kids.length]) :: [(1000, .cells [.imm (X0 Z2)]), (1001, .cells [.imm (X1 Z2)]), (1002, .cells [.imm (X2 Z2)])]⟩) (cA (by repeat' first | exact trivial | refine ⟨rfl, ?_⟩) (by repeat' first | exact trivial | refine ⟨rfl, ?_⟩))).trans ((dC (g := 500) rfl (by repeat' first | exact trivial | exact fun _ => rfl | refine ⟨?_, ?_⟩) (by repeat' first | exact trivial | exact fun _ => rfl | refine ⟨?_, ?_⟩)).trans (dI (g := 7) rfl rfl))) ?_
               refine cE (by first | exact .inl rfl | exact .inr rfl) (aZ rfl (aC rfl)) rfl (by repeat' first | exact trivial | refine ⟨rfl, ?_⟩) rfl rfl)
set_option maxHeartbeats 8000000 in
set_option maxRecDepth 10000 in
theorem aBK {σ : Type} (V : Int → Int → σ → Tree × σ) (F : FuncId) (X0 X1 X2 X3 X4 : σ → IV) (J : σ → Prop)
    (hV : ∀ (n d : Int) s, J s → 0 ≤ n → n ≤ 65536 → 0 ≤ d → d ≤ 1000000 → ACalls Tryz.prog F ([.imm (varT n).iv, .imm (.lit (.int .i64 d)), .obj 1000 0, .obj 1001 0, .obj 1002 0, .obj 1003 0, .obj 1004 0]) [(1000, .cells [.imm (X0 s)]), (1001, .cells [.imm (X1 s)]), (1002, .cells [.imm (X2 s)]), (1003, .cells [.imm (X3 s)]), (1004, .cells [.imm (X4 s)])] (.imm (V n d s).1.iv) [(1000, .cells [.imm (X0 ((V n d s).2))]), (1001, .cells [.imm (X1 ((V n d s).2))]), (1002, .cells [.imm (X2 ((V n d s).2))]), (1003, .cells [.imm (X3 ((V n d s).2))]), (1004, .cells [.imm (X4 ((V n d s).2))])] ∧ J (V n d s).2 ∧ (V n d s).1 ≠ .nil) (t : Tree) :
    ∀ (d : Int) s, okVars t = true → t.whole = true → 0 ≤ d → d + t.size ≤ 1000000 → J s → ACalls Tryz.prog 43 [.imm t.iv, .imm (.lit (.int .i64 d)), .func F [] [.obj 1000 0, .obj 1001 0, .obj 1002 0, .obj 1003 0, .obj 1004 0]] [(1000, .cells [.imm (X0 s)]), (1001, .cells [.imm (X1 s)]), (1002, .cells [.imm (X2 s)]), (1003, .cells [.imm (X3 s)]), (1004, .cells [.imm (X4 s)])] (.imm (walkS V t d s).1.iv) [(1000, .cells [.imm (X0 ((walkS V t d s).2))]), (1001, .cells [.imm (X1 ((walkS V t d s).2))]), (1002, .cells [.imm (X2 ((walkS V t d s).2))]), (1003, .cells [.imm (X3 ((walkS V t d s).2))]), (1004, .cells [.imm (X4 ((walkS V t d s).2))])] ∧ J (walkS V t d s).2 ∧ (walkS V t d s).1 ≠ .nil := by
  induction t using Tree.ind with
  | h1 => intro d s _ h; simp [Tree.whole] at h
  | h2 k n a b kids ih =>
    intro d s hv hw hd hs hJ
    have hl := cC kids hw
    have hsz : (Tree.node k n a b kids).size = 1 + Tree.sizes kids := by rw [Tree.size]
    rw [hsz] at hs
    by_cases k110 : k = 110
    · obtain ⟨q1, q2, rfl, rfl, rfl⟩ := dB k110 hv
      subst k110
      have hc := hV n d s hJ q1 q2 hd (by omega)
      rw [dP]
      refine ⟨?_, hc.2⟩
      have hc := hc.1
      generalize V n d s = R at *
      obtain ⟨R1, R2⟩ := R
      dsimp only at hc ⊢
      refine cD [1000, 1001, 1002, 1003, 1004] Tryz.func43 rfl rfl (nb rfl) rfl rfl ?_
      repeat' (first | refine aG ?_ | (refine aI ?_;  first | refine aD tabOk rfl rfl rfl (nb rfl) rfl ?_ | (refine aM rfl rfl rfl (nb rfl) rfl rfl rfl (fun hq => ?_) (fun hq => ?_) <;> (first | (simp only [sD, sE, sB, sC, sN, sM, sT, sF] at hq; try (exfalso; omega)) | skip)) | refine cG rfl rfl (nb rfl) rfl rfl rfl rfl hc (by repeat' first | exact trivial | refine ⟨rfl, ?_⟩) rfl (by show ([1000, 1001, 1002, 1003, 1004] : List Nat).Nodup; decide) ?_) | (refine aN ?_;  first | refine aH ?_ | refine aQ ?_ | refine aT ?_ | refine aA (b := true) rfl (fun _ => ?_) nTf) | (refine aK ?_;  first | refine aR ?_))
      all_goals first
        | exact absurd rfl (by assumption)
        | (refine cN (cE (by first | exact .inl rfl | exact .inr rfl) (aZ rfl (aC rfl)) rfl (by repeat' first | exact trivial | refine ⟨rfl, ?_⟩) rfl ?_); rfl)
    · by_cases hk0 : kids.length = 0
      · have e0 : kids = [] := List.eq_nil_of_length_eq_zero hk0
        subst e0
        rw [fX _ _ _ _ k110]
        refine ⟨?_, hJ, by simp⟩
        refine cD [1000, 1001, 1002, 1003, 1004] Tryz.func43 rfl rfl (nb rfl) rfl rfl ?_
        repeat' (first | refine aG ?_ | (refine aI ?_;  first | refine aD tabOk rfl rfl rfl (nb rfl) rfl ?_ | (refine aM rfl rfl rfl (nb rfl) rfl rfl rfl (fun hq => ?_) (fun hq => ?_) <;> (first | (simp only [sD, sE, sB, sC, sN, sM, sT, sF] at hq; try (exfalso; omega)) | skip)) | refine bB tabOk rfl rfl (nb rfl) rfl ?_) | (refine aN ?_;  first | refine aH ?_ | refine aQ ?_ | refine aT ?_ | refine aU ?_ | refine aA (b := true) rfl (fun _ => ?_) nTf | refine aA (b := false) rfl nFt (fun _ => ?_)) | (refine aK ?_;  first | refine aX ?_ | refine aR ?_))
        all_goals first
          | exact absurd rfl (by assumption)
          | exact absurd (by assumption) k110
          | (refine cN (cE (by first | exact .inl rfl | exact .inr rfl) (aZ rfl (aC rfl)) rfl (by repeat' first | exact trivial | refine ⟨rfl, ?_⟩) rfl ?_); rfl)
      · rw [fY _ _ _ _ k110 hk0]
        dsimp only
        have hb := eI k
        have hvs := dA k110 hv
        have hind : ∀ j (h : j < kids.length) s', J s' → ACalls Tryz.prog 43 [.imm kids[j].iv, .imm (.lit (.int .i64 (d + bindsP k))), .func F [] [.obj 1000 0, .obj 1001 0, .obj 1002 0, .obj 1003 0, .obj 1004 0]] [(1000, .cells [.imm (X0 s')]), (1001, .cells [.imm (X1 s')]), (1002, .cells [.imm (X2 s')]), (1003, .cells [.imm (X3 s')]), (1004, .cells [.imm (X4 s')])] (.imm (walkS V kids[j] (d + bindsP k) s').1.iv) [(1000, .cells [.imm (X0 ((walkS V kids[j] (d + bindsP k) s').2))]), (1001, .cells [.imm (X1 ((walkS V kids[j] (d + bindsP k) s').2))]), (1002, .cells [.imm (X2 ((walkS V kids[j] (d + bindsP k) s').2))]), (1003, .cells [.imm (X3 ((walkS V kids[j] (d + bindsP k) s').2))]), (1004, .cells [.imm (X4 ((walkS V kids[j] (d + bindsP k) s').2))])] ∧ J (walkS V kids[j] (d + bindsP k) s').2 ∧ (walkS V kids[j] (d + bindsP k) s').1 ≠ .nil := fun j h s' hJ' => by
          have hm := List.getElem_mem h
          have hz := dE hm
          exact ih _ hm _ s' (hvs _ hm) (bS hw hm) (by omega) (by omega) hJ'
        clear ih
        have hJs : ∀ j, j ≤ kids.length → J (walkSs V (kids.take j) (d + bindsP k) s).2 := by
          intro j
          induction j with
          | zero => intro _; rw [List.take_zero, dD]; exact hJ
          | succ j ihj =>
            intro hj
            rw [dZ V (d + bindsP k) s hj]
            exact (hind j hj _ (ihj (by omega))).2.1
        have hJe := hJs kids.length (Nat.le_refl _)
        rw [List.take_length] at hJe
        refine ⟨?_, hJe, by simp⟩
        clear hJe
        have cb := rM k n a b kids
        refine cD [1000, 1001, 1002, 1003, 1004] Tryz.func43 rfl rfl (nb rfl) rfl rfl ?_
        repeat' (first | refine aG ?_ | (refine aI ?_;  first | refine aD tabOk rfl rfl rfl (nb rfl) rfl ?_ | (refine aM rfl rfl rfl (nb rfl) rfl rfl rfl (fun hq => ?_) (fun hq => ?_) <;> (first | (simp only [sD, sE, sB, sC, sN, sM, sT, sF] at hq; try (exfalso; omega)) | skip)) | refine bB tabOk rfl rfl (nb rfl) rfl ?_ | refine cJ tabOk rfl rfl rfl (nb rfl) rfl rfl rfl rfl rfl rfl ?_ | refine bJ tabOk rfl rfl rfl rfl rfl rfl rfl rfl rfl rfl rfl ?_) | (refine aN ?_;  first | refine aH ?_ | refine aQ ?_ | refine aY ?_ | refine aU ?_ | refine aA (b := false) rfl nFt (fun _ => ?_)) | (refine aK ?_;  first | refine aX ?_))
        all_goals first
          | exact absurd (by assumption) k110
          | (exfalso; omega)
          | skip
        refine dH (dU (h0 := 7) (k0 := 4) 500 25 1 rfl rfl (by simp) rfl rfl) ?_
        refine cI (ι := {j : Nat // j ≤ kids.length}) (fun j => S.f ⟨[(35, .imm (.lit (.int .i64 (j.1 : Int)))), (34, .imm (.lit (.int .i64 (kids.length : Int)))), (33, .imm (.sl false kids.length (Tree.ivs kids))), (7, .obj 7 0), (0, .imm (Tree.iv (.node k n a b kids))), (1, .imm (.lit (.int .i64 d))), (2, .func F [] [.obj 1000 0, .obj 1001 0, .obj 1002 0, .obj 1003 0, .obj 1004 0])], (500, .arr 25 1 j.1 (Tree.ivs (walkSs V (kids.take j.1) (d + bindsP k) s).1)) :: (7, .cells [.imm (.lit (.int .i64 k)), .imm (.lit (.int .i64 n)), .imm (.lit (.string a)), .imm (.lit (.string b)), .ref 500 j.1]) :: [(1000, .cells [.imm (X0 ((walkSs V (kids.take j.1) (d + bindsP k) s).2))]), (1001, .cells [.imm (X1 ((walkSs V (kids.take j.1) (d + bindsP k) s).2))]), (1002, .cells [.imm (X2 ((walkSs V (kids.take j.1) (d + bindsP k) s).2))]), (1003, .cells [.imm (X3 ((walkSs V (kids.take j.1) (d + bindsP k) s).2))]), (1004, .cells [.imm (X4 ((walkSs V (kids.take j.1) (d + bindsP k) s).2))])]⟩) (fun j => kids.length - j.1) ⟨0, Nat.zero_le _⟩ (cA (by repeat' first | exact trivial | refine ⟨rfl, ?_⟩) (by repeat' first | exact trivial | refine ⟨rfl, ?_⟩)) ?_
        rintro ⟨j, hj⟩
        dsimp only
        by_cases hlt : j < kids.length
        · have hget := bX kids j hlt
          have hnx := dZ V (d + bindsP k) s hlt
          obtain ⟨hc, _, hnn⟩ := hind j hlt _ (hJs j hj)
          obtain ⟨pc, hpc⟩ := dT hnn
          rw [hpc] at hc
          have hll := dS V (kids.take j) (d + bindsP k) s
          rw [List.length_take, Nat.min_eq_left hj] at hll
          have hiv : Tree.ivs (walkSs V (kids.take (j + 1)) (d + bindsP k) s).1 = Tree.ivs (walkSs V (kids.take j) (d + bindsP k) s).1 ++ [(walkS V kids[j] (d + bindsP k) (walkSs V (kids.take j) (d + bindsP k) s).2).1.iv] := by
            rw [hnx, dL, dL, List.map_append]; rfl
          rw [hpc] at hiv
          clear hpc hnn
          have hst : (walkSs V (kids.take (j + 1)) (d + bindsP k) s).2 = (walkS V kids[j] (d + bindsP k) (walkSs V (kids.take j) (d + bindsP k) s).2).2 := by rw [hnx]
          clear hnx hind hJs
          have hil := eG (walkSs V (kids.take j) (d + bindsP k) s).1
          rw [hll] at hil
          generalize walkS V kids[j] (d + bindsP k) (walkSs V (kids.take j) (d + bindsP k) s).2 = W at *
          generalize walkSs V (kids.take j) (d + bindsP k) s = Z at *
          obtain ⟨W1, W2⟩ := W
          obtain ⟨Z1, Z2⟩ := Z
          dsimp only at *
          generalize Tree.ivs Z1 = ZI at *
          generalize hsum : d + bindsP k = dk at *
          repeat' (first | refine aG ?_ | (refine aI ?_;  first | refine aD tabOk rfl rfl rfl (nb rfl) rfl ?_ | (refine aM rfl rfl rfl (nb rfl) rfl rfl rfl (fun hq => ?_) (fun hq => ?_) <;> (first | (simp only [sD, sE, sB, sC, sN, sM, sT, sF] at hq; try (exfalso; omega)) | skip)) | refine bC tabOk rfl rfl rfl (nb rfl) rfl rfl rfl hget ?_ | refine aE rfl rfl (nb rfl) rfl rfl rfl rfl (cb) ?_ | refine bY (z := dk) rfl rfl rfl (nb rfl) rfl rfl hsum (by omega) (by omega) ?_ | refine cG rfl rfl (nb rfl) rfl rfl rfl rfl hc (by repeat' first | exact trivial | refine ⟨rfl, ?_⟩) rfl (by show ([1000, 1001, 1002, 1003, 1004] : List Nat).Nodup; decide) ?_ | refine dF tabOk rfl rfl rfl (nb rfl) rfl rfl rfl rfl rfl rfl rfl (by first | omega | decide) rfl (by first | omega | (dsimp only; omega)) (by first | omega | (dsimp only; omega)) ?_ | refine bP rfl rfl rfl (nb rfl) rfl rfl (by omega) ?_ | refine cH tabOk rfl rfl rfl (nb rfl) rfl rfl rfl rfl rfl rfl rfl rfl rfl ?_ | refine bO tabOk rfl rfl rfl (nb rfl) rfl rfl rfl rfl ?_ | refine bJ tabOk rfl rfl rfl rfl rfl rfl rfl rfl rfl rfl rfl ?_ | refine bG tabOk rfl rfl rfl (nb rfl) rfl rfl rfl rfl (by first | assumption | omega) ?_) | (refine aN ?_;  first | refine aH ?_ | refine aQ ?_ | refine bH ?_ | refine aY ?_ | refine aU ?_ | refine aA (b := true) rfl (fun _ => ?_) nTf | refine aW mixed (by kernel_rfl) ?_) | (refine aK ?_;  first | refine aX ?_) | (refine bA ?_;  first | refine bU ?_) | refine bQ (bL (by kernel_rfl)) ?_)
          all_goals first
            | (exfalso; omega)
            | (refine ⟨⟨j + 1, hlt⟩, (by show kids.length - (j + 1) < kids.length - j; omega), ?_⟩; dsimp only; rw [hiv, hst]; exact (cA (by repeat' first | exact trivial | refine ⟨rfl, ?_⟩) (by repeat' first | exact trivial | refine ⟨rfl, ?_⟩)))
        · have ej : j = kids.length := by omega
          subst ej
          rw [List.take_length]
          have hll := dS V kids (d + bindsP k) s
          clear hind hJs
          generalize walkSs V kids (d + bindsP k) s = Z at *
          obtain ⟨Z1, Z2⟩ := Z
          dsimp only at *
          have hiv : (Tree.node k n a b Z1).iv = .ptr [.lit (.int .i64 k), .lit (.int .i64 n), .lit (.string a), .lit (.string b), .sl false kids.length (Tree.ivs Z1)] 0 := by rw [Tree.iv, hll]
          rw [hiv]
          generalize Tree.ivs Z1 = ZI at *
          repeat' (first | refine aG ?_ | (refine aI ?_;  first | refine aD tabOk rfl rfl rfl (nb rfl) rfl ?_ | (refine aM rfl rfl rfl (nb rfl) rfl rfl rfl (fun hq => ?_) (fun hq => ?_) <;> (first | (simp only [sD, sE, sB, sC, sN, sM, sT, sF] at hq; try (exfalso; omega)) | skip))) | (refine aN ?_;  first | refine aH ?_ | refine aQ ?_ | refine aT ?_ | refine bW ?_ | refine aA (b := false) rfl nFt (fun _ => ?_)) | (refine aK ?_;  first | refine aX ?_ | refine bM ?_) | (refine bA ?_;  first | refine bI ?_))
          all_goals first
            | (exfalso; omega)
            | (refine gV ((Imp.of_le (σ' := S.f ⟨[(6, .obj 7 0)], (500, .arr 25 1 kids.length ZI) :: (7, .cells [.imm (.lit (.int .i64 k)), .imm (.lit (.int .i64 n)), .imm (.lit (.string a)), .imm (.lit (.string b)), .ref 500 kids.length]) :: [(1000, .cells [.imm (X0 Z2)]), (1001, .cells [.imm (X1 Z2)]), (1002, .cells [.imm (X2 Z2)]), (1003, .cells [.imm (X3 Z2)]), (1004, .cells [.imm (X4 Z2)])]⟩) (cA (by repeat' first | exact trivial | refine ⟨rfl, ?_⟩) (by repeat' first | exact trivial | refine ⟨rfl, ?_⟩))).trans ((dC (g := 500) rfl (by repeat' first | exact trivial | exact fun _ => rfl | refine ⟨?_, ?_⟩) (by repeat' first | exact trivial | exact fun _ => rfl | refine ⟨?_, ?_⟩)).trans (dI (g := 7) rfl rfl))) ?_
               refine cE (by first | exact .inl rfl | exact .inr rfl) (aZ rfl (aC rfl)) rfl (by repeat' first | exact trivial | refine ⟨rfl, ?_⟩) rfl rfl)
end Go.Proofs.YtdajnmffoopcaaaGreatDoor.Ab
namespace Go.Proofs.YtdajnmffoopcaaaGreatDoor.Ab
set_option linter.unusedVariables false
set_option linter.unusedSimpArgs false
attribute [local irreducible] AWP AOps AExit AThen ABlock ANoGoto FeetOk
set_option maxHeartbeats 4000000 in
set_option maxRecDepth 10000 in
theorem xI (k n : Int) (a b : ByteArray) (kids : List Tree) (by_ : Int) (h1 : 0 ≤ n + by_) (h2 : n + by_ ≤ 65536) : ACalls Tryz.prog 46 [.imm (Tree.iv (.node k n a b kids)), .imm (.lit (.int .i64 by_))] [] (.imm (varT (n + by_)).iv) [] := by
  generalize hz : n + by_ = z at *
  refine cZ Tryz.func46 rfl rfl (nb rfl) rfl ?_
  repeat' (first | refine aG ?_ | (refine aI ?_;  first | refine aD tabOk rfl rfl rfl (nb rfl) rfl ?_ | refine bY (z := z) rfl rfl rfl (nb rfl) rfl rfl hz (by omega) (by omega) ?_ | refine dQ tabOk rfl rfl rfl (nb rfl) rfl rfl rfl rfl rfl ?_ | refine qD (t := 49) rfl rfl rfl (nb rfl) rfl rfl rfl rfl rfl rfl rfl ?_) | (refine aN ?_;  first | refine aH ?_ | refine aT ?_))
  all_goals (refine eH (dI (g := 12) rfl rfl) ?_; refine aV (by first | exact .inl rfl | exact .inr rfl) (aZ rfl (aC rfl)) rfl ?_; rfl)
/-- What Shift makes of a variable. -/
def shiftV (by_ from_ : Int) (n d : Int) (ok : Bool) : Tree × Bool :=
  if n < d ∨ n - d < from_ then (varT n, ok)
  else if ok = true ∧ d - n ≤ by_ ∧ by_ ≤ 65536 - n then (varT (n + by_), true) else (varT n, false)
set_option maxHeartbeats 8000000 in
set_option maxRecDepth 10000 in
theorem aAu (by_ from_ : Int) (n d : Int) (ok : Bool) (hn0 : 0 ≤ n) (hn : n ≤ 65536) (hd0 : 0 ≤ d) (hd : d ≤ 1000000) :
    ACalls Tryz.prog 45 [.imm (varT n).iv, .imm (.lit (.int .i64 d)), .obj 1000 0, .obj 1001 0, .obj 1002 0] [(1000, .cells [.imm (.lit (.int .i64 from_))]), (1001, .cells [.imm (.lit (.bool ok))]), (1002, .cells [.imm (.lit (.int .i64 by_))])]
      (.imm (shiftV by_ from_ n d ok).1.iv) [(1000, .cells [.imm (.lit (.int .i64 from_))]), (1001, .cells [.imm (.lit (.bool (shiftV by_ from_ n d ok).2))]), (1002, .cells [.imm (.lit (.int .i64 by_))])] := by
  by_cases h1 : n < d ∨ n - d < from_
  · have e : shiftV by_ from_ n d ok = (varT n, ok) := if_pos h1
    rw [e]
    unfold varT
    refine cD [1000, 1001, 1002] Tryz.func45 rfl rfl (nb rfl) rfl rfl ?_
    repeat' (first | refine aG ?_ | (refine aI ?_;  first | refine aD tabOk rfl rfl rfl (nb rfl) rfl ?_ | refine bE rfl rfl (nb rfl) ?_ | (refine aM rfl rfl rfl (nb rfl) rfl rfl rfl (fun hq => ?_) (fun hq => ?_) <;> (first | (simp only [sD, sE, sB, sC, sN, sM, sT, sF] at hq; try (exfalso; omega)) | skip)) | refine bV rfl rfl rfl (nb rfl) rfl rfl rfl (by omega) (by omega) ?_ | refine bO tabOk rfl rfl rfl (nb rfl) rfl rfl rfl rfl ?_) | (refine aN ?_;  first | refine aH ?_ | refine aQ ?_ | refine aT ?_ | refine aA (b := true) rfl (fun _ => ?_) nTf | refine aW mixed (by kernel_rfl) ?_) | (refine aK ?_;  first | refine aX ?_ | refine aR ?_) | refine bQ (bL (by kernel_rfl)) ?_)
    all_goals first
      | exact absurd rfl (by assumption)
      | (exfalso; omega)
      | (refine cN (cE (by first | exact .inl rfl | exact .inr rfl) (aZ rfl (aC rfl)) rfl (by repeat' first | exact trivial | refine ⟨rfl, ?_⟩) rfl ?_); rfl)
  · by_cases h2 : ok = true ∧ d - n ≤ by_ ∧ by_ ≤ 65536 - n
    · have e : shiftV by_ from_ n d ok = (varT (n + by_), true) := by unfold shiftV; rw [if_neg h1, if_pos h2]
      rw [e]
      have cm := xI 110 n emptyB emptyB [] by_ (by omega) (by omega)
      obtain ⟨hok, h3, h4⟩ := h2
      subst hok
      generalize varT (n + by_) = Z at *
      unfold varT
      refine cD [1000, 1001, 1002] Tryz.func45 rfl rfl (nb rfl) rfl rfl ?_
      repeat' (first | refine aG ?_ | (refine aI ?_;  first | refine aD tabOk rfl rfl rfl (nb rfl) rfl ?_ | (refine aM rfl rfl rfl (nb rfl) rfl rfl rfl (fun hq => ?_) (fun hq => ?_) <;> (first | (simp only [sD, sE, sB, sC, sN, sM, sT, sF] at hq; try (exfalso; omega)) | skip)) | refine aE rfl rfl (nb rfl) rfl rfl rfl rfl (cm) ?_ | refine bV rfl rfl rfl (nb rfl) rfl rfl rfl (by omega) (by omega) ?_ | refine bO tabOk rfl rfl rfl (nb rfl) rfl rfl rfl rfl ?_ | refine bJ tabOk rfl rfl rfl rfl rfl rfl rfl rfl rfl rfl rfl ?_) | (refine aN ?_;  first | refine aH ?_ | refine aQ ?_ | refine aT ?_ | refine aU ?_ | refine aA (b := false) rfl nFt (fun _ => ?_) | refine aW mixed (by kernel_rfl) ?_) | (refine aK ?_;  first | refine aX ?_) | refine bQ (bL (by kernel_rfl)) ?_)
      all_goals first
        | exact absurd rfl (by assumption)
        | (exfalso; omega)
        | (refine cN (cE (by first | exact .inl rfl | exact .inr rfl) (aZ rfl (aC rfl)) rfl (by repeat' first | exact trivial | refine ⟨rfl, ?_⟩) rfl ?_); rfl)
    · have e : shiftV by_ from_ n d ok = (varT n, false) := by unfold shiftV; rw [if_neg h1, if_neg h2]
      rw [e]
      unfold varT
      cases ok with
      | false =>
        refine cD [1000, 1001, 1002] Tryz.func45 rfl rfl (nb rfl) rfl rfl ?_
        repeat' (first | refine aG ?_ | (refine aI ?_;  first | refine aD tabOk rfl rfl rfl (nb rfl) rfl ?_ | refine bE rfl rfl (nb rfl) ?_ | (refine aM rfl rfl rfl (nb rfl) rfl rfl rfl (fun hq => ?_) (fun hq => ?_) <;> (first | (simp only [sD, sE, sB, sC, sN, sM, sT, sF] at hq; try (exfalso; omega)) | skip)) | refine bV rfl rfl rfl (nb rfl) rfl rfl rfl (by omega) (by omega) ?_ | refine bO tabOk rfl rfl rfl (nb rfl) rfl rfl rfl rfl ?_ | refine bJ tabOk rfl rfl rfl rfl rfl rfl rfl rfl rfl rfl rfl ?_) | (refine aN ?_;  first | refine aH ?_ | refine aQ ?_ | refine aT ?_ | refine aU ?_ | refine aA (b := true) rfl (fun _ => ?_) nTf | refine aA (b := false) rfl nFt (fun _ => ?_) | refine aW mixed (by kernel_rfl) ?_) | (refine aK ?_;  first | refine aX ?_ | refine aR ?_) | refine bQ (bL (by kernel_rfl)) ?_)
        all_goals first
          | exact absurd rfl (by assumption)
          | (exfalso; omega)
          | (refine cN (cE (by first | exact .inl rfl | exact .inr rfl) (aZ rfl (aC rfl)) rfl (by repeat' first | exact trivial | refine ⟨rfl, ?_⟩) rfl ?_); rfl)
      | true =>
        have h2 : ¬ (d - n ≤ by_ ∧ by_ ≤ 65536 - n) := fun h => h2 ⟨rfl, h⟩
        refine cD [1000, 1001, 1002] Tryz.func45 rfl rfl (nb rfl) rfl rfl ?_
        repeat' (first | refine aG ?_ | (refine aI ?_;  first | refine aD tabOk rfl rfl rfl (nb rfl) rfl ?_ | refine bE rfl rfl (nb rfl) ?_ | (refine aM rfl rfl rfl (nb rfl) rfl rfl rfl (fun hq => ?_) (fun hq => ?_) <;> (first | (simp only [sD, sE, sB, sC, sN, sM, sT, sF] at hq; try (exfalso; omega)) | skip)) | refine bV rfl rfl rfl (nb rfl) rfl rfl rfl (by omega) (by omega) ?_ | refine bO tabOk rfl rfl rfl (nb rfl) rfl rfl rfl rfl ?_ | refine bJ tabOk rfl rfl rfl rfl rfl rfl rfl rfl rfl rfl rfl ?_) | (refine aN ?_;  first | refine aH ?_ | refine aQ ?_ | refine aT ?_ | refine aU ?_ | refine aA (b := true) rfl (fun _ => ?_) nTf | refine aA (b := false) rfl nFt (fun _ => ?_) | refine aW mixed (by kernel_rfl) ?_) | (refine aK ?_;  first | refine aX ?_ | refine aR ?_) | refine bQ (bL (by kernel_rfl)) ?_)
        all_goals first
          | exact absurd rfl (by assumption)
          | (exfalso; omega)
          | (refine cN (cE (by first | exact .inl rfl | exact .inr rfl) (aZ rfl (aC rfl)) rfl (by repeat' first | exact trivial | refine ⟨rfl, ?_⟩) rfl ?_); rfl)
end Go.Proofs.YtdajnmffoopcaaaGreatDoor.Ab
namespace Go.Proofs.YtdajnmffoopcaaaGreatDoor.Ab
set_option linter.unusedVariables false
set_option linter.unusedSimpArgs false
attribute [local irreducible] AWP AOps AExit AThen ABlock ANoGoto FeetOk
theorem rN {a b : ByteArray} (h : eqB a b = true) : a = b := (dO a b).1 h
theorem iX {kind : Int} (hk : kind ≠ 110) {t : Tree} (ih : ∀ t' : Tree, t'.size < t.size → isConP t' = true → okVars t' = true) (h : okNamed kind t = true) : okVars t = true := by
  cases t with
  | nil => simp [okNamed] at h
  | node k n a b ks =>
    simp only [okNamed, Bool.and_eq_true, beq_iff_eq] at h
    obtain ⟨⟨⟨rfl, _⟩, _⟩, h⟩ := h
    by_cases h1 : ks.length = 1
    · obtain ⟨c, rfl⟩ := one_of h1
      rw [okVars, if_neg hk]
      refine iH fun t ht => ?_
      obtain rfl := List.mem_singleton.1 ht
      exact ih t (cM (by simp)) (by simpa [isCon1] using h)
    · rw [jQ h1] at h; cases h
/-- A constructor has no other variables than may be. -/
theorem cY (t : Tree) : isConP t = true → okVars t = true := by
  induction t using Tree.sind with
  | h t ih =>
    intro h
    cases t with
    | nil => simp [isConP] at h
    | node k n a b kids =>
      rw [isConP, Bool.and_eq_true] at h
      obtain ⟨hb, h⟩ := h
      by_cases k0 : k = 110
      · rw [if_pos k0] at h
        subst k0
        simp only [bareP, Bool.and_eq_true, Bool.or_eq_true, beq_self_eq_true, true_or, or_true, Bool.false_eq_true, false_or, decide_eq_true_eq, beq_iff_eq, and_true] at hb h
        rw [okVars, if_pos rfl]
        have e0 : kids = [] := List.eq_nil_of_length_eq_zero (by omega)
        rw [decide_eq_true ⟨h.1.1, h.1.2⟩, decide_eq_true (rN hb.2), decide_eq_true (rN hb.1), e0]
        rfl
      · rw [if_neg k0] at h
        have kid : ∀ t ∈ kids, isConP t = true → okVars t = true := fun t ht => ih t (cM ht)
        rw [okVars, if_neg k0]
        refine iH fun t ht => ?_
        by_cases k1 : k = 111 ∨ k = 112 ∨ k = 113
        · rw [if_pos k1] at h
          have e0 : kids = [] := List.eq_nil_of_length_eq_zero (by simpa using h)
          rw [e0] at ht
          cases ht
        · rw [if_neg k1] at h
          by_cases k2 : k = 114 ∨ k = 120
          · rw [if_pos k2, Bool.and_eq_true, kL] at h
            exact kid t ht (List.all_eq_true.1 h.2 t ht)
          · rw [if_neg k2] at h
            by_cases k3 : k = 115
            · rw [if_pos k3, Bool.and_eq_true, dV] at h
              have hz := cM (k := k) (n := n) (a := a) (b := b) ht
              exact iX (by decide) (fun t' h1 h2 => ih t' (by omega) h2) (List.all_eq_true.1 h.1 t ht)
            · rw [if_neg k3] at h
              by_cases k4 : k = 117 ∨ k = 118 ∨ k = 119
              · rw [if_pos k4] at h
                by_cases h2 : kids.length = 2
                · obtain ⟨x, y, rfl⟩ := two h2
                  simp only [isCon2, Bool.and_eq_true] at h
                  rcases List.mem_cons.1 ht with rfl | ht'
                  · exact tK _ h.1
                  · obtain rfl := List.mem_singleton.1 ht'
                    exact kid _ ht h.2
                · rw [eZ h2] at h; cases h
              · rw [if_neg k4] at h
                by_cases k5 : k = 121
                · rw [if_pos k5, Bool.and_eq_true, Bool.and_eq_true, dV] at h
                  have hz := cM (k := k) (n := n) (a := a) (b := b) ht
                  exact iX (by decide) (fun t' h1 h2 => ih t' (by omega) h2) (List.all_eq_true.1 h.1.2 t ht)
                · rw [if_neg k5] at h; cases h
/-- A tree that was found whole has no more nodes than may be. -/
theorem iY (t : Tree) : ∀ l : Int, 0 ≤ l → (wholeP t l).1 = 0 → (wholeP t l).2 = l - t.size := by
  induction t using Tree.ind with
  | h1 => intro l _ h; simp [wholeP] at h
  | h2 k n a b kids ih =>
    intro l hl h
    rw [wholeP] at h ⊢
    split at h
    · cases h
    · rename_i hn
      rw [if_neg hn]
      have key : ∀ (ts : List Tree) (x : Int), (∀ t ∈ ts, t ∈ kids) → 0 ≤ x → (wholePs ts x).1 = 0 → (wholePs ts x).2 = x - Tree.sizes ts := by
        intro ts
        induction ts with
        | nil => intro x _ hx _; simp [wholePs, Tree.sizes]
        | cons t ts ih2 =>
          intro x hm hx he
          rw [wholePs] at he ⊢
          split at he
          · rename_i e
            rw [if_pos e]
            have h1 := ih t (hm t (by simp)) x hx e
            have h0 := eR t x hx e
            have h2 := ih2 (wholeP t x).2 (fun t' ht' => hm t' (by simp [ht'])) h0.1 he
            rw [h2, h1, Tree.sizes]
            omega
          · rename_i e; exact absurd he e
      rw [key kids (l - 1) (fun _ h => h) (by omega) h, Tree.size]
      omega
theorem bK {form : Tree → Bool} {t : Tree} (h : checkP form t = 0) : t.whole = true ∧ t.size ≤ 65536 ∧ form t = true := by
  unfold checkP at h
  split at h
  · rename_i h0
    split at h
    · rename_i hf
      have h1 := iY t 65536 (by omega) h0
      have h2 := eR t 65536 (by omega) h0
      exact ⟨eT t _ h0, by omega, hf⟩
    · cases h
  · rename_i h0; exact absurd h h0
/-- What Shift tells. -/
def shiftP (t : Tree) (by_ from_ : Int) : Tree × Int :=
  if checkP isConP t = 0 then
    (if (walkS (shiftV by_ from_) t 0 (decide (0 ≤ from_))).2 = true then ((walkS (shiftV by_ from_) t 0 (decide (0 ≤ from_))).1, 0) else (.nil, 2))
  else (.nil, checkP isConP t)
set_option maxHeartbeats 8000000 in
set_option maxRecDepth 10000 in
theorem nG (t : Tree) (by_ from_ : Int) (hs : t.size ≤ 1000000) : ACalls Tryz.prog 19 [.imm t.iv, .imm (.lit (.int .i64 by_)), .imm (.lit (.int .i64 from_))] [] (.imm (.tup [(shiftP t by_ from_).1.iv, .lit (.int .i64 (shiftP t by_ from_).2)])) [] := by
  have c1 := eM t hs
  unfold shiftP
  obtain ⟨ok0, hok0⟩ : ∃ b, decide (0 ≤ from_) = b := ⟨_, rfl⟩
  rw [hok0]
  have hfr : (ok0 = true ∧ 0 ≤ from_) ∨ (ok0 = false ∧ ¬ 0 ≤ from_) := by
    cases ok0 with
    | true => exact .inl ⟨rfl, of_decide_eq_true hok0⟩
    | false => exact .inr ⟨rfl, of_decide_eq_false hok0⟩
  clear hok0
  by_cases hc : checkP isConP t = 0
  · rw [if_pos hc]
    obtain ⟨hw, hz, hf⟩ := bK hc
    have hv := cY t hf
    have cw := (aBJ (σ := Bool) (shiftV by_ from_) 45 (fun _ => .lit (.int .i64 from_)) (fun ok => .lit (.bool ok)) (fun _ => .lit (.int .i64 by_)) (fun _ => True)
      (fun n d s _ h1 h2 h3 h4 => ⟨aAu by_ from_ n d s h1 h2 h3 h4, trivial, by unfold shiftV varT; split <;> (try split) <;> simp⟩) t 0 ok0 hv hw (Int.le_refl _) (by omega) trivial)
    obtain ⟨cw, _, hne⟩ := cw
    obtain ⟨pc, hpc⟩ := dT hne
    rw [hpc] at cw
    rw [hc] at c1
    cases hR : (walkS (shiftV by_ from_) t 0 ok0).2 with
    | true =>
      rw [if_pos rfl]
      dsimp only
      rw [hpc]
      rw [hR] at cw
      clear hc hw hz hf hv hne hpc hR
      generalize (walkS (shiftV by_ from_) t 0 ok0).1 = W at *
      rcases hfr with ⟨rfl, hfr⟩ | ⟨rfl, hfr⟩ <;>
      (refine aJ Tryz.func19 rfl rfl (nb rfl) rfl ?_
       repeat' (first | refine aG ?_ | (refine aI ?_;  first | refine aD tabOk rfl rfl rfl (nb rfl) rfl ?_ | (refine aM rfl rfl rfl (nb rfl) rfl rfl rfl (fun hq => ?_) (fun hq => ?_) <;> (first | (simp only [sD, sE, sB, sC, sN, sM, sT, sF] at hq; try (exfalso; omega)) | skip)) | refine aE rfl rfl (nb rfl) rfl rfl rfl rfl (c1) ?_ | refine cQ 1002 (d := 4) rfl rfl rfl (nb rfl) rfl rfl rfl rfl rfl rfl rfl ?_ | refine cQ 1000 (d := 5) rfl rfl rfl (nb rfl) rfl rfl rfl rfl rfl rfl rfl ?_ | refine cP 1001 tabOk rfl rfl rfl (nb rfl) rfl rfl rfl rfl rfl rfl ?_ | refine cG rfl rfl (nb rfl) rfl rfl rfl rfl cw (by repeat' first | exact trivial | refine ⟨rfl, ?_⟩) rfl (by show ([1000, 1001, 1002] : List Nat).Nodup; decide) ?_ | refine bO tabOk rfl rfl rfl (nb rfl) rfl rfl rfl rfl ?_ | refine bJ tabOk rfl rfl rfl rfl rfl rfl rfl rfl rfl rfl rfl ?_) | (refine aN ?_;  first | refine aH ?_ | refine aQ ?_ | refine aT ?_ | refine aU ?_ | refine aA (b := false) rfl nFt (fun _ => ?_)) | (refine aK ?_;  first | refine aX ?_))
       all_goals first
         | exact absurd rfl (by assumption)
         | (exfalso; omega)
         | (refine aV (by first | exact .inl rfl | exact .inr rfl) (bD rfl (aC rfl) (aC rfl)) rfl ?_; rfl))
    | false =>
      rw [if_neg (by simp)]
      dsimp only
      rw [hR] at cw
      clear hc hw hz hf hv hne hpc hR
      rcases hfr with ⟨rfl, hfr⟩ | ⟨rfl, hfr⟩ <;>
      (refine aJ Tryz.func19 rfl rfl (nb rfl) rfl ?_
       repeat' (first | refine aG ?_ | (refine aI ?_;  first | refine aD tabOk rfl rfl rfl (nb rfl) rfl ?_ | (refine aM rfl rfl rfl (nb rfl) rfl rfl rfl (fun hq => ?_) (fun hq => ?_) <;> (first | (simp only [sD, sE, sB, sC, sN, sM, sT, sF] at hq; try (exfalso; omega)) | skip)) | refine aE rfl rfl (nb rfl) rfl rfl rfl rfl (c1) ?_ | refine cQ 1002 (d := 4) rfl rfl rfl (nb rfl) rfl rfl rfl rfl rfl rfl rfl ?_ | refine cQ 1000 (d := 5) rfl rfl rfl (nb rfl) rfl rfl rfl rfl rfl rfl rfl ?_ | refine cP 1001 tabOk rfl rfl rfl (nb rfl) rfl rfl rfl rfl rfl rfl ?_ | refine cG rfl rfl (nb rfl) rfl rfl rfl rfl cw (by repeat' first | exact trivial | refine ⟨rfl, ?_⟩) rfl (by show ([1000, 1001, 1002] : List Nat).Nodup; decide) ?_ | refine bO tabOk rfl rfl rfl (nb rfl) rfl rfl rfl rfl ?_ | refine bJ tabOk rfl rfl rfl rfl rfl rfl rfl rfl rfl rfl rfl ?_) | (refine aN ?_;  first | refine aH ?_ | refine aQ ?_ | refine aT ?_ | refine aU ?_ | refine aA (b := true) rfl (fun _ => ?_) nTf | refine aA (b := false) rfl nFt (fun _ => ?_)) | (refine aK ?_;  first | refine aX ?_ | refine aR ?_))
       all_goals first
         | exact absurd rfl (by assumption)
         | (exfalso; omega)
         | (refine aV (by first | exact .inl rfl | exact .inr rfl) (bD rfl (aC rfl) (aC rfl)) rfl ?_; rfl))
  · rw [if_neg hc]
    generalize checkP isConP t = C at *
    refine aJ Tryz.func19 rfl rfl (nb rfl) rfl ?_
    repeat' (first | refine aG ?_ | (refine aI ?_;  first | refine aD tabOk rfl rfl rfl (nb rfl) rfl ?_ | (refine aM rfl rfl rfl (nb rfl) rfl rfl rfl (fun hq => ?_) (fun hq => ?_) <;> (first | (simp only [sD, sE, sB, sC, sN, sM, sT, sF] at hq; try (exfalso; omega)) | skip)) | refine aE rfl rfl (nb rfl) rfl rfl rfl rfl (c1) ?_ | refine cQ 1002 (d := 4) rfl rfl rfl (nb rfl) rfl rfl rfl rfl rfl rfl rfl ?_ | refine cQ 1000 (d := 5) rfl rfl rfl (nb rfl) rfl rfl rfl rfl rfl rfl rfl ?_) | (refine aN ?_;  first | refine aH ?_ | refine aQ ?_ | refine aT ?_ | refine aA (b := true) rfl (fun _ => ?_) nTf) | (refine aK ?_;  first | refine aR ?_))
    all_goals first
      | exact absurd (by assumption) hc
      | (exfalso; omega)
      | (refine aV (by first | exact .inl rfl | exact .inr rfl) (bD rfl (aC rfl) (aC rfl)) rfl ?_; rfl)
end Go.Proofs.YtdajnmffoopcaaaGreatDoor.Ab
namespace Go.Proofs.YtdajnmffoopcaaaGreatDoor.Ab
set_option linter.unusedVariables false
set_option linter.unusedSimpArgs false
attribute [local irreducible] AWP AOps AExit AThen ABlock ANoGoto FeetOk
theorem dG {t : Tree} (h : t.whole = true) : t ≠ .nil := by intro e; subst e; simp [Tree.whole] at h
theorem lV : ∀ {l : List Tree}, (∀ t ∈ l, t.whole = true) → Tree.wholes l = true
  | [], _ => rfl
  | x :: xs, h => by
    simp only [Tree.wholes, Bool.and_eq_true]
    exact ⟨h x (by simp), lV fun t ht => h t (by simp [ht])⟩
theorem fL : ∀ (a b : List Tree), Tree.sizes (a ++ b) = Tree.sizes a + Tree.sizes b
  | [], b => by simp [Tree.sizes]
  | x :: a, b => by rw [List.cons_append, Tree.sizes, fL a b, Tree.sizes]; omega
theorem gW (n : Int) : (varT n).size = 1 := rfl
section
variable {σ : Type} (V : Int → Int → σ → Tree × σ) (J : σ → Prop) (f : σ → Nat)
/-- What is made anew of a whole tree is whole; as much more is counted as it has more nodes. -/
theorem kM (hV : ∀ n d s, J s → 0 ≤ n → n ≤ 65536 → 0 ≤ d → d ≤ 1000000 → (V n d s).1.whole = true ∧ J (V n d s).2 ∧ (V n d s).1.size + f s ≤ 1 + f (V n d s).2) (t : Tree) :
    ∀ (d : Int) s, okVars t = true → t.whole = true → 0 ≤ d → d + t.size ≤ 1000000 → J s → (walkS V t d s).1.whole = true ∧ J (walkS V t d s).2 ∧ (walkS V t d s).1.size + f s ≤ t.size + f (walkS V t d s).2 := by
  induction t using Tree.ind with
  | h1 => intro d s _ h; simp [Tree.whole] at h
  | h2 k n a b kids ih =>
    intro d s hv hw hd hs hJ
    have hsz : (Tree.node k n a b kids).size = 1 + Tree.sizes kids := by rw [Tree.size]
    rw [hsz] at hs ⊢
    by_cases k110 : k = 110
    · obtain ⟨q1, q2, rfl, rfl, rfl⟩ := dB k110 hv
      subst k110
      rw [dP]
      have := hV n d s hJ q1 q2 hd (by omega)
      exact ⟨this.1, this.2.1, by simp only [Tree.sizes]; omega⟩
    · by_cases hk0 : kids.length = 0
      · have e0 : kids = [] := List.eq_nil_of_length_eq_zero hk0
        subst e0
        rw [fX _ _ _ _ k110]
        exact ⟨hw, hJ, by simp only [Tree.size]; omega⟩
      · rw [fY _ _ _ _ k110 hk0]
        have hb := eI k
        have hvs := dA k110 hv
        have key : ∀ (l : List Tree) s, (∀ t ∈ l, t ∈ kids) → J s → Tree.wholes (walkSs V l (d + bindsP k) s).1 = true ∧ J (walkSs V l (d + bindsP k) s).2 ∧ Tree.sizes (walkSs V l (d + bindsP k) s).1 + f s ≤ Tree.sizes l + f (walkSs V l (d + bindsP k) s).2 := by
          intro l
          induction l with
          | nil => intro s _ hJ; rw [dD]; exact ⟨rfl, hJ, Nat.le_refl _⟩
          | cons t l ihl =>
            intro s hm hJ
            have hmt := hm t (by simp)
            have hz := dE hmt
            have h1 := ih t hmt (d + bindsP k) s (hvs _ hmt) (bS hw hmt) (by omega) (by omega) hJ
            have h2 := ihl (walkS V t (d + bindsP k) s).2 (fun t' h => hm t' (by simp [h])) h1.2.1
            rw [walkSs]
            refine ⟨?_, h2.2.1, ?_⟩
            · simp only [Tree.wholes, Bool.and_eq_true]; exact ⟨h1.1, h2.1⟩
            · simp only [Tree.sizes]; have := h1.2.2; have := h2.2.2; omega
        have := key kids s (fun _ h => h) hJ
        refine ⟨this.1, this.2.1, ?_⟩
        simp only [Tree.size]
        have := this.2.2
        omega
end
theorem eN (by_ from_ : Int) (n d : Int) (ok : Bool) : (shiftV by_ from_ n d ok).1.whole = true ∧ (shiftV by_ from_ n d ok).1.size = 1 := by
  unfold shiftV
  split
  · exact ⟨rfl, rfl⟩
  · split <;> exact ⟨rfl, rfl⟩
theorem fF (t : Tree) (by_ from_ : Int) (h : (shiftP t by_ from_).2 = 0) : (shiftP t by_ from_).1.whole = true ∧ (shiftP t by_ from_).1.size ≤ t.size ∧ checkP isConP t = 0 := by
  unfold shiftP at h ⊢
  by_cases hc : checkP isConP t = 0
  · rw [if_pos hc] at h ⊢
    obtain ⟨hw, hz, hf⟩ := bK hc
    have := kM (shiftV by_ from_) (fun _ => True) (fun _ => 0) (fun n d s _ _ _ _ _ => ⟨(eN by_ from_ n d s).1, trivial, by rw [(eN by_ from_ n d s).2]; omega⟩) t 0 (decide (0 ≤ from_)) (cY t hf) hw (Int.le_refl _) (by omega) trivial
    split at h
    · rename_i h2
      rw [if_pos h2]
      exact ⟨this.1, by have := this.2.2; dsimp only; omega, hc⟩
    · cases h
  · rw [if_neg hc] at h
    exact absurd h hc
set_option maxHeartbeats 4000000 in
set_option maxRecDepth 10000 in
theorem aAv (t : Tree) : t.size ≤ 1000000 → (t = .nil ∨ t.whole = true) → ACalls Tryz.prog 52 [.imm t.iv] [] (.imm (.lit (.int .i64 (t.size : Int)))) [] := by
  induction t using Tree.ind with
  | h1 =>
    intro _ _
    refine aJ Tryz.func52 rfl rfl (nb rfl) rfl ?_
    repeat' (first | refine aG ?_ | (refine aI ?_;  first | refine aD tabOk rfl rfl rfl (nb rfl) rfl ?_ | refine bB tabOk rfl rfl (nb rfl) rfl ?_) | (refine aN ?_;  first | refine aH ?_ | refine aQ ?_ | refine aT ?_ | refine aA (b := true) rfl (fun _ => ?_) nTf) | (refine aK ?_;  first | refine aR ?_))
    all_goals (refine aV (by first | exact .inl rfl | exact .inr rfl) (aZ rfl (aC rfl)) rfl ?_; rfl)
  | h2 k n a b kids ih =>
    intro hs hw
    have hw : (Tree.node k n a b kids).whole = true := by
      rcases hw with h | h
      · cases h
      · exact h
    have hl := cC kids hw
    have hsz : (Tree.node k n a b kids).size = 1 + Tree.sizes kids := by rw [Tree.size]
    rw [hsz] at hs ⊢
    have htk : ∀ j (h : j < kids.length), Tree.sizes (kids.take (j + 1)) = Tree.sizes (kids.take j) + kids[j].size := fun j h => by
      rw [List.take_succ_eq_append_getElem h, fL]
      simp only [Tree.sizes]; omega
    have hle : ∀ j, Tree.sizes (kids.take j) ≤ Tree.sizes kids := fun j => by
      have := fL (kids.take j) (kids.drop j)
      rw [List.take_append_drop] at this
      omega
    refine aJ Tryz.func52 rfl rfl (nb rfl) rfl ?_
    repeat' (first | refine aG ?_ | (refine aI ?_;  first | refine aD tabOk rfl rfl rfl (nb rfl) rfl ?_ | refine bB tabOk rfl rfl (nb rfl) rfl ?_) | (refine aN ?_;  first | refine aH ?_ | refine aQ ?_ | refine aY ?_ | refine aU ?_ | refine aA (b := false) rfl nFt (fun _ => ?_)) | (refine aK ?_;  first | refine aX ?_))
    refine cI (ι := {j : Nat // j ≤ kids.length}) (fun j => S.f ⟨[(13, .imm (.lit (.int .i64 (j.1 : Int)))), (12, .imm (.lit (.int .i64 (kids.length : Int)))), (11, .imm (.sl false kids.length (Tree.ivs kids))), (3, .imm (.lit (.int .i64 ((1 + Tree.sizes (kids.take j.1) : Nat) : Int))))], []⟩) (fun j => kids.length - j.1) ⟨0, Nat.zero_le _⟩ (cA (by repeat' first | exact trivial | refine ⟨rfl, ?_⟩) (by repeat' first | exact trivial | refine ⟨rfl, ?_⟩)) ?_
    rintro ⟨j, hj⟩
    dsimp only
    by_cases hlt : j < kids.length
    · have hm := List.getElem_mem hlt
      have h1 := htk j hlt
      have h2 := hle j
      have h3 := hle (j + 1)
      have hc := ih _ hm (by omega) (.inr (bS hw hm))
      repeat' (first | refine aG ?_ | (refine aI ?_;  first | refine aD tabOk rfl rfl rfl (nb rfl) rfl ?_ | (refine aM rfl rfl rfl (nb rfl) rfl rfl rfl (fun hq => ?_) (fun hq => ?_) <;> (first | (simp only [sD, sE, sB, sC, sN, sM, sT, sF] at hq; try (exfalso; omega)) | skip)) | refine aE rfl rfl (nb rfl) rfl rfl rfl rfl (hc) ?_ | refine bY (z := ((1 + Tree.sizes (kids.take (j + 1)) : Nat) : Int)) rfl rfl rfl (nb rfl) rfl rfl (by omega) (by omega) (by omega) ?_ | refine bP rfl rfl rfl (nb rfl) rfl rfl (by omega) ?_ | refine bG tabOk rfl rfl rfl (nb rfl) rfl rfl rfl rfl (by first | assumption | omega) ?_ | refine bC tabOk rfl rfl rfl (nb rfl) rfl rfl rfl (bX _ _ (by first | assumption | omega)) ?_) | (refine aN ?_;  first | refine aH ?_ | refine aQ ?_ | refine bH ?_ | refine aY ?_ | refine aU ?_ | refine aA (b := true) rfl (fun _ => ?_) nTf) | (refine aK ?_;  first | refine aX ?_) | (refine bA ?_;  first | refine bU ?_))
      all_goals first
        | (exfalso; omega)
        | exact ⟨⟨j + 1, hlt⟩, (by show kids.length - (j + 1) < kids.length - j; omega), (cA (by repeat' first | exact trivial | refine ⟨rfl, ?_⟩) (by repeat' first | exact trivial | refine ⟨rfl, ?_⟩))⟩
    · have ej : j = kids.length := by omega
      subst ej
      rw [List.take_length]
      repeat' (first | refine aG ?_ | (refine aI ?_;  first | refine aD tabOk rfl rfl rfl (nb rfl) rfl ?_ | (refine aM rfl rfl rfl (nb rfl) rfl rfl rfl (fun hq => ?_) (fun hq => ?_) <;> (first | (simp only [sD, sE, sB, sC, sN, sM, sT, sF] at hq; try (exfalso; omega)) | skip))) | (refine aN ?_;  first | refine aH ?_ | refine aQ ?_ | refine aT ?_ | refine bW ?_ | refine aA (b := false) rfl nFt (fun _ => ?_)) | (refine aK ?_;  first | refine aX ?_ | refine bM ?_) | (refine bA ?_;  first | refine bI ?_))
      all_goals first
        | (exfalso; omega)
        | (refine aV (by first | exact .inl rfl | exact .inr rfl) (aZ rfl (aC rfl)) rfl ?_; rfl)
mutual
/-- How many nodes a tree has, as far as a bound. -/
def largeP : Tree → Int → Int
  | .nil, _ => 1
  | .node _ _ _ _ kids, m => largePs kids 1 m
def largePs : List Tree → Int → Int → Int
  | [], s, _ => s
  | t :: ts, s, m => if s > m then s else largePs ts (s + largeP t (m - s)) m
end
theorem rO (l : List Tree) (s m : Int) (h : s > m) : largePs l s m = s := by
  cases l with
  | nil => rfl
  | cons t ts => rw [largePs, if_pos h]
theorem mJ (t : Tree) : t.whole = true → ∀ m : Int, 0 ≤ m → 1 ≤ largeP t m ∧ largeP t m ≤ t.size ∧ ((t.size : Int) ≤ m → largeP t m = t.size) ∧ (m < t.size → m < largeP t m) := by
  induction t using Tree.ind with
  | h1 => intro h; simp [Tree.whole] at h
  | h2 k n a b kids ih =>
    intro hw m hm
    have key : ∀ (l : List Tree), (∀ t ∈ l, t ∈ kids) → ∀ s : Int, 1 ≤ s → 1 ≤ largePs l s m ∧ largePs l s m ≤ s + Tree.sizes l ∧ (s + Tree.sizes l ≤ m → largePs l s m = s + Tree.sizes l) ∧ (m < s + Tree.sizes l → m < largePs l s m) := by
      intro l
      induction l with
      | nil => intro _ s hs; simp only [largePs, Tree.sizes]; omega
      | cons t ts ihl =>
        intro hmem s hs
        rw [largePs]
        simp only [Tree.sizes]
        by_cases h : s > m
        · rw [if_pos h]; omega
        · rw [if_neg h]
          have h1 := ih t (hmem t (by simp)) (bS hw (hmem t (by simp))) (m - s) (by omega)
          have h2 := ihl (fun t' h' => hmem t' (by simp [h'])) (s + largeP t (m - s)) (by omega)
          by_cases h3 : m - s < t.size
          · have h4 := h1.2.2.2 h3
            have h5 := rO ts (s + largeP t (m - s)) m (by omega)
            rw [h5]
            refine ⟨by omega, by omega, by omega, by omega⟩
          · have h4 := h1.2.2.1 (by omega)
            rw [h4] at h2 ⊢
            refine ⟨h2.1, by omega, fun h => ?_, fun h => ?_⟩
            · rw [h2.2.2.1 (by omega)]; omega
            · exact h2.2.2.2 (by omega)
    have := key kids (fun _ h => h) 1 (by omega)
    rw [largeP, Tree.size]
    refine ⟨this.1, by omega, fun h => ?_, fun h => this.2.2.2 (by omega)⟩
    rw [this.2.2.1 (by omega)]; omega
set_option maxHeartbeats 4000000 in
set_option maxRecDepth 10000 in
theorem aBL (t : Tree) : t.whole = true → t.size ≤ 1000000 → ∀ m : Int, 0 ≤ m → m ≤ 1000000 → ACalls Tryz.prog 77 [.imm t.iv, .imm (.lit (.int .i64 m))] [] (.imm (.lit (.int .i64 (largeP t m)))) [] := by
  induction t using Tree.ind with
  | h1 => intro h; simp [Tree.whole] at h
  | h2 k n a b kids ih =>
    intro hw hs m hm0 hm1
    have hl := cC kids hw
    have hsz : (Tree.node k n a b kids).size = 1 + Tree.sizes kids := by rw [Tree.size]
    rw [hsz] at hs
    generalize hR : largeP (.node k n a b kids) m = R
    rw [largeP] at hR
    refine aJ Tryz.func77 rfl rfl (nb rfl) rfl ?_
    repeat' (first | refine aG ?_ | (refine aI ?_;  first | refine aD tabOk rfl rfl rfl (nb rfl) rfl ?_ | refine bB tabOk rfl rfl (nb rfl) rfl ?_) | (refine aN ?_;  first | refine aH ?_ | refine aQ ?_ | refine aY ?_))
    refine cI (ι := {x : Nat × Int // x.1 ≤ kids.length ∧ largePs (kids.drop x.1) x.2 m = R ∧ 1 ≤ x.2 ∧ x.2 + Tree.sizes (kids.drop x.1) ≤ 1000000}) (fun x => S.f ⟨[(13, .imm (.lit (.int .i64 (x.1.1 : Int)))), (12, .imm (.lit (.int .i64 (kids.length : Int)))), (11, .imm (.sl false kids.length (Tree.ivs kids))), (5, .imm (.lit (.int .i64 x.1.2))), (1, .imm (.lit (.int .i64 m)))], []⟩) (fun x => kids.length - x.1.1) ⟨(0, 1), Nat.zero_le _, hR, Int.le_refl _, by rw [List.drop_zero]; omega⟩ (cA (by repeat' first | exact trivial | refine ⟨rfl, ?_⟩) (by repeat' first | exact trivial | refine ⟨rfl, ?_⟩)) ?_
    clear hR
    rintro ⟨⟨j, s⟩, hj, hR, hs1, hs2⟩
    have hj : j ≤ kids.length := hj
    have hR : largePs (kids.drop j) s m = R := hR
    have hs1 : 1 ≤ s := hs1
    have hs2 : s + Tree.sizes (kids.drop j) ≤ 1000000 := hs2
    dsimp only
    by_cases hlt : j < kids.length
    · have hmm := List.getElem_mem hlt
      have hz := dE hmm
      have hwk := bS hw hmm
      rw [List.drop_eq_getElem_cons hlt] at hR hs2
      rw [largePs] at hR
      simp only [Tree.sizes] at hs2
      by_cases hgt : s > m
      · rw [if_pos hgt] at hR
        subst hR
        repeat' (first | refine aG ?_ | (refine aI ?_;  first | refine aD tabOk rfl rfl rfl (nb rfl) rfl ?_ | (refine aM rfl rfl rfl (nb rfl) rfl rfl rfl (fun hq => ?_) (fun hq => ?_) <;> (first | (simp only [sD, sE, sB, sC, sN, sM, sT, sF] at hq; try (exfalso; omega)) | skip)) | refine bG tabOk rfl rfl rfl (nb rfl) rfl rfl rfl rfl (by first | assumption | omega) ?_ | refine bC tabOk rfl rfl rfl (nb rfl) rfl rfl rfl (bX _ _ (by first | assumption | omega)) ?_) | (refine aN ?_;  first | refine aH ?_ | refine aQ ?_ | refine aY ?_ | refine aT ?_ | refine bW ?_ | refine aU ?_ | refine aA (b := true) rfl (fun _ => ?_) nTf) | (refine aK ?_;  first | refine aX ?_ | refine bM ?_) | (refine bA ?_;  first | refine bI ?_ | refine cK (by decide) ?_))
        all_goals first
          | (exfalso; omega)
          | (refine aV (by first | exact .inl rfl | exact .inr rfl) (aZ rfl (aC rfl)) rfl ?_; rfl)
      · rw [if_neg hgt] at hR
        have hc := ih _ hmm hwk (by omega) (m - s) (by omega) (by omega)
        have hsp := mJ _ hwk (m - s) (by omega)
        generalize largeP kids[j] (m - s) = L at *
        repeat' (first | refine aG ?_ | (refine aI ?_;  first | refine aD tabOk rfl rfl rfl (nb rfl) rfl ?_ | (refine aM rfl rfl rfl (nb rfl) rfl rfl rfl (fun hq => ?_) (fun hq => ?_) <;> (first | (simp only [sD, sE, sB, sC, sN, sM, sT, sF] at hq; try (exfalso; omega)) | skip)) | refine aE rfl rfl (nb rfl) rfl rfl rfl rfl (hc) ?_ | refine bV (z := m - s) rfl rfl rfl (nb rfl) rfl rfl rfl (by omega) (by omega) ?_ | refine bY (z := s + L) rfl rfl rfl (nb rfl) rfl rfl rfl (by omega) (by omega) ?_ | refine bP rfl rfl rfl (nb rfl) rfl rfl (by omega) ?_ | refine bG tabOk rfl rfl rfl (nb rfl) rfl rfl rfl rfl (by first | assumption | omega) ?_ | refine bC tabOk rfl rfl rfl (nb rfl) rfl rfl rfl (bX _ _ (by first | assumption | omega)) ?_) | (refine aN ?_;  first | refine aH ?_ | refine aQ ?_ | refine bH ?_ | refine aY ?_ | refine aU ?_ | refine aA (b := true) rfl (fun _ => ?_) nTf | refine aA (b := false) rfl nFt (fun _ => ?_)) | (refine aK ?_;  first | refine aX ?_) | (refine bA ?_;  first | refine bU ?_))
        all_goals first
          | (exfalso; omega)
          | exact ⟨⟨(j + 1, s + L), hlt, hR, by dsimp only; omega, by dsimp only; omega⟩, (by show kids.length - (j + 1) < kids.length - j; omega), (cA (by repeat' first | exact trivial | refine ⟨rfl, ?_⟩) (by repeat' first | exact trivial | refine ⟨rfl, ?_⟩))⟩
    · have ej : j = kids.length := by omega
      subst ej
      rw [List.drop_length, largePs] at hR
      subst hR
      repeat' (first | refine aG ?_ | (refine aI ?_;  first | refine aD tabOk rfl rfl rfl (nb rfl) rfl ?_ | (refine aM rfl rfl rfl (nb rfl) rfl rfl rfl (fun hq => ?_) (fun hq => ?_) <;> (first | (simp only [sD, sE, sB, sC, sN, sM, sT, sF] at hq; try (exfalso; omega)) | skip))) | (refine aN ?_;  first | refine aH ?_ | refine aQ ?_ | refine aT ?_ | refine bW ?_ | refine aA (b := false) rfl nFt (fun _ => ?_)) | (refine aK ?_;  first | refine aX ?_ | refine bM ?_) | (refine bA ?_;  first | refine bI ?_))
      all_goals first
        | (exfalso; omega)
        | (refine aV (by first | exact .inl rfl | exact .inr rfl) (aZ rfl (aC rfl)) rfl ?_; rfl)
end Go.Proofs.YtdajnmffoopcaaaGreatDoor.Ab
namespace Go.Proofs.YtdajnmffoopcaaaGreatDoor.Ab
set_option linter.unusedVariables false
set_option linter.unusedSimpArgs false
attribute [local irreducible] AWP AOps AExit AThen ABlock ANoGoto FeetOk
/-- What Subst makes of a variable; how much was put in, and the error so far. -/
def substV (i own : Int) (by_ : Tree) (n d : Int) (s : Int × Int) : Tree × (Int × Int) :=
  if s.2 ≠ 0 ∨ n < d ∨ n - d < i then (varT n, s)
  else if n - d > i then (varT (n - 1), s)
  else if s.1 + own > 65536 ∨ (shiftP by_ d 0).2 ≠ 0 then (varT n, (s.1 + own, 3))
  else ((shiftP by_ d 0).1, (s.1 + own, s.2))
set_option maxHeartbeats 16000000 in
set_option maxRecDepth 10000 in
theorem aAw (i own : Int) (by_ : Tree) (pb : List IV) (hpb : by_.iv = .ptr pb 0) (hbs : by_.size ≤ 1000000) (n d : Int) (sz e : Int) (hi : 0 ≤ i) (ho0 : 0 ≤ own) (ho : own ≤ 65536) (hs0 : 0 ≤ sz) (hs : sz ≤ 131072) (hn0 : 0 ≤ n) (hn : n ≤ 65536) (hd0 : 0 ≤ d) (hd : d ≤ 1000000) :
    ACalls Tryz.prog 76 [.imm (varT n).iv, .imm (.lit (.int .i64 d)), .obj 1000 0, .obj 1001 0, .obj 1002 0, .obj 1003 0, .obj 1004 0] [(1000, .cells [.imm (.lit (.int .i64 e))]), (1001, .cells [.imm (.lit (.int .i64 i))]), (1002, .cells [.imm (.lit (.int .i64 sz))]), (1003, .cells [.imm (.lit (.int .i64 own))]), (1004, .cells [.imm (.ptr pb 0)])]
      (.imm (substV i own by_ n d (sz, e)).1.iv) [(1000, .cells [.imm (.lit (.int .i64 (substV i own by_ n d (sz, e)).2.2))]), (1001, .cells [.imm (.lit (.int .i64 i))]), (1002, .cells [.imm (.lit (.int .i64 (substV i own by_ n d (sz, e)).2.1))]), (1003, .cells [.imm (.lit (.int .i64 own))]), (1004, .cells [.imm (.ptr pb 0)])] := by
  by_cases h1 : e ≠ 0 ∨ n < d ∨ n - d < i
  · have er : substV i own by_ n d (sz, e) = (varT n, (sz, e)) := if_pos h1
    rw [er]
    unfold varT
    refine cD [1000, 1001, 1002, 1003, 1004] Tryz.func76 rfl rfl (nb rfl) rfl rfl ?_
    repeat' (first | refine aG ?_ | (refine aI ?_;  first | refine aD tabOk rfl rfl rfl (nb rfl) rfl ?_ | refine bE rfl rfl (nb rfl) ?_ | (refine aM rfl rfl rfl (nb rfl) rfl rfl rfl (fun hq => ?_) (fun hq => ?_) <;> (first | (simp only [sD, sE, sB, sC, sN, sM, sT, sF] at hq; try (exfalso; omega)) | skip)) | refine bV rfl rfl rfl (nb rfl) rfl rfl rfl (by omega) (by omega) ?_ | refine bO tabOk rfl rfl rfl (nb rfl) rfl rfl rfl rfl ?_) | (refine aN ?_;  first | refine aH ?_ | refine aQ ?_ | refine aY ?_ | refine aT ?_ | refine aA (b := true) rfl (fun _ => ?_) nTf | refine aW mixed (by kernel_rfl) ?_) | (refine aK ?_;  first | refine aX ?_ | refine aR ?_) | (refine bA ?_;  first | refine bF ?_) | refine bQ (bL (by kernel_rfl)) ?_)
    all_goals first
      | exact absurd rfl (by assumption)
      | (exfalso; omega)
      | (refine cN (cE (by first | exact .inl rfl | exact .inr rfl) (aZ rfl (aC rfl)) rfl (by repeat' first | exact trivial | refine ⟨rfl, ?_⟩) rfl ?_); rfl)
  · have he : e = 0 := by omega
    subst he
    by_cases h2 : n - d > i
    · have er : substV i own by_ n d (sz, 0) = (varT (n - 1), (sz, 0)) := by unfold substV; rw [if_neg h1, if_pos h2]
      rw [er]
      have cm := xI 110 n emptyB emptyB [] (-1) (by omega) (by omega)
      rw [show n + -1 = n - 1 by omega] at cm
      generalize varT (n - 1) = Z at *
      unfold varT
      refine cD [1000, 1001, 1002, 1003, 1004] Tryz.func76 rfl rfl (nb rfl) rfl rfl ?_
      repeat' (first | refine aG ?_ | (refine aI ?_;  first | refine aD tabOk rfl rfl rfl (nb rfl) rfl ?_ | (refine aM rfl rfl rfl (nb rfl) rfl rfl rfl (fun hq => ?_) (fun hq => ?_) <;> (first | (simp only [sD, sE, sB, sC, sN, sM, sT, sF] at hq; try (exfalso; omega)) | skip)) | refine aE rfl rfl (nb rfl) rfl rfl rfl rfl (cm) ?_ | refine bV rfl rfl rfl (nb rfl) rfl rfl rfl (by omega) (by omega) ?_ | refine bO tabOk rfl rfl rfl (nb rfl) rfl rfl rfl rfl ?_) | (refine aN ?_;  first | refine aH ?_ | refine aQ ?_ | refine aY ?_ | refine aT ?_ | refine aA (b := true) rfl (fun _ => ?_) nTf | refine aA (b := false) rfl nFt (fun _ => ?_) | refine aW mixed (by kernel_rfl) ?_) | (refine aK ?_;  first | refine aX ?_ | refine aR ?_) | (refine bA ?_;  first | refine bF ?_) | refine bQ (bL (by kernel_rfl)) ?_)
      all_goals first
        | exact absurd rfl (by assumption)
        | (exfalso; omega)
        | (refine cN (cE (by first | exact .inl rfl | exact .inr rfl) (aZ rfl (aC rfl)) rfl (by repeat' first | exact trivial | refine ⟨rfl, ?_⟩) rfl ?_); rfl)
    · have cs := nG by_ d 0 hbs
      rw [hpb] at cs
      by_cases h3 : sz + own > 65536
      · have er : substV i own by_ n d (sz, 0) = (varT n, (sz + own, 3)) := by unfold substV; rw [if_neg h1, if_neg h2, if_pos (.inl h3)]
        rw [er]
        unfold varT
        refine cD [1000, 1001, 1002, 1003, 1004] Tryz.func76 rfl rfl (nb rfl) rfl rfl ?_
        repeat' (first | refine aG ?_ | (refine aI ?_;  first | refine aD tabOk rfl rfl rfl (nb rfl) rfl ?_ | (refine aM rfl rfl rfl (nb rfl) rfl rfl rfl (fun hq => ?_) (fun hq => ?_) <;> (first | (simp only [sD, sE, sB, sC, sN, sM, sT, sF] at hq; try (exfalso; omega)) | skip)) | refine bY (z := sz + own) rfl rfl rfl (nb rfl) rfl rfl rfl (by omega) (by omega) ?_ | refine bV rfl rfl rfl (nb rfl) rfl rfl rfl (by omega) (by omega) ?_ | refine bO tabOk rfl rfl rfl (nb rfl) rfl rfl rfl rfl ?_ | refine bJ tabOk rfl rfl rfl rfl rfl rfl rfl rfl rfl rfl rfl ?_) | (refine aN ?_;  first | refine aH ?_ | refine aQ ?_ | refine aY ?_ | refine aT ?_ | refine aU ?_ | refine aA (b := true) rfl (fun _ => ?_) nTf | refine aA (b := false) rfl nFt (fun _ => ?_) | refine aW mixed (by kernel_rfl) ?_) | (refine aK ?_;  first | refine aX ?_ | refine aR ?_) | (refine bA ?_;  first | refine bU ?_) | refine bQ (bL (by kernel_rfl)) ?_)
        all_goals first
          | exact absurd rfl (by assumption)
          | (exfalso; omega)
          | (refine cN (cE (by first | exact .inl rfl | exact .inr rfl) (aZ rfl (aC rfl)) rfl (by repeat' first | exact trivial | refine ⟨rfl, ?_⟩) rfl ?_); rfl)
      · by_cases h4 : (shiftP by_ d 0).2 = 0
        · have er : substV i own by_ n d (sz, 0) = ((shiftP by_ d 0).1, (sz + own, 0)) := by unfold substV; rw [if_neg h1, if_neg h2, if_neg (fun h => h.elim h3 (fun h => h h4))]
          rw [er]
          rw [h4] at cs
          clear er h4 hpb
          generalize (shiftP by_ d 0).1 = Z at *
          unfold varT
          refine cD [1000, 1001, 1002, 1003, 1004] Tryz.func76 rfl rfl (nb rfl) rfl rfl ?_
          repeat' (first | refine aG ?_ | (refine aI ?_;  first | refine aD tabOk rfl rfl rfl (nb rfl) rfl ?_ | (refine aM rfl rfl rfl (nb rfl) rfl rfl rfl (fun hq => ?_) (fun hq => ?_) <;> (first | (simp only [sD, sE, sB, sC, sN, sM, sT, sF] at hq; try (exfalso; omega)) | skip)) | refine aE rfl rfl (nb rfl) rfl rfl rfl rfl (cs) ?_ | refine bY (z := sz + own) rfl rfl rfl (nb rfl) rfl rfl rfl (by omega) (by omega) ?_ | refine bV rfl rfl rfl (nb rfl) rfl rfl rfl (by omega) (by omega) ?_ | refine bO tabOk rfl rfl rfl (nb rfl) rfl rfl rfl rfl ?_ | refine bJ tabOk rfl rfl rfl rfl rfl rfl rfl rfl rfl rfl rfl ?_) | (refine aN ?_;  first | refine aH ?_ | refine aQ ?_ | refine aY ?_ | refine aT ?_ | refine aU ?_ | refine aA (b := false) rfl nFt (fun _ => ?_) | refine aW mixed (by kernel_rfl) ?_) | (refine aK ?_;  first | refine aX ?_) | (refine bA ?_;  first | refine bU ?_) | refine bQ (bL (by kernel_rfl)) ?_)
          all_goals first
            | exact absurd rfl (by assumption)
            | (exfalso; omega)
            | (refine cN (cE (by first | exact .inl rfl | exact .inr rfl) (aZ rfl (aC rfl)) rfl (by repeat' first | exact trivial | refine ⟨rfl, ?_⟩) rfl ?_); rfl)
        · have er : substV i own by_ n d (sz, 0) = (varT n, (sz + own, 3)) := by unfold substV; rw [if_neg h1, if_neg h2, if_pos (.inr h4)]
          rw [er]
          clear er hpb
          generalize (shiftP by_ d 0).1 = Z at *
          generalize (shiftP by_ d 0).2 = Z2 at *
          unfold varT
          refine cD [1000, 1001, 1002, 1003, 1004] Tryz.func76 rfl rfl (nb rfl) rfl rfl ?_
          repeat' (first | refine aG ?_ | (refine aI ?_;  first | refine aD tabOk rfl rfl rfl (nb rfl) rfl ?_ | (refine aM rfl rfl rfl (nb rfl) rfl rfl rfl (fun hq => ?_) (fun hq => ?_) <;> (first | (simp only [sD, sE, sB, sC, sN, sM, sT, sF] at hq; try (exfalso; omega)) | skip)) | refine aE rfl rfl (nb rfl) rfl rfl rfl rfl (cs) ?_ | refine bY (z := sz + own) rfl rfl rfl (nb rfl) rfl rfl rfl (by omega) (by omega) ?_ | refine bV rfl rfl rfl (nb rfl) rfl rfl rfl (by omega) (by omega) ?_ | refine bO tabOk rfl rfl rfl (nb rfl) rfl rfl rfl rfl ?_ | refine bJ tabOk rfl rfl rfl rfl rfl rfl rfl rfl rfl rfl rfl ?_) | (refine aN ?_;  first | refine aH ?_ | refine aQ ?_ | refine aY ?_ | refine aT ?_ | refine aU ?_ | refine aA (b := true) rfl (fun _ => ?_) nTf | refine aA (b := false) rfl nFt (fun _ => ?_) | refine aW mixed (by kernel_rfl) ?_) | (refine aK ?_;  first | refine aX ?_ | refine aR ?_) | (refine bA ?_;  first | refine bU ?_) | refine bQ (bL (by kernel_rfl)) ?_)
          all_goals first
            | exact absurd (by assumption) h4
            | exact absurd rfl (by assumption)
            | (exfalso; omega)
            | (refine cN (cE (by first | exact .inl rfl | exact .inr rfl) (aZ rfl (aC rfl)) rfl (by repeat' first | exact trivial | refine ⟨rfl, ?_⟩) rfl ?_); rfl)
def substJ (s : Int × Int) : Prop := 0 ≤ s.1 ∧ s.1 ≤ 131072 ∧ (s.2 = 0 → s.1 ≤ 65536) ∧ (s.2 = 0 ∨ s.2 = 3)
theorem mK (i : Int) (by_ : Tree) (hb : by_.size ≤ 65536) (n d : Int) (s : Int × Int) (hJ : substJ s) :
    (substV i by_.size by_ n d s).1.whole = true ∧ substJ (substV i by_.size by_ n d s).2 ∧ (substV i by_.size by_ n d s).1.size + s.1.toNat ≤ 1 + (substV i by_.size by_ n d s).2.1.toNat := by
  obtain ⟨sz, e⟩ := s
  obtain ⟨j1, j2, j3, j4⟩ := hJ
  dsimp only at j1 j2 j3 j4
  unfold substV
  dsimp only
  split
  · exact ⟨rfl, ⟨j1, j2, j3, j4⟩, by rw [gW]; dsimp only; omega⟩
  · rename_i h1
    have he : e = 0 := by omega
    subst he
    have j5 := j3 rfl
    split
    · exact ⟨rfl, ⟨j1, j2, j3, j4⟩, by rw [gW]; dsimp only; omega⟩
    · split
      · refine ⟨rfl, ⟨?_, ?_, ?_, .inr rfl⟩, ?_⟩
        · show 0 ≤ sz + by_.size; omega
        · show sz + by_.size ≤ 131072; omega
        · intro h; cases h
        · rw [gW]; dsimp only; omega
      · rename_i h3
        have h4 : (shiftP by_ d 0).2 = 0 := by omega
        have h5 := fF by_ d 0 h4
        refine ⟨h5.1, ⟨?_, ?_, ?_, .inl rfl⟩, ?_⟩
        · show 0 ≤ sz + by_.size; omega
        · show sz + by_.size ≤ 131072; omega
        · intro _; show sz + by_.size ≤ 65536; omega
        · have := h5.2.1; dsimp only; omega
/-- What Subst tells. -/
def substP (t : Tree) (i : Int) (by_ : Tree) : Tree × Int :=
  if checkP isConP t ≠ 0 then (.nil, checkP isConP t)
  else if checkP isConP by_ ≠ 0 then (.nil, checkP isConP by_)
  else if i < 0 then (.nil, 2)
  else if (walkS (substV i by_.size by_) t 0 (0, 0)).2.2 ≠ 0 ∨ (walkS (substV i by_.size by_) t 0 (0, 0)).1.size > 65536 then (.nil, 3)
  else ((walkS (substV i by_.size by_) t 0 (0, 0)).1, 0)
theorem substW (t : Tree) (i : Int) (by_ : Tree) (hc : checkP isConP t = 0) (hb : checkP isConP by_ = 0) :
    (walkS (substV i by_.size by_) t 0 (0, 0)).1.whole = true ∧ substJ (walkS (substV i by_.size by_) t 0 (0, 0)).2 ∧ (walkS (substV i by_.size by_) t 0 (0, 0)).1.size ≤ 200000 := by
  obtain ⟨hw, hz, hf⟩ := bK hc
  obtain ⟨bw, bz, bf⟩ := bK hb
  have := kM (substV i by_.size by_) substJ (fun s => s.1.toNat) (fun n d s hJ _ _ _ _ => mK i by_ bz n d s hJ) t 0 (0, 0) (cY t hf) hw (Int.le_refl _) (by omega) ⟨by decide, by decide, by decide, .inl rfl⟩
  refine ⟨this.1, this.2.1, ?_⟩
  have h1 := this.2.2
  have h2 := this.2.1.2.1
  dsimp only at h1
  omega
theorem iZ (t : Tree) (i : Int) (by_ : Tree) (h : (substP t i by_).2 = 0) : (substP t i by_).1.whole = true ∧ (substP t i by_).1.size ≤ 65536 ∧ checkP isConP t = 0 ∧ checkP isConP by_ = 0 := by
  unfold substP at h ⊢
  by_cases hc : checkP isConP t = 0
  · rw [if_neg (by simpa using hc)] at h ⊢
    by_cases hb : checkP isConP by_ = 0
    · rw [if_neg (by simpa using hb)] at h ⊢
      split at h
      · cases h
      · rename_i hi
        rw [if_neg hi]
        split at h
        · cases h
        · rename_i h3
          rw [if_neg h3]
          have := substW t i by_ hc hb
          exact ⟨this.1, by dsimp only; omega, hc, hb⟩
    · rw [if_pos (by simpa using hb)] at h
      exact absurd h hb
  · rw [if_pos (by simpa using hc)] at h
    exact absurd h hc
end Go.Proofs.YtdajnmffoopcaaaGreatDoor.Ab
namespace Go.Proofs.YtdajnmffoopcaaaGreatDoor.Ab
set_option linter.unusedVariables false
set_option linter.unusedSimpArgs false
attribute [local irreducible] AWP AOps AExit AThen ABlock ANoGoto FeetOk
set_option maxHeartbeats 16000000 in
set_option maxRecDepth 10000 in
theorem aBM (t : Tree) (i : Int) (by_ : Tree) (hs : t.size ≤ 1000000) (hbs : by_.size ≤ 1000000) : ACalls Tryz.prog 50 [.imm t.iv, .imm (.lit (.int .i64 i)), .imm by_.iv] [] (.imm (.tup [(substP t i by_).1.iv, .lit (.int .i64 (substP t i by_).2)])) [] := by
  have c1 := eM t hs
  have c2 := eM by_ hbs
  obtain ⟨Q, hQ⟩ : ∃ Q, substP t i by_ = Q := ⟨_, rfl⟩
  rw [hQ]
  unfold substP at hQ
  by_cases hc : checkP isConP t = 0
  · rw [if_neg (by simpa using hc)] at hQ
    rw [hc] at c1
    by_cases hb : checkP isConP by_ = 0
    · rw [if_neg (by simpa using hb)] at hQ
      rw [hb] at c2
      obtain ⟨bw, bz, _⟩ := bK hb
      obtain ⟨pb, hpb⟩ := dT (dG bw)
      by_cases hi : i < 0
      · rw [if_pos hi] at hQ
        subst hQ
        rw [hpb] at c2 ⊢
        refine aJ Tryz.func50 rfl rfl (nb rfl) rfl ?_
        repeat' (first | refine aG ?_ | (refine aI ?_;  first | refine aD tabOk rfl rfl rfl (nb rfl) rfl ?_ | (refine aM rfl rfl rfl (nb rfl) rfl rfl rfl (fun hq => ?_) (fun hq => ?_) <;> (first | (simp only [sD, sE, sB, sC, sN, sM, sT, sF] at hq; try (exfalso; omega)) | skip)) | refine aE rfl rfl (nb rfl) rfl rfl rfl rfl (c1) ?_ | refine aE rfl rfl (nb rfl) rfl rfl rfl rfl (c2) ?_ | refine cQ 1001 (d := 4) rfl rfl rfl (nb rfl) rfl rfl rfl rfl rfl rfl rfl ?_ | refine cQ 1004 (d := 5) rfl rfl rfl (nb rfl) rfl rfl rfl rfl rfl rfl rfl ?_ | refine bO tabOk rfl rfl rfl (nb rfl) rfl rfl rfl rfl ?_) | (refine aN ?_;  first | refine aH ?_ | refine aQ ?_ | refine aT ?_ | refine aU ?_ | refine aA (b := true) rfl (fun _ => ?_) nTf | refine aA (b := false) rfl nFt (fun _ => ?_)) | (refine aK ?_;  first | refine aX ?_ | refine aR ?_))
        all_goals first
          | exact absurd rfl (by assumption)
          | (exfalso; omega)
          | (refine aV (by first | exact .inl rfl | exact .inr rfl) (bD rfl (aC rfl) (aC rfl)) rfl ?_; rfl)
      · rw [if_neg hi] at hQ
        obtain ⟨hw, hz, hf⟩ := bK hc
        have hv := cY t hf
        have h3 := substW t i by_ hc hb
        have c3 := aAv by_ hbs (.inr bw)
        obtain ⟨cw, _, hne⟩ := (aBK (σ := Int × Int) (substV i by_.size by_) 76 (fun s => .lit (.int .i64 s.2)) (fun _ => .lit (.int .i64 i)) (fun s => .lit (.int .i64 s.1)) (fun _ => .lit (.int .i64 by_.size)) (fun _ => .ptr pb 0) substJ
          (fun n d s hJ h1 h2 h3 h4 => by
            have hf := mK i by_ bz n d s hJ
            obtain ⟨sz, e⟩ := s
            exact ⟨aAw i by_.size by_ pb hpb hbs n d sz e (by omega) (by omega) (by omega) hJ.1 hJ.2.1 h1 h2 h3 h4, hf.2.1, dG hf.1⟩) t 0 (0, 0) hv hw (Int.le_refl _) (by omega) ⟨by decide, by decide, by decide, .inl rfl⟩)
        obtain ⟨pc, hpc⟩ := dT hne
        have c4 := aBL _ h3.1 (by omega) 65536 (by omega) (by omega)
        have hlg := mJ _ h3.1 65536 (by omega)
        rw [hpc] at cw c4
        rw [hpb] at c2 c3 ⊢
        have hJ4 := h3.2.1.2.2.2
        have hout : ∀ x y, Q = (x, y) → True := fun _ _ _ => trivial
        clear hc hb hw hf hv hne h3 hout bw
        generalize walkS (substV i by_.size by_) t 0 (0, 0) = W at *
        obtain ⟨W1, W2, W3⟩ := W
        dsimp only at *
        generalize largeP W1 65536 = LP at *
        by_cases h4 : W3 ≠ 0
        · rw [if_pos (.inl h4)] at hQ
          subst hQ
          have h5 : W3 = 3 := by omega
          subst h5
          refine aJ Tryz.func50 rfl rfl (nb rfl) rfl ?_
          repeat' (first | refine aG ?_ | (refine aI ?_;  first | refine aD tabOk rfl rfl rfl (nb rfl) rfl ?_ | refine bE rfl rfl (nb rfl) ?_ | (refine aM rfl rfl rfl (nb rfl) rfl rfl rfl (fun hq => ?_) (fun hq => ?_) <;> (first | (simp only [sD, sE, sB, sC, sN, sM, sT, sF] at hq; try (exfalso; omega)) | skip)) | refine aE rfl rfl (nb rfl) rfl rfl rfl rfl (c1) ?_ | refine aE rfl rfl (nb rfl) rfl rfl rfl rfl (c2) ?_ | refine aE rfl rfl (nb rfl) rfl rfl rfl rfl (c3) ?_ | refine cQ 1001 (d := 4) rfl rfl rfl (nb rfl) rfl rfl rfl rfl rfl rfl rfl ?_ | refine cQ 1004 (d := 5) rfl rfl rfl (nb rfl) rfl rfl rfl rfl rfl rfl rfl ?_ | refine cP 1002 (d := 10) tabOk rfl rfl rfl (nb rfl) rfl rfl rfl rfl rfl rfl ?_ | refine cP 1000 (d := 11) tabOk rfl rfl rfl (nb rfl) rfl rfl rfl rfl rfl rfl ?_ | refine cP 1003 (d := 12) tabOk rfl rfl rfl (nb rfl) rfl rfl rfl rfl rfl rfl ?_ | refine cG rfl rfl (nb rfl) rfl rfl rfl rfl cw (by repeat' first | exact trivial | refine ⟨rfl, ?_⟩) rfl (by show ([1000, 1001, 1002, 1003, 1004] : List Nat).Nodup; decide) ?_ | refine bO tabOk rfl rfl rfl (nb rfl) rfl rfl rfl rfl ?_ | refine bJ tabOk rfl rfl rfl rfl rfl rfl rfl rfl rfl rfl rfl ?_) | (refine aN ?_;  first | refine aH ?_ | refine aQ ?_ | refine aT ?_ | refine aU ?_ | refine aA (b := true) rfl (fun _ => ?_) nTf | refine aA (b := false) rfl nFt (fun _ => ?_) | refine aW mixed (by kernel_rfl) ?_) | (refine aK ?_;  first | refine aX ?_ | refine aR ?_) | refine bQ (bL (by kernel_rfl)) ?_)
          all_goals first
            | exact absurd rfl (by assumption)
            | (exfalso; omega)
            | (refine aV (by first | exact .inl rfl | exact .inr rfl) (bD rfl (aC rfl) (aC rfl)) rfl ?_; rfl)
        · have h5 : W3 = 0 := by omega
          subst h5
          by_cases h6 : W1.size > 65536
          · rw [if_pos (.inr h6)] at hQ
            subst hQ
            have h7 : LP > 65536 := hlg.2.2.2 (by omega)
            refine aJ Tryz.func50 rfl rfl (nb rfl) rfl ?_
            repeat' (first | refine aG ?_ | (refine aI ?_;  first | refine aD tabOk rfl rfl rfl (nb rfl) rfl ?_ | (refine aM rfl rfl rfl (nb rfl) rfl rfl rfl (fun hq => ?_) (fun hq => ?_) <;> (first | (simp only [sD, sE, sB, sC, sN, sM, sT, sF] at hq; try (exfalso; omega)) | skip)) | refine aE rfl rfl (nb rfl) rfl rfl rfl rfl (c1) ?_ | refine aE rfl rfl (nb rfl) rfl rfl rfl rfl (c2) ?_ | refine aE rfl rfl (nb rfl) rfl rfl rfl rfl (c3) ?_ | refine aE rfl rfl (nb rfl) rfl rfl rfl rfl (c4) ?_ | refine cQ 1001 (d := 4) rfl rfl rfl (nb rfl) rfl rfl rfl rfl rfl rfl rfl ?_ | refine cQ 1004 (d := 5) rfl rfl rfl (nb rfl) rfl rfl rfl rfl rfl rfl rfl ?_ | refine cP 1002 (d := 10) tabOk rfl rfl rfl (nb rfl) rfl rfl rfl rfl rfl rfl ?_ | refine cP 1000 (d := 11) tabOk rfl rfl rfl (nb rfl) rfl rfl rfl rfl rfl rfl ?_ | refine cP 1003 (d := 12) tabOk rfl rfl rfl (nb rfl) rfl rfl rfl rfl rfl rfl ?_ | refine cG rfl rfl (nb rfl) rfl rfl rfl rfl cw (by repeat' first | exact trivial | refine ⟨rfl, ?_⟩) rfl (by show ([1000, 1001, 1002, 1003, 1004] : List Nat).Nodup; decide) ?_ | refine bO tabOk rfl rfl rfl (nb rfl) rfl rfl rfl rfl ?_ | refine bJ tabOk rfl rfl rfl rfl rfl rfl rfl rfl rfl rfl rfl ?_) | (refine aN ?_;  first | refine aH ?_ | refine aQ ?_ | refine bH ?_ | refine aT ?_ | refine aU ?_ | refine aA (b := true) rfl (fun _ => ?_) nTf | refine aA (b := false) rfl nFt (fun _ => ?_) | refine aW mixed (by kernel_rfl) ?_) | (refine aK ?_;  first | refine aX ?_ | refine aR ?_) | refine bQ (bL (by kernel_rfl)) ?_)
            all_goals first
              | exact absurd rfl (by assumption)
              | (exfalso; omega)
              | (refine aV (by first | exact .inl rfl | exact .inr rfl) (bD rfl (aC rfl) (aC rfl)) rfl ?_; rfl)
          · rw [if_neg (fun h => h.elim (fun h => h rfl) h6)] at hQ
            subst hQ
            have h7 : LP = W1.size := hlg.2.2.1 (by omega)
            dsimp only
            rw [hpc]
            refine aJ Tryz.func50 rfl rfl (nb rfl) rfl ?_
            repeat' (first | refine aG ?_ | (refine aI ?_;  first | refine aD tabOk rfl rfl rfl (nb rfl) rfl ?_ | (refine aM rfl rfl rfl (nb rfl) rfl rfl rfl (fun hq => ?_) (fun hq => ?_) <;> (first | (simp only [sD, sE, sB, sC, sN, sM, sT, sF] at hq; try (exfalso; omega)) | skip)) | refine aE rfl rfl (nb rfl) rfl rfl rfl rfl (c1) ?_ | refine aE rfl rfl (nb rfl) rfl rfl rfl rfl (c2) ?_ | refine aE rfl rfl (nb rfl) rfl rfl rfl rfl (c3) ?_ | refine aE rfl rfl (nb rfl) rfl rfl rfl rfl (c4) ?_ | refine cQ 1001 (d := 4) rfl rfl rfl (nb rfl) rfl rfl rfl rfl rfl rfl rfl ?_ | refine cQ 1004 (d := 5) rfl rfl rfl (nb rfl) rfl rfl rfl rfl rfl rfl rfl ?_ | refine cP 1002 (d := 10) tabOk rfl rfl rfl (nb rfl) rfl rfl rfl rfl rfl rfl ?_ | refine cP 1000 (d := 11) tabOk rfl rfl rfl (nb rfl) rfl rfl rfl rfl rfl rfl ?_ | refine cP 1003 (d := 12) tabOk rfl rfl rfl (nb rfl) rfl rfl rfl rfl rfl rfl ?_ | refine cG rfl rfl (nb rfl) rfl rfl rfl rfl cw (by repeat' first | exact trivial | refine ⟨rfl, ?_⟩) rfl (by show ([1000, 1001, 1002, 1003, 1004] : List Nat).Nodup; decide) ?_ | refine bO tabOk rfl rfl rfl (nb rfl) rfl rfl rfl rfl ?_ | refine bJ tabOk rfl rfl rfl rfl rfl rfl rfl rfl rfl rfl rfl ?_) | (refine aN ?_;  first | refine aH ?_ | refine aQ ?_ | refine aT ?_ | refine aU ?_ | refine aA (b := false) rfl nFt (fun _ => ?_)) | (refine aK ?_;  first | refine aX ?_))
            all_goals first
              | exact absurd rfl (by assumption)
              | (exfalso; omega)
              | (refine aV (by first | exact .inl rfl | exact .inr rfl) (bD rfl (aC rfl) (aC rfl)) rfl ?_; rfl)
    · rw [if_pos hb] at hQ
      subst hQ
      generalize checkP isConP by_ = C at *
      obtain ⟨y, hy, hy1⟩ : ∃ y, by_.iv = y ∧ (y = .lit (.pointer none) ∨ ∃ p, y = .ptr p 0) := by
        cases by_ with
        | nil => exact ⟨_, rfl, .inl rfl⟩
        | node k n a b ks => exact ⟨_, rfl, .inr ⟨_, by rw [Tree.iv]⟩⟩
      rw [hy] at c2 ⊢
      rcases hy1 with rfl | ⟨p, rfl⟩ <;>
      (refine aJ Tryz.func50 rfl rfl (nb rfl) rfl ?_
       repeat' (first | refine aG ?_ | (refine aI ?_;  first | refine aD tabOk rfl rfl rfl (nb rfl) rfl ?_ | (refine aM rfl rfl rfl (nb rfl) rfl rfl rfl (fun hq => ?_) (fun hq => ?_) <;> (first | (simp only [sD, sE, sB, sC, sN, sM, sT, sF] at hq; try (exfalso; omega)) | skip)) | refine aE rfl rfl (nb rfl) rfl rfl rfl rfl (c1) ?_ | refine aE rfl rfl (nb rfl) rfl rfl rfl rfl (c2) ?_ | refine cQ 1001 (d := 4) rfl rfl rfl (nb rfl) rfl rfl rfl rfl rfl rfl rfl ?_ | refine cQ 1004 (d := 5) rfl rfl rfl (nb rfl) rfl rfl rfl rfl rfl rfl rfl ?_ | refine bO tabOk rfl rfl rfl (nb rfl) rfl rfl rfl rfl ?_) | (refine aN ?_;  first | refine aH ?_ | refine aQ ?_ | refine aT ?_ | refine aU ?_ | refine aA (b := true) rfl (fun _ => ?_) nTf | refine aA (b := false) rfl nFt (fun _ => ?_)) | (refine aK ?_;  first | refine aX ?_ | refine aR ?_))
       all_goals first
         | exact absurd rfl (by assumption)
         | exact absurd (by assumption) hb
         | (exfalso; omega)
         | (refine aV (by first | exact .inl rfl | exact .inr rfl) (bD rfl (aC rfl) (aC rfl)) rfl ?_; rfl))
  · rw [if_pos hc] at hQ
    subst hQ
    generalize checkP isConP t = C at *
    obtain ⟨y, hy, hy1⟩ : ∃ y, by_.iv = y ∧ (y = .lit (.pointer none) ∨ ∃ p, y = .ptr p 0) := by
      cases by_ with
      | nil => exact ⟨_, rfl, .inl rfl⟩
      | node k n a b ks => exact ⟨_, rfl, .inr ⟨_, by rw [Tree.iv]⟩⟩
    rw [hy]
    rcases hy1 with rfl | ⟨p, rfl⟩ <;>
    (refine aJ Tryz.func50 rfl rfl (nb rfl) rfl ?_
     repeat' (first | refine aG ?_ | (refine aI ?_;  first | refine aD tabOk rfl rfl rfl (nb rfl) rfl ?_ | (refine aM rfl rfl rfl (nb rfl) rfl rfl rfl (fun hq => ?_) (fun hq => ?_) <;> (first | (simp only [sD, sE, sB, sC, sN, sM, sT, sF] at hq; try (exfalso; omega)) | skip)) | refine aE rfl rfl (nb rfl) rfl rfl rfl rfl (c1) ?_ | refine cQ 1001 (d := 4) rfl rfl rfl (nb rfl) rfl rfl rfl rfl rfl rfl rfl ?_ | refine cQ 1004 (d := 5) rfl rfl rfl (nb rfl) rfl rfl rfl rfl rfl rfl rfl ?_) | (refine aN ?_;  first | refine aH ?_ | refine aQ ?_ | refine aT ?_ | refine aA (b := true) rfl (fun _ => ?_) nTf) | (refine aK ?_;  first | refine aR ?_))
     all_goals first
       | exact absurd rfl (by assumption)
       | exact absurd (by assumption) hc
       | (exfalso; omega)
       | (refine aV (by first | exact .inl rfl | exact .inr rfl) (bD rfl (aC rfl) (aC rfl)) rfl ?_; rfl))
end Go.Proofs.YtdajnmffoopcaaaGreatDoor.Ab
namespace Go.Proofs.YtdajnmffoopcaaaGreatDoor.Ab
set_option linter.unusedVariables false
set_option linter.unusedSimpArgs false
attribute [local irreducible] AWP AOps AExit AThen ABlock ANoGoto FeetOk
def Tree.kind : Tree → Int
  | .nil => 0
  | .node k _ _ _ _ => k
end Go.Proofs.YtdajnmffoopcaaaGreatDoor.Ab
namespace Go.Proofs.YtdajnmffoopcaaaGreatDoor.Ab
set_option linter.unusedVariables false
set_option linter.unusedSimpArgs false
attribute [local irreducible] AWP AOps AExit AThen ABlock ANoGoto FeetOk
def sbareP (n : Int) (a b : ByteArray) (nm nu : Bool) : Bool := (eqB b emptyB && (nm || eqB a emptyB)) && ((nu && decide (n ≥ 0) && decide (n ≤ 8192)) || (n == 0))
set_option maxHeartbeats 4000000 in
set_option maxRecDepth 10000 in
theorem gX (k n : Int) (a b : ByteArray) (kids : List Tree) (nm nu : Bool) : ACalls Tryz.prog 66 [.imm (Tree.iv (.node k n a b kids)), .imm (.lit (.bool nm)), .imm (.lit (.bool nu))] [] (.imm (.lit (.bool (sbareP n a b nm nu)))) [] := by
  refine aJ Tryz.func66 rfl rfl (nb rfl) rfl ?_
  repeat' (first | refine aG ?_ | (refine aI ?_;  first | refine aD tabOk rfl rfl rfl (nb rfl) rfl ?_ | refine bE rfl rfl (nb rfl) ?_ | (refine aM rfl rfl rfl (nb rfl) rfl rfl rfl (fun hq => ?_) (fun hq => ?_) <;> (first | (simp only [sD, sE, sB, sC, sN, sM, sT, sF] at hq; try (exfalso; omega)) | skip)) | ((fail_if_success (refine cB (b := true) rfl rfl rfl ?_)); (fail_if_success (refine cB (b := false) rfl rfl rfl ?_)); refine cR rfl rfl rfl (fun hq => ?_) (fun hq => ?_) <;> first | subst hq | (first | (simp only [sD, sE, sB, sC, sN, sM, sT, sF] at hq; try (exfalso; omega)) | skip))) | (refine aN ?_;  first | refine aH ?_ | refine aT ?_))
  all_goals (refine aV (by first | exact .inl rfl | exact .inr rfl) (aZ rfl (aC rfl)) rfl ?_; refine cO ?_; first | (simp_all [sbareP, eqB, emptyB]; done) | (simp_all [sbareP, eqB, emptyB]; omega))
def sig1 : List Tree → Bool
  | [c] => checkP isConP c == 0
  | _ => false
mutual
def isSigP : Tree → Bool
  | .nil => false
  | .node k n a b kids => sbareP n a b false false && (if k = 160 ∨ k = 161 then sig1 kids else if k = 162 then sfieldPs kids && risingP kids else false)
def sfieldPs : List Tree → Bool
  | [] => true
  | .nil :: _ => false
  | .node k n a b ks :: ts => (k == 163 && sbareP n a b true false && labelP a && sigOne ks) && sfieldPs ts
def sigOne : List Tree → Bool
  | [c] => isSigP c
  | _ => false
end
def okSField : Tree → Bool
  | .nil => false
  | .node k n a b ks => k == 163 && sbareP n a b true false && labelP a && sigOne ks
theorem eU (l : List Tree) : sfieldPs l = l.all okSField := by
  induction l with
  | nil => simp [sfieldPs]
  | cons t ts ih => cases t <;> simp [sfieldPs, okSField, ih]
theorem gY {l : List Tree} (h : l.length ≠ 1) : sigOne l = false := by
  match l, h with
  | [], _ => simp [sigOne]
  | [x], h => simp at h
  | x :: y :: r, _ => simp [sigOne]
theorem nH {l : List Tree} (h : l.length ≠ 1) : sig1 l = false := by
  match l, h with
  | [], _ => simp [sig1]
  | [x], h => simp at h
  | x :: y :: r, _ => simp [sig1]
set_option maxHeartbeats 8000000 in
set_option maxRecDepth 10000 in
theorem tL (k n : Int) (a b : ByteArray) (kids : List Tree) (h : Tree.wholes kids = true) (hl : kids.length < 1000000000)
    (hc : ∀ t', t'.size < (Tree.node k n a b kids).size → t'.whole = true → ACalls Tryz.prog 38 [.imm t'.iv] [] (.imm (.lit (.bool (isSigP t')))) []) :
    ACalls Tryz.prog 67 [.imm (Tree.iv (.node k n a b kids))] [] (.imm (.lit (.bool (sfieldPs kids && risingP kids)))) [] := by
  refine aJ Tryz.func67 rfl rfl (nb rfl) rfl ?_
  repeat' (first | refine aG ?_ | (refine aI ?_;  first | refine aD tabOk rfl rfl rfl (nb rfl) rfl ?_ | refine bB tabOk rfl rfl (nb rfl) rfl ?_) | (refine aN ?_;  first | refine aH ?_ | refine aQ ?_ | refine aY ?_))
  refine cI (ι := {j : Nat // j ≤ kids.length ∧ (∀ i (hi : i < kids.length), i < j → okSField kids[i] = true) ∧ ∀ i (hi : i + 1 < kids.length), i + 1 < j → ltB (kids[i]'(by omega)).name kids[i + 1].name = true}) (fun j => S.f ⟨[(10, .imm (.lit (.int .i64 (j.1 : Int)))), (9, .imm (.lit (.int .i64 (kids.length : Int)))), (8, .imm (.sl false kids.length (Tree.ivs kids))), (0, .imm (Tree.iv (.node k n a b kids)))], []⟩) (fun j => kids.length - j.1) ⟨0, Nat.zero_le _, fun i _ hi => absurd hi (Nat.not_lt_zero _), fun i _ hi => absurd hi (Nat.not_lt_zero _)⟩ (cA (by repeat' first | exact trivial | refine ⟨rfl, ?_⟩) (by repeat' first | exact trivial | refine ⟨rfl, ?_⟩)) ?_
  rintro ⟨j, hj, hok, hri⟩
  dsimp only
  by_cases hlt : j < kids.length
  · obtain ⟨k1, n1, a1, b1, ks1, e1, hget, hw1⟩ := gM h hlt
    have hsz : ∀ i (hi : i < ks1.length), ks1[i].size < (Tree.node k n a b kids).size := fun i hi => by
      have h1 := cM (k := k1) (n := n1) (a := a1) (b := b1) (List.getElem_mem hi)
      have h2 := cM (k := k) (n := n) (a := a) (b := b) (List.getElem_mem hlt)
      rw [e1] at h2
      omega
    have hbad : okSField (Tree.node k1 n1 a1 b1 ks1) = false → (sfieldPs kids && risingP kids) = false := fun hb => by
      rw [eU, iW hlt (by rw [e1]; exact hb)]; rfl
    have hgood : okSField (Tree.node k1 n1 a1 b1 ks1) = true → ∀ i (hi : i < kids.length), i < j + 1 → okSField kids[i] = true := fun hb i hi hij => by
      by_cases e : i = j
      · subst e; rw [e1]; exact hb
      · exact hok i hi (by omega)
    by_cases hj0 : j = 0
    · have hrn : ∀ i (hi : i + 1 < kids.length), i + 1 < j + 1 → ltB (kids[i]'(by omega)).name kids[i + 1].name = true := fun i hi hij => by omega
      repeat' (first | refine aG ?_ | (refine aI ?_;  first | refine aD tabOk rfl rfl rfl (nb rfl) rfl ?_ | refine bE rfl rfl (nb rfl) ?_ | (refine aM rfl rfl rfl (nb rfl) rfl rfl rfl (fun hq => ?_) (fun hq => ?_) <;> (first | (simp only [sD, sE, sB, sC, sN, sM, sT, sF] at hq; try (exfalso; omega)) | skip)) | (refine bT rfl rfl rfl (nb rfl) rfl rfl rfl (gX _ _ _ _ _ _ _) (fun hq => ?_) (fun hq => ?_)) | (refine bT rfl rfl rfl (nb rfl) rfl rfl rfl (hc _ (hsz _ _) (bS hw1 (List.getElem_mem _))) (fun hq => ?_) (fun hq => ?_)) | refine bP rfl rfl rfl (nb rfl) rfl rfl (by omega) ?_ | refine bB tabOk rfl rfl (nb rfl) rfl ?_ | refine bG tabOk rfl rfl rfl (nb rfl) rfl rfl rfl rfl (by first | assumption | omega) ?_ | refine bN tabOk rfl rfl rfl (nb rfl) rfl rfl rfl rfl (by first | rfl | omega) (by first | omega | simp) ?_ | refine bC tabOk rfl rfl rfl (nb rfl) rfl rfl rfl (by assumption) ?_ | refine bC tabOk rfl rfl rfl (nb rfl) rfl rfl rfl (bX _ _ (by first | assumption | omega)) ?_) | (refine aN ?_;  first | refine aH ?_ | refine aQ ?_ | refine bH ?_ | refine aY ?_ | refine aT ?_ | refine aU ?_ | refine aA (b := true) rfl (fun _ => ?_) nTf | refine aA (b := false) rfl nFt (fun _ => ?_) | refine aW mixed (by kernel_rfl) ?_) | (refine aK ?_;  first | refine aX ?_ | refine aR ?_) | (refine bA ?_;  first | refine bU ?_ | refine bF ?_) | refine bQ (bL (by kernel_rfl)) ?_)
      all_goals first
        | (refine aV (by first | exact .inl rfl | exact .inr rfl) (aZ rfl (aC rfl)) rfl ?_; refine cO (hbad ?_).symm; by_cases h1 : ks1.length = 1 <;> first | (obtain ⟨c, rfl⟩ := one_of h1; simp_all [okSField, sigOne, labelP]; done) | (obtain ⟨c, rfl⟩ := one_of h1; simp_all [okSField, sigOne, labelP]; omega) | (exfalso; omega) | (simp_all [okSField, gY]; done))
        | (exfalso; omega)
        | exact ⟨⟨j + 1, hlt, hgood (by obtain ⟨c, rfl⟩ := one_of (l := ks1) (by omega); first | (simp_all [okSField, sigOne, labelP]; done) | (simp_all [okSField, sigOne, labelP]; omega)), hrn⟩, (by show kids.length - (j + 1) < kids.length - j; omega), (cA (by repeat' first | exact trivial | refine ⟨rfl, ?_⟩) (by repeat' first | exact trivial | refine ⟨rfl, ?_⟩))⟩
    · obtain ⟨k0, n0, a0, b0, ks0, e0, hget0, hw0⟩ := gM h (j := ((j : Int) - 1).toNat) (by omega)
      have e2 : ∀ i, i + 1 = j → ∀ (hi : i + 1 < kids.length), ltB (kids[i]'(by omega)).name kids[i + 1].name = Op.bytesLess a0.toList a1.toList := fun i hij hi => by
        have hi2 : ((j : Int) - 1).toNat = i := by omega
        have x0 : kids[i]'(by omega) = Tree.node k0 n0 a0 b0 ks0 := by simpa only [hi2] using e0
        have x1 : kids[i + 1] = Tree.node k1 n1 a1 b1 ks1 := by simpa only [hij] using e1
        rw [x0, x1]; rfl
      have hrbad : Op.bytesLess a0.toList a1.toList = false → (sfieldPs kids && risingP kids) = false := fun hb => by
        rw [Bool.and_eq_false_iff]
        right
        rw [Bool.eq_false_iff]
        intro hr
        rw [dR] at hr
        have := hr (j - 1) (by omega)
        rw [e2 (j - 1) (by omega)] at this
        rw [hb] at this; cases this
      have hrn : Op.bytesLess a0.toList a1.toList = true → ∀ i (hi : i + 1 < kids.length), i + 1 < j + 1 → ltB (kids[i]'(by omega)).name kids[i + 1].name = true := fun hb i hi hij => by
        by_cases e : i + 1 = j
        · rw [e2 i e]; exact hb
        · exact hri i hi (by omega)
      clear e2
      repeat' (first | refine aG ?_ | (refine aI ?_;  first | refine aD tabOk rfl rfl rfl (nb rfl) rfl ?_ | refine bE rfl rfl (nb rfl) ?_ | (refine aM rfl rfl rfl (nb rfl) rfl rfl rfl (fun hq => ?_) (fun hq => ?_) <;> (first | (simp only [sD, sE, sB, sC, sN, sM, sT, sF] at hq; try (exfalso; omega)) | skip)) | (refine bT rfl rfl rfl (nb rfl) rfl rfl rfl (gX _ _ _ _ _ _ _) (fun hq => ?_) (fun hq => ?_)) | (refine bT rfl rfl rfl (nb rfl) rfl rfl rfl (hc _ (hsz _ _) (bS hw1 (List.getElem_mem _))) (fun hq => ?_) (fun hq => ?_)) | refine bP rfl rfl rfl (nb rfl) rfl rfl (by omega) ?_ | refine bV rfl rfl rfl (nb rfl) rfl rfl rfl (by omega) (by omega) ?_ | refine bB tabOk rfl rfl (nb rfl) rfl ?_ | refine bG tabOk rfl rfl rfl (nb rfl) rfl rfl rfl rfl (by first | assumption | omega) ?_ | refine bN tabOk rfl rfl rfl (nb rfl) rfl rfl rfl rfl (by first | rfl | omega) (by first | omega | simp) ?_ | refine bC tabOk rfl rfl rfl (nb rfl) rfl rfl rfl (by assumption) ?_ | refine bC tabOk rfl rfl rfl (nb rfl) rfl rfl rfl (bX _ _ (by first | assumption | omega)) ?_) | (refine aN ?_;  first | refine aH ?_ | refine aQ ?_ | refine bH ?_ | refine aY ?_ | refine aT ?_ | refine aU ?_ | refine aA (b := true) rfl (fun _ => ?_) nTf | refine aA (b := false) rfl nFt (fun _ => ?_) | refine aW mixed (by kernel_rfl) ?_) | (refine aK ?_;  first | refine aX ?_ | refine aR ?_) | (refine bA ?_;  first | refine bU ?_ | refine bF ?_) | refine bQ (bL (by kernel_rfl)) ?_)
      all_goals first
        | (refine aV (by first | exact .inl rfl | exact .inr rfl) (aZ rfl (aC rfl)) rfl ?_; refine cO (hbad ?_).symm; by_cases h1 : ks1.length = 1 <;> first | (obtain ⟨c, rfl⟩ := one_of h1; simp_all [okSField, sigOne, labelP]; done) | (obtain ⟨c, rfl⟩ := one_of h1; simp_all [okSField, sigOne, labelP]; omega) | (exfalso; omega) | (simp_all [okSField, gY]; done))
        | (refine aV (by first | exact .inl rfl | exact .inr rfl) (aZ rfl (aC rfl)) rfl ?_; refine cO (hrbad ?_).symm; simp_all; done)
        | (exfalso; omega)
        | exact ⟨⟨j + 1, hlt, hgood (by obtain ⟨c, rfl⟩ := one_of (l := ks1) (by omega); first | (simp_all [okSField, sigOne, labelP]; done) | (simp_all [okSField, sigOne, labelP]; omega)), hrn (by simp_all)⟩, (by show kids.length - (j + 1) < kids.length - j; omega), (cA (by repeat' first | exact trivial | refine ⟨rfl, ?_⟩) (by repeat' first | exact trivial | refine ⟨rfl, ?_⟩))⟩
  · repeat' (first | refine aG ?_ | (refine aI ?_;  first | refine aD tabOk rfl rfl rfl (nb rfl) rfl ?_ | (refine aM rfl rfl rfl (nb rfl) rfl rfl rfl (fun hq => ?_) (fun hq => ?_) <;> (first | (simp only [sD, sE, sB, sC, sN, sM, sT, sF] at hq; try (exfalso; omega)) | skip))) | (refine aN ?_;  first | refine aH ?_ | refine aQ ?_ | refine aT ?_ | refine bW ?_ | refine aA (b := false) rfl nFt (fun _ => ?_)) | (refine aK ?_;  first | refine aX ?_ | refine bM ?_) | (refine bA ?_;  first | refine bI ?_))
    all_goals (refine aV (by first | exact .inl rfl | exact .inr rfl) (aZ rfl (aC rfl)) rfl ?_; refine cO ?_; rw [eU, iE fun i hi => hok i hi (by omega), Bool.true_and]; symm; rw [dR]; exact fun i hi => hri i hi (by omega))
end Go.Proofs.YtdajnmffoopcaaaGreatDoor.Ab
namespace Go.Proofs.YtdajnmffoopcaaaGreatDoor.Ab
set_option linter.unusedVariables false
set_option linter.unusedSimpArgs false
attribute [local irreducible] AWP AOps AExit AThen ABlock ANoGoto FeetOk
set_option maxHeartbeats 8000000 in
set_option maxRecDepth 10000 in
theorem jR (t : Tree) : t.whole = true → t.size ≤ 1000000 → ACalls Tryz.prog 38 [.imm t.iv] [] (.imm (.lit (.bool (isSigP t)))) [] := by
  induction t using Tree.sind with
  | h t ih =>
    intro h hs
    obtain ⟨k, n, a, b, kids, rfl⟩ := cF h
    have hl : kids.length < 1000000000 := by have := cC kids h; simp only [Tree.size] at hs; omega
    have hc : ∀ t', t'.size < (Tree.node k n a b kids).size → t'.whole = true → ACalls Tryz.prog 38 [.imm t'.iv] [] (.imm (.lit (.bool (isSigP t')))) [] := fun t' h1 h2 => ih t' h1 h2 (by omega)
    have c2 := tL k n a b kids h hl hc
    have hk : ∀ i (hi : i < kids.length), kids[i].size ≤ 1000000 := fun i hi => by
      have := cM (k := k) (n := n) (a := a) (b := b) (List.getElem_mem hi)
      omega
    clear ih hc
    obtain ⟨q, hq0⟩ : ∃ q, isSigP (.node k n a b kids) = q := ⟨_, rfl⟩
    rw [hq0]
    rw [isSigP] at hq0
    have c1 := gX k n a b kids false false
    generalize sbareP n a b false false = B at *
    generalize (sfieldPs kids && risingP kids) = F at *
    refine aJ Tryz.func38 rfl rfl (nb rfl) rfl ?_
    repeat' (first | refine aG ?_ | (refine aI ?_;  first | refine aD tabOk rfl rfl rfl (nb rfl) rfl ?_ | refine bE rfl rfl (nb rfl) ?_ | (refine aM rfl rfl rfl (nb rfl) rfl rfl rfl (fun hq => ?_) (fun hq => ?_) <;> (first | (simp only [sD, sE, sB, sC, sN, sM, sT, sF] at hq; try (exfalso; omega)) | skip)) | (refine bT rfl rfl rfl (nb rfl) rfl rfl rfl (c1) (fun hq => ?_) (fun hq => ?_)) | refine aE rfl rfl (nb rfl) rfl rfl rfl rfl (c2) ?_ | refine aE rfl rfl (nb rfl) rfl rfl rfl rfl (eM kids[0] (hk 0 (by omega))) ?_ | refine bB tabOk rfl rfl (nb rfl) rfl ?_ | refine bN tabOk rfl rfl rfl (nb rfl) rfl rfl rfl rfl (by first | rfl | omega) (by first | omega | simp) ?_ | refine bC tabOk rfl rfl rfl (nb rfl) rfl rfl rfl (bX _ _ (by first | assumption | omega)) ?_) | (refine aN ?_;  first | refine aH ?_ | refine aQ ?_ | refine bH ?_ | refine aY ?_ | refine aT ?_ | refine aU ?_ | refine aA (b := true) rfl (fun _ => ?_) nTf | refine aA (b := false) rfl nFt (fun _ => ?_)) | (refine aK ?_;  first | refine aX ?_ | refine aR ?_) | (refine bA ?_;  first | refine bU ?_ | refine bF ?_))
    all_goals (refine aV (by first | exact .inl rfl | exact .inr rfl) (aZ rfl (aC rfl)) rfl ?_; refine cO ?_; subst hq0; by_cases h1 : kids.length = 1 <;> first | (obtain ⟨c, rfl⟩ := one_of h1; simp_all [sig1]; done) | (obtain ⟨c, rfl⟩ := one_of h1; simp_all [sig1]; omega) | (simp_all [nH]; done) | (simp_all [nH]; omega))
def isExP : Tree → Bool
  | .node k n a b [c] => (k == 164) && sbareP n a b false true && isSigP c
  | _ => false
def isFunP : Tree → Bool
  | .node k n a b [x, y] => (k == 165) && sbareP n a b false true && (isSigP x && isExP y)
  | _ => false
theorem oI {k n : Int} {a b : ByteArray} {l : List Tree} (h : l.length ≠ 1) : isExP (.node k n a b l) = false := by
  match l, h with
  | [], _ => simp [isExP]
  | [x], h => simp at h
  | x :: y :: r, _ => simp [isExP]
theorem lW {k n : Int} {a b : ByteArray} {l : List Tree} (h : l.length ≠ 2) : isFunP (.node k n a b l) = false := by
  match l, h with
  | [], _ => simp [isFunP]
  | [x], _ => simp [isFunP]
  | [x, y], h => simp at h
  | x :: y :: z :: r, _ => simp [isFunP]
set_option maxHeartbeats 8000000 in
set_option maxRecDepth 10000 in
theorem tM (t : Tree) (h : t.whole = true) (hs : t.size ≤ 1000000) : ACalls Tryz.prog 39 [.imm t.iv] [] (.imm (.lit (.bool (isExP t)))) [] := by
  obtain ⟨k, n, a, b, kids, rfl⟩ := cF h
  have c1 := gX k n a b kids false true
  by_cases h1 : kids.length = 1
  · obtain ⟨c, rfl⟩ := one_of h1
    have hz := cM (k := k) (n := n) (a := a) (b := b) (kids := [c]) (t := c) (by simp)
    have c2 := jR c (bS h (by simp)) (by omega)
    rw [isExP]
    generalize sbareP n a b false true = B at *
    generalize isSigP c = F at *
    refine aJ Tryz.func39 rfl rfl (nb rfl) rfl ?_
    repeat' (first | refine aG ?_ | (refine aI ?_;  first | refine aD tabOk rfl rfl rfl (nb rfl) rfl ?_ | refine bE rfl rfl (nb rfl) ?_ | (refine aM rfl rfl rfl (nb rfl) rfl rfl rfl (fun hq => ?_) (fun hq => ?_) <;> (first | (simp only [sD, sE, sB, sC, sN, sM, sT, sF] at hq; try (exfalso; omega)) | skip)) | (refine bT rfl rfl rfl (nb rfl) rfl rfl rfl (c1) (fun hq => ?_) (fun hq => ?_)) | (refine bT rfl rfl rfl (nb rfl) rfl rfl rfl (c2) (fun hq => ?_) (fun hq => ?_)) | refine bB tabOk rfl rfl (nb rfl) rfl ?_ | refine bN tabOk rfl rfl rfl (nb rfl) rfl rfl rfl rfl (by first | rfl | omega) (by first | omega | simp) ?_) | (refine aN ?_;  first | refine aH ?_ | refine aT ?_))
    all_goals (refine aV (by first | exact .inl rfl | exact .inr rfl) (aZ rfl (aC rfl)) rfl ?_; refine cO ?_; simp_all)
  · rw [oI h1]
    refine aJ Tryz.func39 rfl rfl (nb rfl) rfl ?_
    repeat' (first | refine aG ?_ | (refine aI ?_;  first | refine aD tabOk rfl rfl rfl (nb rfl) rfl ?_ | refine bE rfl rfl (nb rfl) ?_ | (refine aM rfl rfl rfl (nb rfl) rfl rfl rfl (fun hq => ?_) (fun hq => ?_) <;> (first | (simp only [sD, sE, sB, sC, sN, sM, sT, sF] at hq; try (exfalso; omega)) | skip)) | (refine bT rfl rfl rfl (nb rfl) rfl rfl rfl (c1) (fun hq => ?_) (fun hq => ?_)) | refine bB tabOk rfl rfl (nb rfl) rfl ?_) | (refine aN ?_;  first | refine aH ?_ | refine aT ?_))
    all_goals first
      | (exfalso; omega)
      | exact cL (by first | exact .inl rfl | exact .inr rfl) (aZ rfl (aC rfl)) rfl
set_option maxHeartbeats 8000000 in
set_option maxRecDepth 10000 in
theorem yU (t : Tree) (h : t.whole = true) (hs : t.size ≤ 1000000) : ACalls Tryz.prog 40 [.imm t.iv] [] (.imm (.lit (.bool (isFunP t)))) [] := by
  obtain ⟨k, n, a, b, kids, rfl⟩ := cF h
  have c1 := gX k n a b kids false true
  by_cases h1 : kids.length = 2
  · obtain ⟨x, y, rfl⟩ := two h1
    have hz := cM (k := k) (n := n) (a := a) (b := b) (kids := [x, y]) (t := x) (by simp)
    have hz2 := cM (k := k) (n := n) (a := a) (b := b) (kids := [x, y]) (t := y) (by simp)
    have c2 := jR x (bS h (by simp)) (by omega)
    have c3 := tM y (bS h (by simp)) (by omega)
    rw [isFunP]
    generalize sbareP n a b false true = B at *
    generalize isSigP x = F at *
    generalize isExP y = G at *
    refine aJ Tryz.func40 rfl rfl (nb rfl) rfl ?_
    repeat' (first | refine aG ?_ | (refine aI ?_;  first | refine aD tabOk rfl rfl rfl (nb rfl) rfl ?_ | refine bE rfl rfl (nb rfl) ?_ | (refine aM rfl rfl rfl (nb rfl) rfl rfl rfl (fun hq => ?_) (fun hq => ?_) <;> (first | (simp only [sD, sE, sB, sC, sN, sM, sT, sF] at hq; try (exfalso; omega)) | skip)) | (refine bT rfl rfl rfl (nb rfl) rfl rfl rfl (c1) (fun hq => ?_) (fun hq => ?_)) | (refine bT rfl rfl rfl (nb rfl) rfl rfl rfl (c2) (fun hq => ?_) (fun hq => ?_)) | (refine bT rfl rfl rfl (nb rfl) rfl rfl rfl (c3) (fun hq => ?_) (fun hq => ?_)) | refine bB tabOk rfl rfl (nb rfl) rfl ?_ | refine bN tabOk rfl rfl rfl (nb rfl) rfl rfl rfl rfl (by first | rfl | omega) (by first | omega | simp) ?_) | (refine aN ?_;  first | refine aH ?_ | refine aT ?_))
    all_goals (refine aV (by first | exact .inl rfl | exact .inr rfl) (aZ rfl (aC rfl)) rfl ?_; refine cO ?_; simp_all)
  · rw [lW h1]
    refine aJ Tryz.func40 rfl rfl (nb rfl) rfl ?_
    repeat' (first | refine aG ?_ | (refine aI ?_;  first | refine aD tabOk rfl rfl rfl (nb rfl) rfl ?_ | refine bE rfl rfl (nb rfl) ?_ | (refine aM rfl rfl rfl (nb rfl) rfl rfl rfl (fun hq => ?_) (fun hq => ?_) <;> (first | (simp only [sD, sE, sB, sC, sN, sM, sT, sF] at hq; try (exfalso; omega)) | skip)) | (refine bT rfl rfl rfl (nb rfl) rfl rfl rfl (c1) (fun hq => ?_) (fun hq => ?_)) | refine bB tabOk rfl rfl (nb rfl) rfl ?_) | (refine aN ?_;  first | refine aH ?_ | refine aT ?_))
    all_goals first
      | (exfalso; omega)
      | exact cL (by first | exact .inl rfl | exact .inr rfl) (aZ rfl (aC rfl)) rfl
set_option maxHeartbeats 4000000 in
set_option maxRecDepth 10000 in
theorem oJ (t : Tree) : ∀ l : Int, t.size ≤ 1000000 → -1000000 ≤ l → l ≤ 1000000 → ACalls Tryz.prog 37 [.imm t.iv, .obj 1000 0] [(1000, .cells [.imm (.lit (.int .i64 l))])] (.imm (.lit (.int .i64 (wholeP t l).1))) [(1000, .cells [.imm (.lit (.int .i64 (wholeP t l).2))])] := by
  induction t using Tree.ind with
  | h1 =>
    intro l hs h1 h2
    refine iD Tryz.func37 rfl rfl (nb rfl) rfl rfl ?_
    repeat' (first | refine aG ?_ | (refine aI ?_;  first | refine aD tabOk rfl rfl rfl (nb rfl) rfl ?_ | refine bB tabOk rfl rfl (nb rfl) rfl ?_) | (refine aN ?_;  first | refine aH ?_ | refine aQ ?_ | refine aT ?_ | refine aA (b := true) rfl (fun _ => ?_) nTf) | (refine aK ?_;  first | refine aR ?_))
    all_goals (refine eL (cs := []) (by first | exact .inl rfl | exact .inr rfl) (aZ rfl (aC rfl)) rfl rfl rfl ?_; rfl)
  | h2 k n a b kids ih =>
    intro l hs h1 h2
    refine iD Tryz.func37 rfl rfl (nb rfl) rfl rfl ?_
    repeat' (first | refine aG ?_ | (refine aI ?_;  first | refine aD tabOk rfl rfl rfl (nb rfl) rfl ?_ | (refine aM rfl rfl rfl (nb rfl) rfl rfl rfl (fun hq => ?_) (fun hq => ?_) <;> (first | (simp only [sD, sE, sB, sC, sN, sM, sT, sF] at hq; try (exfalso; omega)) | skip)) | refine bV rfl rfl rfl (nb rfl) rfl rfl rfl (by omega) (by omega) ?_ | refine bB tabOk rfl rfl (nb rfl) rfl ?_ | refine bO tabOk rfl rfl rfl (nb rfl) rfl rfl rfl rfl ?_ | refine bJ tabOk rfl rfl rfl rfl rfl rfl rfl rfl rfl rfl rfl ?_) | (refine aN ?_;  first | refine aH ?_ | refine aQ ?_ | refine aY ?_ | refine aT ?_ | refine aU ?_ | refine aA (b := true) rfl (fun _ => ?_) nTf | refine aA (b := false) rfl nFt (fun _ => ?_)) | (refine aK ?_;  first | refine aX ?_ | refine aR ?_))
    · rw [show wholeP (.node k n a b kids) l = (3, l - 1) from if_pos (by omega)]
      refine eL (cs := []) (by first | exact .inl rfl | exact .inr rfl) (aZ rfl (aC rfl)) rfl rfl rfl ?_; rfl
    · rename_i hq
      have e0 : wholeP (.node k n a b kids) l = wholePs kids (l - 1) := if_neg (by omega)
      rw [e0]
      have hlen : kids.length < 9223372036854775807 ∨ kids.length ≥ 9223372036854775807 := by omega
      refine cI (ι := {j : Nat // j ≤ kids.length ∧ (wholePs (kids.take j) (l - 1)).1 = 0}) (fun j => S.f ⟨[(24, .imm (.lit (.int .i64 (j.1 : Int)))), (23, .imm (.lit (.int .i64 (kids.length : Int)))), (22, .imm (.sl false kids.length (Tree.ivs kids))), (1, .obj 1000 0)], [(1000, .cells [.imm (.lit (.int .i64 (wholePs (kids.take j.1) (l - 1)).2))])]⟩) (fun j => kids.length - j.1) ⟨0, Nat.zero_le _, by rw [List.take_zero, wholePs]⟩ (cA (by repeat' first | exact trivial | refine ⟨rfl, ?_⟩) (by repeat' first | exact trivial | refine ⟨rfl, ?_⟩)) ?_
      rintro ⟨j, hj, hok⟩
      dsimp only
      by_cases hlt : j < kids.length
      · have hm := List.getElem_mem hlt
        have hsz := cM (k := k) (n := n) (a := a) (b := b) hm
        have hbd := kE (kids.take j) (l - 1) (by omega) hok
        have hjl : j < 9223372036854775807 := by
          by_cases hj0 : j < 9223372036854775807
          · exact hj0
          · exfalso
            have := fJ (kids.take j) (l - 1) (by omega) hok
            rw [List.length_take] at this
            omega
        repeat' (first | refine aG ?_ | (refine aI ?_;  first | refine aD tabOk rfl rfl rfl (nb rfl) rfl ?_ | (refine aM rfl rfl rfl (nb rfl) rfl rfl rfl (fun hq => ?_) (fun hq => ?_) <;> (first | (simp only [sD, sE, sB, sC, sN, sM, sT, sF] at hq; try (exfalso; omega)) | skip)) | refine cG rfl rfl (nb rfl) rfl rfl rfl rfl (ih _ hm (wholePs (kids.take j) (l - 1)).2 (by omega) (by omega) (by omega)) (by exact ⟨rfl, trivial⟩) rfl (by simp) ?_ | refine bP rfl rfl rfl (nb rfl) rfl rfl (by omega) ?_ | refine bG tabOk rfl rfl rfl (nb rfl) rfl rfl rfl rfl (by first | assumption | omega) ?_ | refine bC tabOk rfl rfl rfl (nb rfl) rfl rfl rfl (bX _ _ (by first | assumption | omega)) ?_) | (refine aN ?_;  first | refine aH ?_ | refine aQ ?_ | refine bH ?_ | refine aY ?_ | refine aT ?_ | refine aU ?_ | refine aA (b := true) rfl (fun _ => ?_) nTf | refine aA (b := false) rfl nFt (fun _ => ?_)) | (refine aK ?_;  first | refine aX ?_ | refine aR ?_) | (refine bA ?_;  first | refine bU ?_ | refine bF ?_))
        all_goals first
          | (have hq : (wholeP kids[j] (wholePs (kids.take j) (l - 1)).2).1 ≠ 0 := by assumption
             have hst := iG hlt hok hq; rw [hst]; refine eL (cs := []) (by first | exact .inl rfl | exact .inr rfl) (aZ rfl (aC rfl)) rfl rfl rfl ?_; rfl; done)
          | (have hq : (wholeP kids[j] (wholePs (kids.take j) (l - 1)).2).1 = 0 := by assumption
             have hst := iF hlt hok; exact ⟨⟨j + 1, hlt, by rw [hst]; exact hq⟩, (by show kids.length - (j + 1) < kids.length - j; omega), (cA (by repeat' first | exact trivial | refine ⟨rfl, ?_⟩) (by rw [hst]; exact ⟨rfl, trivial⟩))⟩)
      · repeat' (first | refine aG ?_ | (refine aI ?_;  first | refine aD tabOk rfl rfl rfl (nb rfl) rfl ?_ | (refine aM rfl rfl rfl (nb rfl) rfl rfl rfl (fun hq => ?_) (fun hq => ?_) <;> (first | (simp only [sD, sE, sB, sC, sN, sM, sT, sF] at hq; try (exfalso; omega)) | skip))) | (refine aN ?_;  first | refine aH ?_ | refine aQ ?_ | refine aT ?_ | refine bW ?_ | refine aA (b := false) rfl nFt (fun _ => ?_)) | (refine aK ?_;  first | refine aX ?_ | refine bM ?_) | (refine bA ?_;  first | refine bI ?_))
        all_goals (have e1 : kids.take j = kids := List.take_of_length_le (by omega); rw [e1] at hok ⊢; refine eL (cs := []) (by first | exact .inl rfl | exact .inr rfl) (aZ rfl (aC rfl)) rfl rfl rfl ?_; exact fU hok.symm)
def sformP (t : Tree) : Bool := isSigP t || (isExP t || isFunP t)
set_option maxHeartbeats 8000000 in
set_option maxRecDepth 10000 in
theorem fA (t : Tree) (hs : t.size ≤ 1000000) : ACalls Tryz.prog 16 [.imm t.iv] [] (.imm (.lit (.int .i64 (checkP sformP t)))) [] := by
  have c1 := oJ t 65536 hs (by omega) (by omega)
  have hw := eT t 65536
  unfold checkP sformP
  generalize wholeP t 65536 = W at *
  obtain ⟨W1, W2⟩ := W
  dsimp only at *
  by_cases h0 : W1 = 0
  · have hwt := hw h0
    have c2 := jR t hwt hs
    have c3 := tM t hwt hs
    have c4 := yU t hwt hs
    generalize isSigP t = B1 at *
    generalize isExP t = B2 at *
    generalize isFunP t = B3 at *
    subst h0
    refine aJ Tryz.func16 rfl rfl (nb rfl) rfl ?_
    repeat' (first | refine aG ?_ | (refine aI ?_;  first | refine aD tabOk rfl rfl rfl (nb rfl) rfl ?_ | refine bE rfl rfl (nb rfl) ?_ | (refine aM rfl rfl rfl (nb rfl) rfl rfl rfl (fun hq => ?_) (fun hq => ?_) <;> (first | (simp only [sD, sE, sB, sC, sN, sM, sT, sF] at hq; try (exfalso; omega)) | skip)) | refine cP 1000 tabOk rfl rfl rfl (nb rfl) rfl rfl rfl rfl rfl rfl ?_ | refine cG rfl rfl (nb rfl) rfl rfl rfl rfl (c1) (by exact ⟨rfl, trivial⟩) rfl (by simp) ?_ | (refine bT rfl rfl rfl (nb rfl) rfl rfl rfl (c2) (fun hq => ?_) (fun hq => ?_)) | (refine bT rfl rfl rfl (nb rfl) rfl rfl rfl (c3) (fun hq => ?_) (fun hq => ?_)) | (refine bT rfl rfl rfl (nb rfl) rfl rfl rfl (c4) (fun hq => ?_) (fun hq => ?_)) | refine bJ tabOk rfl rfl rfl rfl rfl rfl rfl rfl rfl rfl rfl ?_) | (refine aN ?_;  first | refine aH ?_ | refine aQ ?_ | refine aT ?_ | refine aU ?_ | refine aA (b := true) rfl (fun _ => ?_) nTf | refine aA (b := false) rfl nFt (fun _ => ?_)) | (refine aK ?_;  first | refine aX ?_ | refine aR ?_))
    all_goals (refine aV (by first | exact .inl rfl | exact .inr rfl) (aZ rfl (aC rfl)) rfl ?_; refine fU ?_; simp_all)
  · rw [if_neg h0]
    refine aJ Tryz.func16 rfl rfl (nb rfl) rfl ?_
    repeat' (first | refine aG ?_ | (refine aI ?_;  first | refine aD tabOk rfl rfl rfl (nb rfl) rfl ?_ | refine bE rfl rfl (nb rfl) ?_ | (refine aM rfl rfl rfl (nb rfl) rfl rfl rfl (fun hq => ?_) (fun hq => ?_) <;> (first | (simp only [sD, sE, sB, sC, sN, sM, sT, sF] at hq; try (exfalso; omega)) | skip)) | refine cP 1000 tabOk rfl rfl rfl (nb rfl) rfl rfl rfl rfl rfl rfl ?_ | refine cG rfl rfl (nb rfl) rfl rfl rfl rfl (c1) (by exact ⟨rfl, trivial⟩) rfl (by simp) ?_ | refine bJ tabOk rfl rfl rfl rfl rfl rfl rfl rfl rfl rfl rfl ?_) | (refine aN ?_;  first | refine aH ?_ | refine aQ ?_ | refine aT ?_ | refine aU ?_ | refine aA (b := false) rfl nFt (fun _ => ?_)) | (refine aK ?_;  first | refine aX ?_))
    all_goals first
      | exact absurd (by assumption) h0
      | (refine aV (by first | exact .inl rfl | exact .inr rfl) (aZ rfl (aC rfl)) rfl ?_; rfl)
end Go.Proofs.YtdajnmffoopcaaaGreatDoor.Ab
namespace Go.Proofs.YtdajnmffoopcaaaGreatDoor.Ab
set_option linter.unusedVariables false
set_option linter.unusedSimpArgs false
attribute [local irreducible] AWP AOps AExit AThen ABlock ANoGoto FeetOk
/-- slices.IndexFunc, of trees, by a function over one variable. -/
def findP (R : Tree → Bool) : List Tree → Nat → Int
  | [], _ => -1
  | t :: ts, j => if R t then (j : Int) else findP R ts (j + 1)
set_option maxHeartbeats 4000000 in
set_option maxRecDepth 10000 in
theorem rP (l : List Tree) (F : FuncId) (x : IV) (R : Tree → Bool) (hl : l.length < 1000000000)
    (hf : ∀ j (h : j < l.length), ACalls Tryz.prog F [.imm l[j].iv, .obj 1001 0] [(1001, .cells [.imm x])] (.imm (.lit (.bool (R l[j])))) [(1001, .cells [.imm x])]) :
    ACalls Tryz.prog 86 [.imm (.sl false l.length (Tree.ivs l)), .func F [] [.obj 1001 0]] [(1001, .cells [.imm x])] (.imm (.lit (.int .i64 (findP R l 0)))) [(1001, .cells [.imm x])] := by
  generalize hR : findP R l 0 = Q
  refine cD [1001] Tryz.func86 rfl rfl (nb rfl) rfl rfl ?_
  repeat' (first | refine aG ?_ | (refine aI ?_;  first | refine aD tabOk rfl rfl rfl (nb rfl) rfl ?_ | refine bB tabOk rfl rfl (nb rfl) rfl ?_) | (refine aN ?_;  first | refine aH ?_ | refine aQ ?_ | refine aY ?_))
  refine cI (ι := {j : Nat // j ≤ l.length ∧ findP R (l.drop j) j = Q}) (fun j => S.f ⟨[(8, .imm (.lit (.int .i64 (j.1 : Int)))), (7, .imm (.lit (.int .i64 (l.length : Int)))), (0, .imm (.sl false l.length (Tree.ivs l))), (1, .func F [] [.obj 1001 0])], [(1001, .cells [.imm x])]⟩) (fun j => l.length - j.1) ⟨0, Nat.zero_le _, hR⟩ (cA (by repeat' first | exact trivial | refine ⟨rfl, ?_⟩) (by repeat' first | exact trivial | refine ⟨rfl, ?_⟩)) ?_
  clear hR
  rintro ⟨j, hj, hR⟩
  dsimp only
  by_cases hlt : j < l.length
  · have hget := bX l j hlt
    have hc := hf j hlt
    rw [List.drop_eq_getElem_cons hlt, findP] at hR
    cases hRj : R l[j] with
    | true =>
      rw [hRj] at hc hR
      rw [if_pos rfl] at hR
      subst hR
      repeat' (first | refine aG ?_ | (refine aI ?_;  first | refine aD tabOk rfl rfl rfl (nb rfl) rfl ?_ | (refine aM rfl rfl rfl (nb rfl) rfl rfl rfl (fun hq => ?_) (fun hq => ?_) <;> (first | (simp only [sD, sE, sB, sC, sN, sM, sT, sF] at hq; try (exfalso; omega)) | skip)) | refine cG rfl rfl (nb rfl) rfl rfl rfl rfl hc (by repeat' first | exact trivial | refine ⟨rfl, ?_⟩) rfl (by show ([1001] : List Nat).Nodup; decide) ?_ | refine bG tabOk rfl rfl rfl (nb rfl) rfl rfl rfl rfl (by first | assumption | omega) ?_ | refine bC tabOk rfl rfl rfl (nb rfl) rfl rfl rfl (by assumption) ?_) | (refine aN ?_;  first | refine aH ?_ | refine aQ ?_ | refine aY ?_ | refine aT ?_ | refine aU ?_ | refine aA (b := true) rfl (fun _ => ?_) nTf) | (refine aK ?_;  first | refine aX ?_ | refine aR ?_) | (refine bA ?_;  first | refine bF ?_))
      all_goals first
        | (exfalso; omega)
        | (refine cN (cE (by first | exact .inl rfl | exact .inr rfl) (aZ rfl (aC rfl)) rfl (by repeat' first | exact trivial | refine ⟨rfl, ?_⟩) rfl ?_); rfl)
    | false =>
      rw [hRj] at hc hR
      rw [if_neg (by simp)] at hR
      repeat' (first | refine aG ?_ | (refine aI ?_;  first | refine aD tabOk rfl rfl rfl (nb rfl) rfl ?_ | (refine aM rfl rfl rfl (nb rfl) rfl rfl rfl (fun hq => ?_) (fun hq => ?_) <;> (first | (simp only [sD, sE, sB, sC, sN, sM, sT, sF] at hq; try (exfalso; omega)) | skip)) | refine cG rfl rfl (nb rfl) rfl rfl rfl rfl hc (by repeat' first | exact trivial | refine ⟨rfl, ?_⟩) rfl (by show ([1001] : List Nat).Nodup; decide) ?_ | refine bP rfl rfl rfl (nb rfl) rfl rfl (by omega) ?_ | refine bG tabOk rfl rfl rfl (nb rfl) rfl rfl rfl rfl (by first | assumption | omega) ?_ | refine bC tabOk rfl rfl rfl (nb rfl) rfl rfl rfl (by assumption) ?_) | (refine aN ?_;  first | refine aH ?_ | refine aQ ?_ | refine bH ?_ | refine aY ?_ | refine aU ?_ | refine aA (b := true) rfl (fun _ => ?_) nTf | refine aA (b := false) rfl nFt (fun _ => ?_)) | (refine aK ?_;  first | refine aX ?_) | (refine bA ?_;  first | refine bU ?_))
      all_goals first
        | (exfalso; omega)
        | exact ⟨⟨j + 1, hlt, hR⟩, (by show l.length - (j + 1) < l.length - j; omega), (cA (by repeat' first | exact trivial | refine ⟨rfl, ?_⟩) (by repeat' first | exact trivial | refine ⟨rfl, ?_⟩))⟩
  · have ej : j = l.length := by omega
    subst ej
    rw [List.drop_length, findP] at hR
    subst hR
    repeat' (first | refine aG ?_ | (refine aI ?_;  first | refine aD tabOk rfl rfl rfl (nb rfl) rfl ?_ | (refine aM rfl rfl rfl (nb rfl) rfl rfl rfl (fun hq => ?_) (fun hq => ?_) <;> (first | (simp only [sD, sE, sB, sC, sN, sM, sT, sF] at hq; try (exfalso; omega)) | skip))) | (refine aN ?_;  first | refine aH ?_ | refine aQ ?_ | refine aT ?_ | refine bW ?_ | refine aA (b := false) rfl nFt (fun _ => ?_)) | (refine aK ?_;  first | refine aX ?_ | refine bM ?_) | (refine bA ?_;  first | refine bI ?_))
    all_goals first
      | (exfalso; omega)
      | (refine cN (cE (by first | exact .inl rfl | exact .inr rfl) (aZ rfl (aC rfl)) rfl (by repeat' first | exact trivial | refine ⟨rfl, ?_⟩) rfl ?_); rfl)
end Go.Proofs.YtdajnmffoopcaaaGreatDoor.Ab
namespace Go.Proofs.YtdajnmffoopcaaaGreatDoor.Ab
set_option linter.unusedVariables false
set_option linter.unusedSimpArgs false
attribute [local irreducible] AWP AOps AExit AThen ABlock ANoGoto FeetOk
theorem false_and {x y : Bool} (h : x = false) : false = (x && y) := by rw [h]; rfl
end Go.Proofs.YtdajnmffoopcaaaGreatDoor.Ab
namespace Go.Proofs.YtdajnmffoopcaaaGreatDoor.Ab
set_option linter.unusedVariables false
set_option linter.unusedSimpArgs false
attribute [local irreducible] AWP AOps AExit AThen ABlock ANoGoto FeetOk
def zipP (R : Tree → Tree → Bool) : List Tree → List Tree → Bool
  | [], [] => true
  | x :: xs, y :: ys => R x y && zipP R xs ys
  | _, _ => false
theorem oK (R : Tree → Tree → Bool) : ∀ (l l' : List Tree), l.length ≠ l'.length → zipP R l l' = false
  | [], [], h => absurd rfl h
  | x :: xs, y :: ys, h => by rw [zipP, oK R xs ys (by simpa using h), Bool.and_false]
  | [], _ :: _, _ => rfl
  | _ :: _, [], _ => rfl
theorem lD (R : Tree → Tree → Bool) : ∀ (l l' : List Tree), l.length = l'.length → (zipP R l l' = true ↔ ∀ i (hi : i < l.length) (hk : i < l'.length), R l[i] l'[i] = true)
  | [], [], _ => by simp [zipP]
  | [], _ :: _, h => by simp at h
  | _ :: _, [], h => by simp at h
  | x :: xs, y :: ys, h => by
    rw [zipP, Bool.and_eq_true, lD R xs ys (by simpa using h)]
    constructor
    · rintro ⟨h1, h2⟩ i hi hk
      cases i with
      | zero => exact h1
      | succ i => exact h2 i (by simpa using hi) (by simpa using hk)
    · intro h
      exact ⟨h 0 (by simp) (by simp), fun i hi hk => h (i + 1) (by simpa using hi) (by simpa using hk)⟩
set_option maxHeartbeats 4000000 in
set_option maxRecDepth 10000 in
theorem pU (l l' : List Tree) (f : FuncId) (R : Tree → Tree → Bool) (hl : l.length < 1000000000) (hl' : l'.length < 1000000000)
    (hf : ∀ i (hi : i < l.length) (hk : i < l'.length), ACalls Tryz.prog f [.imm l[i].iv, .imm l'[i].iv] [] (.imm (.lit (.bool (R l[i] l'[i])))) []) :
    ACalls Tryz.prog 64 [.imm (.sl false l.length (Tree.ivs l)), .imm (.sl false l'.length (Tree.ivs l')), .imm (.func f [] [])] [] (.imm (.lit (.bool (zipP R l l')))) [] := by
  refine aJ Tryz.func64 rfl rfl (nb rfl) rfl ?_
  repeat' (first | refine aG ?_ | (refine aI ?_;  first | refine aD tabOk rfl rfl rfl (nb rfl) rfl ?_ | (refine aM rfl rfl rfl (nb rfl) rfl rfl rfl (fun hq => ?_) (fun hq => ?_) <;> (first | (simp only [sD, sE, sB, sC, sN, sM, sT, sF] at hq; try (exfalso; omega)) | skip)) | refine bB tabOk rfl rfl (nb rfl) rfl ?_) | (refine aN ?_;  first | refine aH ?_ | refine aQ ?_ | refine aY ?_ | refine aT ?_ | refine aU ?_ | refine aA (b := true) rfl (fun _ => ?_) nTf | refine aA (b := false) rfl nFt (fun _ => ?_)) | (refine aK ?_;  first | refine aX ?_ | refine aR ?_))
  · refine aV (by first | exact .inl rfl | exact .inr rfl) (aZ rfl (aC rfl)) rfl ?_; exact cO (oK R l l' (by omega)).symm
  · have hle : l.length = l'.length := by omega
    refine cI (ι := {j : Nat // j ≤ l.length ∧ ∀ i (hi : i < l.length) (hk : i < l'.length), i < j → R l[i] l'[i] = true}) (fun j => S.f ⟨[(17, .imm (.lit (.int .i64 (j.1 : Int)))), (16, .imm (.lit (.int .i64 (l.length : Int)))), (15, .imm (.sl false l.length (Tree.ivs l))), (1, .imm (.sl false l'.length (Tree.ivs l'))), (2, .imm (.func f [] []))], []⟩) (fun j => l.length - j.1) ⟨0, Nat.zero_le _, fun i _ _ hi => absurd hi (Nat.not_lt_zero _)⟩ (cA (by repeat' first | exact trivial | refine ⟨rfl, ?_⟩) (by repeat' first | exact trivial | refine ⟨rfl, ?_⟩)) ?_
    rintro ⟨j, hj, hok⟩
    dsimp only
    by_cases hlt : j < l.length
    · have hltk : j < l'.length := by omega
      repeat' (first | refine aG ?_ | (refine aI ?_;  first | refine aD tabOk rfl rfl rfl (nb rfl) rfl ?_ | (refine aM rfl rfl rfl (nb rfl) rfl rfl rfl (fun hq => ?_) (fun hq => ?_) <;> (first | (simp only [sD, sE, sB, sC, sN, sM, sT, sF] at hq; try (exfalso; omega)) | skip)) | (refine bT rfl rfl rfl (nb rfl) rfl rfl rfl (hf j hlt hltk) (fun hq => ?_) (fun hq => ?_)) | refine bP rfl rfl rfl (nb rfl) rfl rfl (by omega) ?_ | refine bG tabOk rfl rfl rfl (nb rfl) rfl rfl rfl rfl (by first | assumption | omega) ?_ | refine bC tabOk rfl rfl rfl (nb rfl) rfl rfl rfl (bX _ _ (by first | assumption | omega)) ?_) | (refine aN ?_;  first | refine aH ?_ | refine aQ ?_ | refine bH ?_ | refine aY ?_ | refine aT ?_ | refine aU ?_ | refine aA (b := true) rfl (fun _ => ?_) nTf | refine aA (b := false) rfl nFt (fun _ => ?_)) | (refine aK ?_;  first | refine aX ?_ | refine aR ?_) | (refine bA ?_;  first | refine bU ?_ | refine bF ?_))
      all_goals first
        | (have hq : R l[j] l'[j] = false := by assumption
           refine aV (by first | exact .inl rfl | exact .inr rfl) (aZ rfl (aC rfl)) rfl ?_; refine cO ?_; symm; rw [Bool.eq_false_iff]; intro hc
           have := (lD R l l' hle).1 hc j hlt hltk
           rw [hq] at this; cases this; done)
        | (have hq : R l[j] l'[j] = true := by assumption
           exact ⟨⟨j + 1, hlt, fun i hi hk hij => by
             by_cases e : i = j
             · subst e; exact hq
             · exact hok i hi hk (by omega)⟩, (by show l.length - (j + 1) < l.length - j; omega), (cA (by repeat' first | exact trivial | refine ⟨rfl, ?_⟩) (by repeat' first | exact trivial | refine ⟨rfl, ?_⟩))⟩)
    · repeat' (first | refine aG ?_ | (refine aI ?_;  first | refine aD tabOk rfl rfl rfl (nb rfl) rfl ?_ | (refine aM rfl rfl rfl (nb rfl) rfl rfl rfl (fun hq => ?_) (fun hq => ?_) <;> (first | (simp only [sD, sE, sB, sC, sN, sM, sT, sF] at hq; try (exfalso; omega)) | skip))) | (refine aN ?_;  first | refine aH ?_ | refine aQ ?_ | refine aT ?_ | refine bW ?_ | refine aA (b := false) rfl nFt (fun _ => ?_)) | (refine aK ?_;  first | refine aX ?_ | refine bM ?_) | (refine bA ?_;  first | refine bI ?_))
      all_goals (refine aV (by first | exact .inl rfl | exact .inr rfl) (aZ rfl (aC rfl)) rfl ?_; refine cO ?_; symm; rw [lD R l l' hle]; exact fun i hi hk => hok i hi hk (by omega))
end Go.Proofs.YtdajnmffoopcaaaGreatDoor.Ab
namespace Go.Proofs.YtdajnmffoopcaaaGreatDoor.Ab
set_option linter.unusedVariables false
set_option linter.unusedSimpArgs false
attribute [local irreducible] AWP AOps AExit AThen ABlock ANoGoto FeetOk
mutual
def sameP : Tree → Tree → Bool
  | .nil, .nil => true
  | .node k n a b ks, .node k' n' a' b' ks' => (((k == k' && n == n') && eqB a a') && eqB b b') && samePs ks ks'
  | _, _ => false
def samePs : List Tree → List Tree → Bool
  | [], [] => true
  | x :: xs, y :: ys => sameP x y && samePs xs ys
  | _, _ => false
end
theorem iI : ∀ l l' : List Tree, samePs l l' = zipP sameP l l'
  | [], [] => by simp [samePs, zipP]
  | t :: ts, u :: us => by simp [samePs, zipP, iI ts us]
  | [], _ :: _ => by simp [samePs, zipP]
  | _ :: _, [] => by simp [samePs, zipP]
theorem gZ (t : Tree) : ∀ u, sameP t u = true ↔ t = u := by
  induction t using Tree.ind with
  | h1 => intro u; cases u <;> simp [sameP]
  | h2 k n a b ks ih =>
    intro u
    cases u with
    | nil => simp [sameP]
    | node k' n' a' b' ks' =>
      have key : ∀ (l l' : List Tree), (∀ t ∈ l, t ∈ ks) → (samePs l l' = true ↔ l = l') := by
        intro l
        induction l with
        | nil => intro l' _; cases l' <;> simp [samePs]
        | cons x xs ihl =>
          intro l' hm
          cases l' with
          | nil => simp [samePs]
          | cons y ys =>
            rw [samePs, Bool.and_eq_true, ih x (hm x (by simp)) y, ihl ys (fun t ht => hm t (by simp [ht]))]
            simp
      simp only [sameP, Bool.and_eq_true, beq_iff_eq, dO, key ks ks' (fun _ h => h), Tree.node.injEq]
      constructor
      · rintro ⟨⟨⟨⟨h1, h2⟩, h3⟩, h4⟩, h5⟩; exact ⟨h1, h2, h3, h4, h5⟩
      · rintro ⟨h1, h2, h3, h4, h5⟩; exact ⟨⟨⟨⟨h1, h2⟩, h3⟩, h4⟩, h5⟩
set_option maxHeartbeats 8000000 in
set_option maxRecDepth 10000 in
theorem aAx (t : Tree) : ∀ u : Tree, (t = .nil ∨ t.whole = true) → (u = .nil ∨ u.whole = true) → t.size ≤ 1000000 → u.size ≤ 1000000 → ACalls Tryz.prog 34 [.imm t.iv, .imm u.iv] [] (.imm (.lit (.bool (sameP t u)))) [] := by
  induction t using Tree.ind with
  | h1 =>
    intro u _ _ _ _
    cases u with
    | nil =>
      rw [show sameP .nil .nil = true by simp [sameP]]
      refine aJ Tryz.func34 rfl rfl (nb rfl) rfl ?_
      repeat' (first | refine aG ?_ | (refine aI ?_;  first | refine aD tabOk rfl rfl rfl (nb rfl) rfl ?_ | refine bE rfl rfl (nb rfl) ?_ | refine bB tabOk rfl rfl (nb rfl) rfl ?_) | (refine aN ?_;  first | refine aH ?_ | refine aQ ?_ | refine aT ?_ | refine aA (b := true) rfl (fun _ => ?_) nTf) | (refine aK ?_;  first | refine aR ?_))
      all_goals first
        | exact absurd rfl (by assumption)
        | exact cL (by first | exact .inl rfl | exact .inr rfl) (aZ rfl (aC rfl)) rfl
    | node k n a b ks =>
      rw [show sameP .nil (.node k n a b ks) = false by simp [sameP]]
      refine aJ Tryz.func34 rfl rfl (nb rfl) rfl ?_
      repeat' (first | refine aG ?_ | (refine aI ?_;  first | refine aD tabOk rfl rfl rfl (nb rfl) rfl ?_ | refine bE rfl rfl (nb rfl) ?_ | refine bB tabOk rfl rfl (nb rfl) rfl ?_) | (refine aN ?_;  first | refine aH ?_ | refine aQ ?_ | refine aT ?_ | refine aA (b := true) rfl (fun _ => ?_) nTf) | (refine aK ?_;  first | refine aR ?_))
      all_goals first
        | exact absurd rfl (by assumption)
        | exact cL (by first | exact .inl rfl | exact .inr rfl) (aZ rfl (aC rfl)) rfl
  | h2 k n a b ks ih =>
    intro u hw hw2 hs hs2
    cases u with
    | nil =>
      rw [show sameP (.node k n a b ks) .nil = false by simp [sameP]]
      refine aJ Tryz.func34 rfl rfl (nb rfl) rfl ?_
      repeat' (first | refine aG ?_ | (refine aI ?_;  first | refine aD tabOk rfl rfl rfl (nb rfl) rfl ?_ | refine bE rfl rfl (nb rfl) ?_ | refine bB tabOk rfl rfl (nb rfl) rfl ?_) | (refine aN ?_;  first | refine aH ?_ | refine aQ ?_ | refine aT ?_ | refine aA (b := true) rfl (fun _ => ?_) nTf) | (refine aK ?_;  first | refine aR ?_))
      all_goals first
        | exact absurd rfl (by assumption)
        | exact cL (by first | exact .inl rfl | exact .inr rfl) (aZ rfl (aC rfl)) rfl
    | node k' n' a' b' ks' =>
      have hw : (Tree.node k n a b ks).whole = true := by
        rcases hw with h | h
        · cases h
        · exact h
      have hw2 : (Tree.node k' n' a' b' ks').whole = true := by
        rcases hw2 with h | h
        · cases h
        · exact h
      have hl := cC ks hw
      have hl2 := cC ks' hw2
      simp only [Tree.size] at hs hs2
      have hf : ∀ i (hi : i < ks.length) (hk : i < ks'.length), ACalls Tryz.prog 34 [.imm ks[i].iv, .imm ks'[i].iv] [] (.imm (.lit (.bool (sameP ks[i] ks'[i])))) [] := fun i hi hk => by
        have h1 := List.getElem_mem hi
        have h2 := List.getElem_mem hk
        have h3 := dE h1
        have h4 := dE h2
        exact ih _ h1 _ (.inr (bS hw h1)) (.inr (bS hw2 h2)) (by omega) (by omega)
      have ce := pU ks ks' 34 sameP (by omega) (by omega) hf
      clear ih hf
      have e : sameP (.node k n a b ks) (.node k' n' a' b' ks') = ((((k == k' && n == n') && eqB a a') && eqB b b') && zipP sameP ks ks') := by rw [sameP, iI]
      rw [e]
      generalize zipP sameP ks ks' = Z at *
      refine aJ Tryz.func34 rfl rfl (nb rfl) rfl ?_
      repeat' (first | refine aG ?_ | (refine aI ?_;  first | refine aD tabOk rfl rfl rfl (nb rfl) rfl ?_ | refine bE rfl rfl (nb rfl) ?_ | (refine aM rfl rfl rfl (nb rfl) rfl rfl rfl (fun hq => ?_) (fun hq => ?_) <;> (first | (simp only [sD, sE, sB, sC, sN, sM, sT, sF] at hq; try (exfalso; omega)) | skip)) | (refine bT rfl rfl rfl (nb rfl) rfl rfl rfl (ce) (fun hq => ?_) (fun hq => ?_)) | refine bB tabOk rfl rfl (nb rfl) rfl ?_) | (refine aN ?_;  first | refine aH ?_ | refine aQ ?_ | refine aT ?_ | refine aU ?_ | refine aA (b := false) rfl nFt (fun _ => ?_) | refine aW mixed (by kernel_rfl) ?_) | (refine aK ?_;  first | refine aX ?_) | refine bQ (bL (by kernel_rfl)) ?_)
      all_goals first
        | exact absurd rfl (by assumption)
        | (refine aV (by first | exact .inl rfl | exact .inr rfl) (aZ rfl (aC rfl)) rfl ?_; refine cO ?_; simp_all [eqB])
/-- What stands at a label. -/
def isLab (label : ByteArray) (t : Tree) : Bool := decide (t.kind = 163) && eqB t.name label
def kid0 : Tree → Tree
  | .node _ _ _ _ (c :: _) => c
  | _ => .nil
def fieldP (label : ByteArray) : List Tree → Tree × Bool
  | [] => (.nil, false)
  | t :: ts => if isLab label t = true then (kid0 t, true) else fieldP label ts
theorem eO (label : ByteArray) : ∀ (l : List Tree) (j : Nat), (findP (isLab label) l j < 0 ∧ fieldP label l = (.nil, false)) ∨ ∃ i, ∃ h : i < l.length, findP (isLab label) l j = ((i + j : Nat) : Int) ∧ fieldP label l = (kid0 l[i], true) ∧ isLab label l[i] = true
  | [], j => .inl ⟨by simp [findP], rfl⟩
  | t :: ts, j => by
    rw [findP, fieldP]
    by_cases h : isLab label t = true
    · rw [if_pos h, if_pos h]
      exact .inr ⟨0, by simp, by omega, rfl, h⟩
    · rw [if_neg h, if_neg h]
      rcases eO label ts (j + 1) with h1 | ⟨i, h1, h2, h3, h4⟩
      · exact .inl h1
      · exact .inr ⟨i + 1, by simpa using h1, by rw [h2]; omega, by rw [h3]; rfl, by simpa using h4⟩
end Go.Proofs.YtdajnmffoopcaaaGreatDoor.Ab
namespace Go.Proofs.YtdajnmffoopcaaaGreatDoor.Ab
set_option linter.unusedVariables false
set_option linter.unusedSimpArgs false
attribute [local irreducible] AWP AOps AExit AThen ABlock ANoGoto FeetOk
def Tree.kids : Tree → List Tree
  | .nil => []
  | .node _ _ _ _ ks => ks
/-- A field's form. -/
theorem eJ {t : Tree} (h : okSField t = true) : ∃ n a b c, t = .node 163 n a b [c] ∧ isSigP c = true := by
  cases t with
  | nil => simp [okSField] at h
  | node k n a b ks =>
    simp only [okSField, Bool.and_eq_true, beq_iff_eq] at h
    obtain ⟨⟨⟨rfl, _⟩, _⟩, h⟩ := h
    by_cases h1 : ks.length = 1
    · obtain ⟨c, rfl⟩ := one_of h1
      exact ⟨n, a, b, c, rfl, by simpa [sigOne] using h⟩
    · rw [gY h1] at h; cases h
/-- A signature's kids: a constructor, or fields. -/
theorem eV {k n : Int} {a b : ByteArray} {kids : List Tree} (h : isSigP (.node k n a b kids) = true) : ((k = 160 ∨ k = 161) ∧ ∃ c, kids = [c] ∧ checkP isConP c = 0) ∨ (k = 162 ∧ (∀ t ∈ kids, okSField t = true) ∧ risingP kids = true) := by
  rw [isSigP, Bool.and_eq_true] at h
  have h := h.2
  by_cases c1 : k = 160 ∨ k = 161
  · rw [if_pos c1] at h
    by_cases h1 : kids.length = 1
    · obtain ⟨c, rfl⟩ := one_of h1
      exact .inl ⟨c1, c, rfl, by simpa [sig1] using h⟩
    · rw [nH h1] at h; cases h
  · rw [if_neg c1] at h
    by_cases c2 : k = 162
    · rw [if_pos c2, Bool.and_eq_true, eU] at h
      exact .inr ⟨c2, fun t ht => List.all_eq_true.1 h.1 t ht, h.2⟩
    · rw [if_neg c2] at h; cases h
theorem tN {c : Tree} (h : checkP isConP c = 0) : c.kind ≠ 163 := by
  obtain ⟨_, _, hf⟩ := bK h
  cases c with
  | nil => simp [isConP] at hf
  | node k n a b ks =>
    intro e
    have e : k = 163 := e
    subst e
    rw [isConP, Bool.and_eq_true] at hf
    have := hf.2
    rw [if_neg (by decide), if_neg (by decide), if_neg (by decide), if_neg (by decide), if_neg (by decide), if_neg (by decide)] at this
    cases this
theorem jA {t : Tree} (h : isSigP t = true) : ∀ u ∈ t.kids, u.kind = 163 → ∃ n' a' b' c, u = .node 163 n' a' b' [c] := by
  cases t with
  | nil => simp [isSigP] at h
  | node k n a b kids =>
    intro u hu hk
    rcases eV h with ⟨_, c, rfl, hc⟩ | ⟨_, hf, _⟩
    · have e : u = c := List.mem_singleton.1 hu
      subst e
      exact absurd hk (tN hc)
    · obtain ⟨n', a', b', c, e, _⟩ := eJ (hf u hu)
      exact ⟨n', a', b', c, e⟩
/-- What stands at a label of a signature is one, and less than it. -/
theorem kN {t : Tree} (h : isSigP t = true) (hw : t.whole = true) (label : ByteArray) (hf : (fieldP label t.kids).2 = true) : isSigP (fieldP label t.kids).1 = true ∧ (fieldP label t.kids).1.whole = true ∧ (fieldP label t.kids).1.size < t.size := by
  cases t with
  | nil => simp [isSigP] at h
  | node k n a b kids =>
    change (fieldP label kids).2 = true at hf
    show isSigP (fieldP label kids).1 = true ∧ (fieldP label kids).1.whole = true ∧ (fieldP label kids).1.size < _
    rcases eO label kids 0 with ⟨_, h2⟩ | ⟨i, h1, _, h3, h4⟩
    · rw [h2] at hf; cases hf
    · rw [h3]
      dsimp only
      have hm := List.getElem_mem h1
      have hz := cM (k := k) (n := n) (a := a) (b := b) hm
      have hwk := bS hw hm
      unfold isLab at h4
      rw [Bool.and_eq_true, decide_eq_true_eq] at h4
      rcases eV h with ⟨_, c, rfl, hc⟩ | ⟨_, hfs, _⟩
      · have e := List.mem_singleton.1 hm
        rw [e] at h4
        exact absurd h4.1 (tN hc)
      · obtain ⟨n', a', b', c, e, hc⟩ := eJ (hfs _ hm)
        rw [e] at hz hwk ⊢
        have hz2 := cM (k := 163) (n := n') (a := a') (b := b') (kids := [c]) (t := c) (by simp)
        show isSigP c = true ∧ c.whole = true ∧ c.size < _
        exact ⟨hc, bS hwk (by simp), by omega⟩
end Go.Proofs.YtdajnmffoopcaaaGreatDoor.Ab
namespace Go.Proofs.YtdajnmffoopcaaaGreatDoor.Ab
set_option linter.unusedVariables false
set_option linter.unusedSimpArgs false
attribute [local irreducible] AWP AOps AExit AThen ABlock ANoGoto FeetOk
/-- How many constructors a node of a signature binds in its kids. -/
def sbindsP (k n : Int) : Int := if k = 164 ∨ k = 165 then n else 0
set_option maxRecDepth 10000 in
theorem tO (k n : Int) (a b : ByteArray) (kids : List Tree) : ACalls Tryz.prog 75 [.imm (Tree.iv (.node k n a b kids))] [] (.imm (.lit (.int .i64 (sbindsP k n)))) [] := by
  refine aJ Tryz.func75 rfl rfl (nb rfl) rfl ?_
  repeat' (first | refine aG ?_ | (refine aI ?_;  first | refine aD tabOk rfl rfl rfl (nb rfl) rfl ?_ | refine bE rfl rfl (nb rfl) ?_ | (refine aM rfl rfl rfl (nb rfl) rfl rfl rfl (fun hq => ?_) (fun hq => ?_) <;> (first | (simp only [sD, sE, sB, sC, sN, sM, sT, sF] at hq; try (exfalso; omega)) | skip))) | (refine aN ?_;  first | refine aH ?_ | refine aQ ?_ | refine aT ?_ | refine aU ?_ | refine aA (b := true) rfl (fun _ => ?_) nTf | refine aA (b := false) rfl nFt (fun _ => ?_)) | (refine aK ?_;  first | refine aX ?_ | refine aR ?_))
  all_goals (refine aV (by first | exact .inl rfl | exact .inr rfl) (aZ rfl (aC rfl)) rfl ?_; refine fU ?_; unfold sbindsP; first | (rw [if_pos (by omega)]; done) | (rw [if_neg (by omega)]; done))
mutual
/-- Is a tree one of signatures, down to constructors that are checked, with so many binders around at most? -/
def okW : Tree → Int → Bool
  | .nil, _ => false
  | .node k n a b kids, B => if k < 160 then checkP isConP (.node k n a b kids) == 0 else decide (0 ≤ sbindsP k n ∧ sbindsP k n ≤ B) && okWs kids (B - sbindsP k n)
def okWs : List Tree → Int → Bool
  | [], _ => true
  | t :: ts, B => okW t B && okWs ts B
end
theorem lE {B : Int} : ∀ {l : List Tree}, okWs l B = true → ∀ t ∈ l, okW t B = true
  | x :: xs, h, t, ht => by
    simp only [okWs, Bool.and_eq_true] at h
    rcases List.mem_cons.1 ht with rfl | ht
    · exact h.1
    · exact lE h.2 t ht
theorem xJ {B : Int} : ∀ {l : List Tree}, (∀ t ∈ l, okW t B = true) → okWs l B = true
  | [], _ => by rw [okWs]
  | x :: xs, h => by
    simp only [okWs, Bool.and_eq_true]
    exact ⟨h x (by simp), xJ fun t ht => h t (by simp [ht])⟩
theorem rQ {c : Tree} (h : checkP isConP c = 0) : ∃ k n a b ks, c = .node k n a b ks ∧ k < 160 := by
  obtain ⟨_, _, hf⟩ := bK h
  cases c with
  | nil => simp [isConP] at hf
  | node k n a b ks =>
    refine ⟨k, n, a, b, ks, rfl, ?_⟩
    rw [isConP, Bool.and_eq_true] at hf
    have := hf.2
    by_cases h1 : k < 160
    · exact h1
    · rw [if_neg (by omega), if_neg (by omega), if_neg (by omega), if_neg (by omega), if_neg (by omega), if_neg (by omega)] at this
      cases this
theorem aBN {c : Tree} (h : checkP isConP c = 0) (B : Int) : okW c B = true := by
  obtain ⟨k, n, a, b, ks, rfl, hk⟩ := rQ h
  rw [okW, if_pos hk, h]
  rfl
theorem rR (t : Tree) : isSigP t = true → ∀ B : Int, 0 ≤ B → okW t B = true := by
  induction t using Tree.sind with
  | h t ih =>
    intro h B hB
    cases t with
    | nil => simp [isSigP] at h
    | node k n a b kids =>
      rcases eV h with ⟨hk, c, rfl, hc⟩ | ⟨hk, hf, _⟩
      · have h0 : sbindsP k n = 0 := by unfold sbindsP; rw [if_neg (by omega)]
        rw [okW, if_neg (by omega), h0, decide_eq_true (by omega), Bool.true_and, okWs, okWs, aBN hc, Bool.and_true]
      · have h0 : sbindsP k n = 0 := by unfold sbindsP; rw [if_neg (by omega)]
        rw [okW, if_neg (by omega), h0, decide_eq_true (by omega), Bool.true_and]
        refine xJ fun u hu => ?_
        have hz := cM (k := k) (n := n) (a := a) (b := b) hu
        obtain ⟨n', a', b', c, rfl, hc⟩ := eJ (hf u hu)
        have hz2 := cM (k := 163) (n := n') (a := a') (b := b') (kids := [c]) (t := c) (by simp)
        have h1 : sbindsP 163 n' = 0 := by unfold sbindsP; rw [if_neg (by omega)]
        rw [okW, if_neg (by omega), h1, decide_eq_true (by omega), Bool.true_and, okWs, okWs, ih c (by omega) hc _ (by omega), Bool.and_true]
theorem jS {n : Int} {a b : ByteArray} {nm : Bool} (h : sbareP n a b nm true = true) : 0 ≤ n ∧ n ≤ 8192 := by
  simp only [sbareP, Bool.true_and, Bool.and_eq_true, Bool.or_eq_true, decide_eq_true_eq, beq_iff_eq] at h
  omega
theorem aAy {t : Tree} (h : isExP t = true) (B : Int) (hB : 8192 ≤ B) : okW t B = true := by
  unfold isExP at h
  split at h
  · rename_i k n a b c
    simp only [Bool.and_eq_true, beq_iff_eq] at h
    obtain ⟨⟨rfl, h1⟩, h2⟩ := h
    have h3 := jS h1
    have h0 : sbindsP 164 n = n := by unfold sbindsP; rw [if_pos (by omega)]
    rw [okW, if_neg (by omega), h0, decide_eq_true (by omega), Bool.true_and, okWs, okWs, rR c h2 _ (by omega), Bool.and_true]
  · cases h
theorem aBO {t : Tree} (h : isFunP t = true) (B : Int) (hB : 16384 ≤ B) : okW t B = true := by
  unfold isFunP at h
  split at h
  · rename_i k n a b x y
    simp only [Bool.and_eq_true, beq_iff_eq] at h
    obtain ⟨⟨rfl, h1⟩, h2, h3⟩ := h
    have h4 := jS h1
    have h0 : sbindsP 165 n = n := by unfold sbindsP; rw [if_pos (by omega)]
    rw [okW, if_neg (by omega), h0, decide_eq_true (by omega), Bool.true_and, okWs, okWs, okWs, rR x h2 _ (by omega), aAy h3 _ (by omega), Bool.and_true, Bool.and_true]
  · cases h
theorem oL {t : Tree} (h : sformP t = true) : okW t 16384 = true := by
  unfold sformP at h
  rw [Bool.or_eq_true, Bool.or_eq_true] at h
  rcases h with h | h | h
  · exact rR t h _ (by omega)
  · exact aAy h _ (by omega)
  · exact aBO h _ (by omega)
mutual
/-- A signature made anew, its constructors as C says; the error. -/
def swalkP (C : Tree → Int → Tree × Int) : Tree → Int → Tree × Int
  | .nil, _ => (.nil, 0)
  | .node k n a b kids, d => if k < 160 then C (.node k n a b kids) d else if (swalkPs C kids (d + sbindsP k n)).2 ≠ 0 then (.nil, (swalkPs C kids (d + sbindsP k n)).2) else (.node k n a b (swalkPs C kids (d + sbindsP k n)).1, 0)
def swalkPs (C : Tree → Int → Tree × Int) : List Tree → Int → List Tree × Int
  | [], _ => ([], 0)
  | t :: ts, d => if (swalkP C t d).2 ≠ 0 then ([], (swalkP C t d).2) else if (swalkPs C ts d).2 ≠ 0 then ([], (swalkPs C ts d).2) else ((swalkP C t d).1 :: (swalkPs C ts d).1, 0)
end
section
variable (C : Tree → Int → Tree × Int)
theorem lF (d : Int) (t : Tree) : ∀ (l : List Tree), (swalkPs C l d).2 = 0 → (swalkP C t d).2 = 0 → swalkPs C (l ++ [t]) d = ((swalkPs C l d).1 ++ [(swalkP C t d).1], 0)
  | [], _, h => by
    simp [swalkPs, h]
  | x :: l, h1, h2 => by
    rw [swalkPs] at h1
    by_cases c1 : (swalkP C x d).2 ≠ 0
    · rw [if_pos c1] at h1; exact absurd h1 c1
    · rw [if_neg c1] at h1
      by_cases c2 : (swalkPs C l d).2 ≠ 0
      · rw [if_pos c2] at h1; exact absurd h1 c2
      · have ih := lF d t l (by omega) h2
        rw [List.cons_append, swalkPs, if_neg c1, ih, swalkPs, if_neg c1, if_neg c2]
        simp
theorem lG (d : Int) {l : List Tree} {j : Nat} (hj : j < l.length) (h : (swalkPs C (l.take j) d).2 = 0) (h2 : (swalkP C l[j] d).2 ≠ 0) : (swalkPs C l d).2 = (swalkP C l[j] d).2 := by
  induction l generalizing j with
  | nil => simp at hj
  | cons x l ih =>
    cases j with
    | zero =>
      rw [List.getElem_cons_zero] at h2 ⊢
      rw [swalkPs, if_pos h2]
    | succ j =>
      rw [List.getElem_cons_succ] at h2 ⊢
      rw [List.take_succ_cons, swalkPs] at h
      by_cases c1 : (swalkP C x d).2 ≠ 0
      · rw [if_pos c1] at h; exact absurd h c1
      · rw [if_neg c1] at h
        by_cases c2 : (swalkPs C (l.take j) d).2 ≠ 0
        · rw [if_pos c2] at h; exact absurd h c2
        · have := ih (by simpa using hj) (by omega) h2
          rw [swalkPs, if_neg c1, if_pos (by rw [this]; exact h2)]
          exact this
theorem lH (d : Int) {l : List Tree} {j : Nat} (hj : j < l.length) (h1 : (swalkPs C (l.take j) d).2 = 0) (h2 : (swalkP C l[j] d).2 = 0) : swalkPs C (l.take (j + 1)) d = ((swalkPs C (l.take j) d).1 ++ [(swalkP C l[j] d).1], 0) := by
  rw [List.take_succ_eq_append_getElem hj]
  exact lF C d _ _ h1 h2
theorem fG (d : Int) : ∀ (l : List Tree), (swalkPs C l d).2 = 0 → (swalkPs C l d).1.length = l.length
  | [], _ => by rw [swalkPs]
  | x :: l, h => by
    rw [swalkPs] at h ⊢
    by_cases c1 : (swalkP C x d).2 ≠ 0
    · rw [if_pos c1] at h; exact absurd h c1
    · rw [if_neg c1] at h ⊢
      by_cases c2 : (swalkPs C l d).2 ≠ 0
      · rw [if_pos c2] at h; exact absurd h c2
      · rw [if_neg c2, List.length_cons, List.length_cons, fG d l (by omega)]
end
set_option maxHeartbeats 8000000 in
set_option maxRecDepth 10000 in
theorem aAz (C : Tree → Int → Tree × Int) (F : FuncId) 
    (hC : ∀ (t : Tree) (d : Int), checkP isConP t = 0 → 0 ≤ d → d ≤ 20000 → ACalls Tryz.prog F ([.imm t.iv, .imm (.lit (.int .i64 d))]) [] (.imm (.tup [(C t d).1.iv, .lit (.int .i64 (C t d).2)])) [] ∧ ((C t d).2 = 0 → (C t d).1 ≠ .nil)) (t : Tree) :
    ∀ (d B : Int), okW t B = true → t.whole = true → 0 ≤ d → d + B ≤ 20000 → 0 ≤ B → t.size ≤ 1000000 → ACalls Tryz.prog 48 [.imm t.iv, .imm (.lit (.int .i64 d)), .imm (.func F [] [])] [] (.imm (.tup [(swalkP C t d).1.iv, .lit (.int .i64 (swalkP C t d).2)])) [] ∧ ((swalkP C t d).2 = 0 → (swalkP C t d).1 ≠ .nil) := by
  induction t using Tree.ind with
  | h1 => intro d B _ h; simp [Tree.whole] at h
  | h2 k n a b kids ih =>
    intro d B hv hw hd hs hB0 hsz
    have hl := cC kids hw
    simp only [Tree.size] at hsz
    rw [okW] at hv
    by_cases k160 : k < 160
    · rw [if_pos k160] at hv
      obtain ⟨hc, hne⟩ := hC (.node k n a b kids) d (by simpa using hv) hd (by omega)
      rw [swalkP, if_pos k160]
      refine ⟨?_, hne⟩
      clear hne ih hC
      generalize C (.node k n a b kids) d = R at *
      obtain ⟨R1, R2⟩ := R
      dsimp only at hc ⊢
      refine cD [] Tryz.func48 rfl rfl (nb rfl) rfl rfl ?_
      repeat' (first | refine aG ?_ | (refine aI ?_;  first | refine aD tabOk rfl rfl rfl (nb rfl) rfl ?_ | (refine aM rfl rfl rfl (nb rfl) rfl rfl rfl (fun hq => ?_) (fun hq => ?_) <;> (first | (simp only [sD, sE, sB, sC, sN, sM, sT, sF] at hq; try (exfalso; omega)) | skip)) | refine cG rfl rfl (nb rfl) rfl rfl rfl rfl hc (by repeat' first | exact trivial | refine ⟨rfl, ?_⟩) rfl (by show ([] : List Nat).Nodup; decide) ?_) | (refine aN ?_;  first | refine aH ?_ | refine aQ ?_ | refine aT ?_ | refine aA (b := true) rfl (fun _ => ?_) nTf) | (refine aK ?_;  first | refine aR ?_))
      all_goals first
        | (exfalso; omega)
        | (refine cN (cE (by first | exact .inl rfl | exact .inr rfl) (bD rfl (aC rfl) (aC rfl)) rfl (by repeat' first | exact trivial | refine ⟨rfl, ?_⟩) rfl ?_); rfl)
    · rw [if_neg k160, Bool.and_eq_true, decide_eq_true_eq] at hv
      obtain ⟨⟨hb0, hb1⟩, hks⟩ := hv
      have cb := tO k n a b kids
      rw [swalkP, if_neg k160]
      generalize hdd : d + sbindsP k n = dd at *
      have hind : ∀ j (h : j < kids.length), ACalls Tryz.prog 48 [.imm kids[j].iv, .imm (.lit (.int .i64 dd)), .imm (.func F [] [])] [] (.imm (.tup [(swalkP C kids[j] dd).1.iv, .lit (.int .i64 (swalkP C kids[j] dd).2)])) [] ∧ ((swalkP C kids[j] dd).2 = 0 → (swalkP C kids[j] dd).1 ≠ .nil) := fun j h => by
        have hm := List.getElem_mem h
        have hz := dE hm
        exact ih _ hm dd (B - sbindsP k n) (lE hks _ hm) (bS hw hm) (by omega) (by omega) (by omega) (by omega)
      clear ih hks
      refine ⟨?_, fun h => by split at h; exact absurd h (by assumption); rename_i h0; rw [if_neg h0]; simp⟩
      generalize sbindsP k n = sb at *
      generalize hR : (if (swalkPs C kids dd).2 ≠ 0 then (Tree.nil, (swalkPs C kids dd).2) else (.node k n a b (swalkPs C kids dd).1, 0)) = R
      refine cD [] Tryz.func48 rfl rfl (nb rfl) rfl rfl ?_
      repeat' (first | refine aG ?_ | (refine aI ?_;  first | refine aD tabOk rfl rfl rfl (nb rfl) rfl ?_ | (refine aM rfl rfl rfl (nb rfl) rfl rfl rfl (fun hq => ?_) (fun hq => ?_) <;> (first | (simp only [sD, sE, sB, sC, sN, sM, sT, sF] at hq; try (exfalso; omega)) | skip)) | refine bB tabOk rfl rfl (nb rfl) rfl ?_ | refine cJ tabOk rfl rfl rfl (nb rfl) rfl rfl rfl rfl rfl rfl ?_ | refine bJ tabOk rfl rfl rfl rfl rfl rfl rfl rfl rfl rfl rfl ?_) | (refine aN ?_;  first | refine aH ?_ | refine aQ ?_ | refine aY ?_ | refine aU ?_ | refine aA (b := false) rfl nFt (fun _ => ?_)) | (refine aK ?_;  first | refine aX ?_))
      all_goals first
        | (exfalso; omega)
        | skip
      refine dH (dU (h0 := 8) (k0 := 4) 500 25 1 rfl rfl (by simp) rfl rfl) ?_
      refine cI (ι := {j : Nat // j ≤ kids.length ∧ (swalkPs C (kids.take j) dd).2 = 0}) (fun j => S.f ⟨[(33, .imm (.lit (.int .i64 (j.1 : Int)))), (32, .imm (.lit (.int .i64 (kids.length : Int)))), (31, .imm (.sl false kids.length (Tree.ivs kids))), (8, .obj 8 0), (0, .imm (Tree.iv (.node k n a b kids))), (1, .imm (.lit (.int .i64 d))), (2, .imm (.func F [] []))], (500, .arr 25 1 j.1 (Tree.ivs (swalkPs C (kids.take j.1) dd).1)) :: (8, .cells [.imm (.lit (.int .i64 k)), .imm (.lit (.int .i64 n)), .imm (.lit (.string a)), .imm (.lit (.string b)), .ref 500 j.1]) :: []⟩) (fun j => kids.length - j.1) ⟨0, Nat.zero_le _, by rw [List.take_zero, swalkPs]⟩ (cA (by repeat' first | exact trivial | refine ⟨rfl, ?_⟩) (by repeat' first | exact trivial | refine ⟨rfl, ?_⟩)) ?_
      rintro ⟨j, hj, hok⟩
      dsimp only
      by_cases hlt : j < kids.length
      · have hget := bX kids j hlt
        obtain ⟨hc, hnn⟩ := hind j hlt
        have hll := fG C dd (kids.take j) hok
        rw [List.length_take, Nat.min_eq_left hj] at hll
        have hst := lG C dd hlt hok
        have htk := lH C dd hlt hok
        clear hind hC
        have hil := eG (swalkPs C (kids.take j) dd).1
        rw [hll] at hil
        generalize swalkPs C (kids.take j) dd = Z at *
        obtain ⟨Z1, Z2⟩ := Z
        generalize swalkP C kids[j] dd = W at *
        obtain ⟨W1, W2⟩ := W
        dsimp only at *
        by_cases h0 : W2 = 0
        · subst h0
          have htk := htk rfl
          obtain ⟨pc, hpc⟩ := dT (hnn rfl)
          rw [hpc] at hc
          have hiv : Tree.ivs (swalkPs C (kids.take (j + 1)) dd).1 = Tree.ivs Z1 ++ [.ptr pc 0] := by
            rw [htk, dL, dL, List.map_append, ← hpc]; rfl
          have hok2 : (swalkPs C (kids.take (j + 1)) dd).2 = 0 := by rw [htk]
          generalize Tree.ivs Z1 = ZI at *
          repeat' (first | refine aG ?_ | (refine aI ?_;  first | refine aD tabOk rfl rfl rfl (nb rfl) rfl ?_ | (refine aM rfl rfl rfl (nb rfl) rfl rfl rfl (fun hq => ?_) (fun hq => ?_) <;> (first | (simp only [sD, sE, sB, sC, sN, sM, sT, sF] at hq; try (exfalso; omega)) | skip)) | refine bC tabOk rfl rfl rfl (nb rfl) rfl rfl rfl hget ?_ | refine aE rfl rfl (nb rfl) rfl rfl rfl rfl (cb) ?_ | refine bY (z := dd) rfl rfl rfl (nb rfl) rfl rfl hdd (by omega) (by omega) ?_ | refine cG rfl rfl (nb rfl) rfl rfl rfl rfl hc (by repeat' first | exact trivial | refine ⟨rfl, ?_⟩) rfl (by show ([] : List Nat).Nodup; decide) ?_ | refine dF tabOk rfl rfl rfl (nb rfl) rfl rfl rfl rfl rfl rfl rfl (by first | omega | decide) rfl (by first | omega | (dsimp only; omega)) (by first | omega | (dsimp only; omega)) ?_ | refine bP rfl rfl rfl (nb rfl) rfl rfl (by omega) ?_ | refine cH tabOk rfl rfl rfl (nb rfl) rfl rfl rfl rfl rfl rfl rfl rfl rfl ?_ | refine bO tabOk rfl rfl rfl (nb rfl) rfl rfl rfl rfl ?_ | refine bJ tabOk rfl rfl rfl rfl rfl rfl rfl rfl rfl rfl rfl ?_ | refine bG tabOk rfl rfl rfl (nb rfl) rfl rfl rfl rfl (by first | assumption | omega) ?_) | (refine aN ?_;  first | refine aH ?_ | refine aQ ?_ | refine bH ?_ | refine aY ?_ | refine aU ?_ | refine aA (b := true) rfl (fun _ => ?_) nTf | refine aA (b := false) rfl nFt (fun _ => ?_)) | (refine aK ?_;  first | refine aX ?_) | (refine bA ?_;  first | refine bU ?_))
          all_goals first
            | exact absurd rfl (by assumption)
            | (exfalso; omega)
            | (refine ⟨⟨j + 1, hlt, hok2⟩, (by show kids.length - (j + 1) < kids.length - j; omega), ?_⟩; dsimp only; rw [hiv]; exact (cA (by repeat' first | exact trivial | refine ⟨rfl, ?_⟩) (by repeat' first | exact trivial | refine ⟨rfl, ?_⟩)))
        · have hs2 := hst h0
          rw [hs2, if_pos h0] at hR
          subst hR
          repeat' (first | refine aG ?_ | (refine aI ?_;  first | refine aD tabOk rfl rfl rfl (nb rfl) rfl ?_ | (refine aM rfl rfl rfl (nb rfl) rfl rfl rfl (fun hq => ?_) (fun hq => ?_) <;> (first | (simp only [sD, sE, sB, sC, sN, sM, sT, sF] at hq; try (exfalso; omega)) | skip)) | refine bC tabOk rfl rfl rfl (nb rfl) rfl rfl rfl hget ?_ | refine aE rfl rfl (nb rfl) rfl rfl rfl rfl (cb) ?_ | refine bY (z := dd) rfl rfl rfl (nb rfl) rfl rfl hdd (by omega) (by omega) ?_ | refine cG rfl rfl (nb rfl) rfl rfl rfl rfl hc (by repeat' first | exact trivial | refine ⟨rfl, ?_⟩) rfl (by show ([] : List Nat).Nodup; decide) ?_ | refine bG tabOk rfl rfl rfl (nb rfl) rfl rfl rfl rfl (by first | assumption | omega) ?_) | (refine aN ?_;  first | refine aH ?_ | refine aQ ?_ | refine aY ?_ | refine aT ?_ | refine aU ?_ | refine aA (b := true) rfl (fun _ => ?_) nTf) | (refine aK ?_;  first | refine aX ?_ | refine aR ?_) | (refine bA ?_;  first | refine bF ?_))
          all_goals first
            | exact absurd (by assumption) h0
            | (exfalso; omega)
            | (refine cN (cE (by first | exact .inl rfl | exact .inr rfl) (bD rfl (aC rfl) (aC rfl)) rfl (by repeat' first | exact trivial | refine ⟨rfl, ?_⟩) rfl ?_); rfl)
      · have ej : j = kids.length := by omega
        subst ej
        rw [List.take_length] at hok ⊢
        rw [if_neg (by simpa using hok)] at hR
        subst hR
        have hll := fG C dd kids hok
        clear hind hC
        generalize swalkPs C kids dd = Z at *
        obtain ⟨Z1, Z2⟩ := Z
        dsimp only at *
        have hiv : (Tree.node k n a b Z1).iv = .ptr [.lit (.int .i64 k), .lit (.int .i64 n), .lit (.string a), .lit (.string b), .sl false kids.length (Tree.ivs Z1)] 0 := by rw [Tree.iv, hll]
        rw [hiv]
        generalize Tree.ivs Z1 = ZI at *
        repeat' (first | refine aG ?_ | (refine aI ?_;  first | refine aD tabOk rfl rfl rfl (nb rfl) rfl ?_ | (refine aM rfl rfl rfl (nb rfl) rfl rfl rfl (fun hq => ?_) (fun hq => ?_) <;> (first | (simp only [sD, sE, sB, sC, sN, sM, sT, sF] at hq; try (exfalso; omega)) | skip))) | (refine aN ?_;  first | refine aH ?_ | refine aQ ?_ | refine aT ?_ | refine bW ?_ | refine aA (b := false) rfl nFt (fun _ => ?_)) | (refine aK ?_;  first | refine aX ?_ | refine bM ?_) | (refine bA ?_;  first | refine bI ?_))
        all_goals first
          | (exfalso; omega)
          | (refine gV ((Imp.of_le (σ' := S.f ⟨[(6, .obj 8 0), (7, .imm (.lit (.int .i64 0)))], (500, .arr 25 1 kids.length ZI) :: (8, .cells [.imm (.lit (.int .i64 k)), .imm (.lit (.int .i64 n)), .imm (.lit (.string a)), .imm (.lit (.string b)), .ref 500 kids.length]) :: []⟩) (cA (by repeat' first | exact trivial | refine ⟨rfl, ?_⟩) (by repeat' first | exact trivial | refine ⟨rfl, ?_⟩))).trans ((dC (g := 500) rfl (by repeat' first | exact trivial | exact fun _ => rfl | refine ⟨?_, ?_⟩) (by repeat' first | exact trivial | exact fun _ => rfl | refine ⟨?_, ?_⟩)).trans (dI (g := 8) rfl rfl))) ?_
             refine cE (by first | exact .inl rfl | exact .inr rfl) (bD rfl (aC rfl) (aC rfl)) rfl (by repeat' first | exact trivial | refine ⟨rfl, ?_⟩) rfl rfl)
set_option maxHeartbeats 8000000 in
set_option maxRecDepth 10000 in
theorem aAA (C : Tree → Int → Tree × Int) (F : FuncId) (x0 x1 : IV)
    (hC : ∀ (t : Tree) (d : Int), checkP isConP t = 0 → 0 ≤ d → d ≤ 20000 → ACalls Tryz.prog F ([.imm t.iv, .imm (.lit (.int .i64 d)), .obj 1000 0, .obj 1001 0]) [(1000, .cells [.imm x0]), (1001, .cells [.imm x1])] (.imm (.tup [(C t d).1.iv, .lit (.int .i64 (C t d).2)])) [(1000, .cells [.imm x0]), (1001, .cells [.imm x1])] ∧ ((C t d).2 = 0 → (C t d).1 ≠ .nil)) (t : Tree) :
    ∀ (d B : Int), okW t B = true → t.whole = true → 0 ≤ d → d + B ≤ 20000 → 0 ≤ B → t.size ≤ 1000000 → ACalls Tryz.prog 48 [.imm t.iv, .imm (.lit (.int .i64 d)), .func F [] [.obj 1000 0, .obj 1001 0]] [(1000, .cells [.imm x0]), (1001, .cells [.imm x1])] (.imm (.tup [(swalkP C t d).1.iv, .lit (.int .i64 (swalkP C t d).2)])) [(1000, .cells [.imm x0]), (1001, .cells [.imm x1])] ∧ ((swalkP C t d).2 = 0 → (swalkP C t d).1 ≠ .nil) := by
  induction t using Tree.ind with
  | h1 => intro d B _ h; simp [Tree.whole] at h
  | h2 k n a b kids ih =>
    intro d B hv hw hd hs hB0 hsz
    have hl := cC kids hw
    simp only [Tree.size] at hsz
    rw [okW] at hv
    by_cases k160 : k < 160
    · rw [if_pos k160] at hv
      obtain ⟨hc, hne⟩ := hC (.node k n a b kids) d (by simpa using hv) hd (by omega)
      rw [swalkP, if_pos k160]
      refine ⟨?_, hne⟩
      clear hne ih hC
      generalize C (.node k n a b kids) d = R at *
      obtain ⟨R1, R2⟩ := R
      dsimp only at hc ⊢
      refine cD [1000, 1001] Tryz.func48 rfl rfl (nb rfl) rfl rfl ?_
      repeat' (first | refine aG ?_ | (refine aI ?_;  first | refine aD tabOk rfl rfl rfl (nb rfl) rfl ?_ | (refine aM rfl rfl rfl (nb rfl) rfl rfl rfl (fun hq => ?_) (fun hq => ?_) <;> (first | (simp only [sD, sE, sB, sC, sN, sM, sT, sF] at hq; try (exfalso; omega)) | skip)) | refine cG rfl rfl (nb rfl) rfl rfl rfl rfl hc (by repeat' first | exact trivial | refine ⟨rfl, ?_⟩) rfl (by show ([1000, 1001] : List Nat).Nodup; decide) ?_) | (refine aN ?_;  first | refine aH ?_ | refine aQ ?_ | refine aT ?_ | refine aA (b := true) rfl (fun _ => ?_) nTf) | (refine aK ?_;  first | refine aR ?_))
      all_goals first
        | (exfalso; omega)
        | (refine cN (cE (by first | exact .inl rfl | exact .inr rfl) (bD rfl (aC rfl) (aC rfl)) rfl (by repeat' first | exact trivial | refine ⟨rfl, ?_⟩) rfl ?_); rfl)
    · rw [if_neg k160, Bool.and_eq_true, decide_eq_true_eq] at hv
      obtain ⟨⟨hb0, hb1⟩, hks⟩ := hv
      have cb := tO k n a b kids
      rw [swalkP, if_neg k160]
      generalize hdd : d + sbindsP k n = dd at *
      have hind : ∀ j (h : j < kids.length), ACalls Tryz.prog 48 [.imm kids[j].iv, .imm (.lit (.int .i64 dd)), .func F [] [.obj 1000 0, .obj 1001 0]] [(1000, .cells [.imm x0]), (1001, .cells [.imm x1])] (.imm (.tup [(swalkP C kids[j] dd).1.iv, .lit (.int .i64 (swalkP C kids[j] dd).2)])) [(1000, .cells [.imm x0]), (1001, .cells [.imm x1])] ∧ ((swalkP C kids[j] dd).2 = 0 → (swalkP C kids[j] dd).1 ≠ .nil) := fun j h => by
        have hm := List.getElem_mem h
        have hz := dE hm
        exact ih _ hm dd (B - sbindsP k n) (lE hks _ hm) (bS hw hm) (by omega) (by omega) (by omega) (by omega)
      clear ih hks
      refine ⟨?_, fun h => by split at h; exact absurd h (by assumption); rename_i h0; rw [if_neg h0]; simp⟩
      generalize sbindsP k n = sb at *
      generalize hR : (if (swalkPs C kids dd).2 ≠ 0 then (Tree.nil, (swalkPs C kids dd).2) else (.node k n a b (swalkPs C kids dd).1, 0)) = R
      refine cD [1000, 1001] Tryz.func48 rfl rfl (nb rfl) rfl rfl ?_
      repeat' (first | refine aG ?_ | (refine aI ?_;  first | refine aD tabOk rfl rfl rfl (nb rfl) rfl ?_ | (refine aM rfl rfl rfl (nb rfl) rfl rfl rfl (fun hq => ?_) (fun hq => ?_) <;> (first | (simp only [sD, sE, sB, sC, sN, sM, sT, sF] at hq; try (exfalso; omega)) | skip)) | refine bB tabOk rfl rfl (nb rfl) rfl ?_ | refine cJ tabOk rfl rfl rfl (nb rfl) rfl rfl rfl rfl rfl rfl ?_ | refine bJ tabOk rfl rfl rfl rfl rfl rfl rfl rfl rfl rfl rfl ?_) | (refine aN ?_;  first | refine aH ?_ | refine aQ ?_ | refine aY ?_ | refine aU ?_ | refine aA (b := false) rfl nFt (fun _ => ?_)) | (refine aK ?_;  first | refine aX ?_))
      all_goals first
        | (exfalso; omega)
        | skip
      refine dH (dU (h0 := 8) (k0 := 4) 500 25 1 rfl rfl (by simp) rfl rfl) ?_
      refine cI (ι := {j : Nat // j ≤ kids.length ∧ (swalkPs C (kids.take j) dd).2 = 0}) (fun j => S.f ⟨[(33, .imm (.lit (.int .i64 (j.1 : Int)))), (32, .imm (.lit (.int .i64 (kids.length : Int)))), (31, .imm (.sl false kids.length (Tree.ivs kids))), (8, .obj 8 0), (0, .imm (Tree.iv (.node k n a b kids))), (1, .imm (.lit (.int .i64 d))), (2, .func F [] [.obj 1000 0, .obj 1001 0])], (500, .arr 25 1 j.1 (Tree.ivs (swalkPs C (kids.take j.1) dd).1)) :: (8, .cells [.imm (.lit (.int .i64 k)), .imm (.lit (.int .i64 n)), .imm (.lit (.string a)), .imm (.lit (.string b)), .ref 500 j.1]) :: [(1000, .cells [.imm x0]), (1001, .cells [.imm x1])]⟩) (fun j => kids.length - j.1) ⟨0, Nat.zero_le _, by rw [List.take_zero, swalkPs]⟩ (cA (by repeat' first | exact trivial | refine ⟨rfl, ?_⟩) (by repeat' first | exact trivial | refine ⟨rfl, ?_⟩)) ?_
      rintro ⟨j, hj, hok⟩
      dsimp only
      by_cases hlt : j < kids.length
      · have hget := bX kids j hlt
        obtain ⟨hc, hnn⟩ := hind j hlt
        have hll := fG C dd (kids.take j) hok
        rw [List.length_take, Nat.min_eq_left hj] at hll
        have hst := lG C dd hlt hok
        have htk := lH C dd hlt hok
        clear hind hC
        have hil := eG (swalkPs C (kids.take j) dd).1
        rw [hll] at hil
        generalize swalkPs C (kids.take j) dd = Z at *
        obtain ⟨Z1, Z2⟩ := Z
        generalize swalkP C kids[j] dd = W at *
        obtain ⟨W1, W2⟩ := W
        dsimp only at *
        by_cases h0 : W2 = 0
        · subst h0
          have htk := htk rfl
          obtain ⟨pc, hpc⟩ := dT (hnn rfl)
          rw [hpc] at hc
          have hiv : Tree.ivs (swalkPs C (kids.take (j + 1)) dd).1 = Tree.ivs Z1 ++ [.ptr pc 0] := by
            rw [htk, dL, dL, List.map_append, ← hpc]; rfl
          have hok2 : (swalkPs C (kids.take (j + 1)) dd).2 = 0 := by rw [htk]
          generalize Tree.ivs Z1 = ZI at *
          repeat' (first | refine aG ?_ | (refine aI ?_;  first | refine aD tabOk rfl rfl rfl (nb rfl) rfl ?_ | (refine aM rfl rfl rfl (nb rfl) rfl rfl rfl (fun hq => ?_) (fun hq => ?_) <;> (first | (simp only [sD, sE, sB, sC, sN, sM, sT, sF] at hq; try (exfalso; omega)) | skip)) | refine bC tabOk rfl rfl rfl (nb rfl) rfl rfl rfl hget ?_ | refine aE rfl rfl (nb rfl) rfl rfl rfl rfl (cb) ?_ | refine bY (z := dd) rfl rfl rfl (nb rfl) rfl rfl hdd (by omega) (by omega) ?_ | refine cG rfl rfl (nb rfl) rfl rfl rfl rfl hc (by repeat' first | exact trivial | refine ⟨rfl, ?_⟩) rfl (by show ([1000, 1001] : List Nat).Nodup; decide) ?_ | refine dF tabOk rfl rfl rfl (nb rfl) rfl rfl rfl rfl rfl rfl rfl (by first | omega | decide) rfl (by first | omega | (dsimp only; omega)) (by first | omega | (dsimp only; omega)) ?_ | refine bP rfl rfl rfl (nb rfl) rfl rfl (by omega) ?_ | refine cH tabOk rfl rfl rfl (nb rfl) rfl rfl rfl rfl rfl rfl rfl rfl rfl ?_ | refine bO tabOk rfl rfl rfl (nb rfl) rfl rfl rfl rfl ?_ | refine bJ tabOk rfl rfl rfl rfl rfl rfl rfl rfl rfl rfl rfl ?_ | refine bG tabOk rfl rfl rfl (nb rfl) rfl rfl rfl rfl (by first | assumption | omega) ?_) | (refine aN ?_;  first | refine aH ?_ | refine aQ ?_ | refine bH ?_ | refine aY ?_ | refine aU ?_ | refine aA (b := true) rfl (fun _ => ?_) nTf | refine aA (b := false) rfl nFt (fun _ => ?_)) | (refine aK ?_;  first | refine aX ?_) | (refine bA ?_;  first | refine bU ?_))
          all_goals first
            | exact absurd rfl (by assumption)
            | (exfalso; omega)
            | (refine ⟨⟨j + 1, hlt, hok2⟩, (by show kids.length - (j + 1) < kids.length - j; omega), ?_⟩; dsimp only; rw [hiv]; exact (cA (by repeat' first | exact trivial | refine ⟨rfl, ?_⟩) (by repeat' first | exact trivial | refine ⟨rfl, ?_⟩)))
        · have hs2 := hst h0
          rw [hs2, if_pos h0] at hR
          subst hR
          repeat' (first | refine aG ?_ | (refine aI ?_;  first | refine aD tabOk rfl rfl rfl (nb rfl) rfl ?_ | (refine aM rfl rfl rfl (nb rfl) rfl rfl rfl (fun hq => ?_) (fun hq => ?_) <;> (first | (simp only [sD, sE, sB, sC, sN, sM, sT, sF] at hq; try (exfalso; omega)) | skip)) | refine bC tabOk rfl rfl rfl (nb rfl) rfl rfl rfl hget ?_ | refine aE rfl rfl (nb rfl) rfl rfl rfl rfl (cb) ?_ | refine bY (z := dd) rfl rfl rfl (nb rfl) rfl rfl hdd (by omega) (by omega) ?_ | refine cG rfl rfl (nb rfl) rfl rfl rfl rfl hc (by repeat' first | exact trivial | refine ⟨rfl, ?_⟩) rfl (by show ([1000, 1001] : List Nat).Nodup; decide) ?_ | refine bG tabOk rfl rfl rfl (nb rfl) rfl rfl rfl rfl (by first | assumption | omega) ?_) | (refine aN ?_;  first | refine aH ?_ | refine aQ ?_ | refine aY ?_ | refine aT ?_ | refine aU ?_ | refine aA (b := true) rfl (fun _ => ?_) nTf) | (refine aK ?_;  first | refine aX ?_ | refine aR ?_) | (refine bA ?_;  first | refine bF ?_))
          all_goals first
            | exact absurd (by assumption) h0
            | (exfalso; omega)
            | (refine cN (cE (by first | exact .inl rfl | exact .inr rfl) (bD rfl (aC rfl) (aC rfl)) rfl (by repeat' first | exact trivial | refine ⟨rfl, ?_⟩) rfl ?_); rfl)
      · have ej : j = kids.length := by omega
        subst ej
        rw [List.take_length] at hok ⊢
        rw [if_neg (by simpa using hok)] at hR
        subst hR
        have hll := fG C dd kids hok
        clear hind hC
        generalize swalkPs C kids dd = Z at *
        obtain ⟨Z1, Z2⟩ := Z
        dsimp only at *
        have hiv : (Tree.node k n a b Z1).iv = .ptr [.lit (.int .i64 k), .lit (.int .i64 n), .lit (.string a), .lit (.string b), .sl false kids.length (Tree.ivs Z1)] 0 := by rw [Tree.iv, hll]
        rw [hiv]
        generalize Tree.ivs Z1 = ZI at *
        repeat' (first | refine aG ?_ | (refine aI ?_;  first | refine aD tabOk rfl rfl rfl (nb rfl) rfl ?_ | (refine aM rfl rfl rfl (nb rfl) rfl rfl rfl (fun hq => ?_) (fun hq => ?_) <;> (first | (simp only [sD, sE, sB, sC, sN, sM, sT, sF] at hq; try (exfalso; omega)) | skip))) | (refine aN ?_;  first | refine aH ?_ | refine aQ ?_ | refine aT ?_ | refine bW ?_ | refine aA (b := false) rfl nFt (fun _ => ?_)) | (refine aK ?_;  first | refine aX ?_ | refine bM ?_) | (refine bA ?_;  first | refine bI ?_))
        all_goals first
          | (exfalso; omega)
          | (refine gV ((Imp.of_le (σ' := S.f ⟨[(6, .obj 8 0), (7, .imm (.lit (.int .i64 0)))], (500, .arr 25 1 kids.length ZI) :: (8, .cells [.imm (.lit (.int .i64 k)), .imm (.lit (.int .i64 n)), .imm (.lit (.string a)), .imm (.lit (.string b)), .ref 500 kids.length]) :: [(1000, .cells [.imm x0]), (1001, .cells [.imm x1])]⟩) (cA (by repeat' first | exact trivial | refine ⟨rfl, ?_⟩) (by repeat' first | exact trivial | refine ⟨rfl, ?_⟩))).trans ((dC (g := 500) rfl (by repeat' first | exact trivial | exact fun _ => rfl | refine ⟨?_, ?_⟩) (by repeat' first | exact trivial | exact fun _ => rfl | refine ⟨?_, ?_⟩)).trans (dI (g := 8) rfl rfl))) ?_
             refine cE (by first | exact .inl rfl | exact .inr rfl) (bD rfl (aC rfl) (aC rfl)) rfl (by repeat' first | exact trivial | refine ⟨rfl, ?_⟩) rfl rfl)
end Go.Proofs.YtdajnmffoopcaaaGreatDoor.Ab
namespace Go.Proofs.YtdajnmffoopcaaaGreatDoor.Ab
set_option linter.unusedVariables false
set_option linter.unusedSimpArgs false
attribute [local irreducible] AWP AOps AExit AThen ABlock ANoGoto FeetOk
/-- What sem.Subst makes of a constructor. -/
def ssubC (i : Int) (by_ : Tree) (t : Tree) (d : Int) : Tree × Int :=
  if i > 65536 then (t, 0) else if (shiftP by_ d 0).2 ≠ 0 then (.nil, 3) else substP t (i + d) (shiftP by_ d 0).1
set_option maxHeartbeats 8000000 in
set_option maxRecDepth 10000 in
theorem aBP (i : Int) (by_ : Tree) (pb : List IV) (hpb : by_.iv = .ptr pb 0) (hbs : by_.size ≤ 1000000) (t : Tree) (d : Int) (hi : 0 ≤ i) (ht : checkP isConP t = 0) (hd0 : 0 ≤ d) (hd : d ≤ 20000) :
    ACalls Tryz.prog 49 [.imm t.iv, .imm (.lit (.int .i64 d)), .obj 1000 0, .obj 1001 0] [(1000, .cells [.imm (.lit (.int .i64 i))]), (1001, .cells [.imm (.ptr pb 0)])] (.imm (.tup [(ssubC i by_ t d).1.iv, .lit (.int .i64 (ssubC i by_ t d).2)])) [(1000, .cells [.imm (.lit (.int .i64 i))]), (1001, .cells [.imm (.ptr pb 0)])] := by
  obtain ⟨hw, hz, hf⟩ := bK ht
  obtain ⟨Q, hQ⟩ : ∃ Q, ssubC i by_ t d = Q := ⟨_, rfl⟩
  rw [hQ]
  unfold ssubC at hQ
  by_cases h1 : i > 65536
  · rw [if_pos h1] at hQ
    subst hQ
    refine cD [1000, 1001] Tryz.func49 rfl rfl (nb rfl) rfl rfl ?_
    repeat' (first | refine aG ?_ | (refine aI ?_;  first | refine aD tabOk rfl rfl rfl (nb rfl) rfl ?_ | (refine aM rfl rfl rfl (nb rfl) rfl rfl rfl (fun hq => ?_) (fun hq => ?_) <;> (first | (simp only [sD, sE, sB, sC, sN, sM, sT, sF] at hq; try (exfalso; omega)) | skip)) | refine bO tabOk rfl rfl rfl (nb rfl) rfl rfl rfl rfl ?_) | (refine aN ?_;  first | refine aH ?_ | refine aQ ?_ | refine aT ?_ | refine aA (b := true) rfl (fun _ => ?_) nTf) | (refine aK ?_;  first | refine aR ?_))
    all_goals first
      | (exfalso; omega)
      | (refine cN (cE (by first | exact .inl rfl | exact .inr rfl) (bD rfl (aC rfl) (aC rfl)) rfl (by repeat' first | exact trivial | refine ⟨rfl, ?_⟩) rfl ?_); rfl)
  · rw [if_neg h1] at hQ
    have c1 := nG by_ d 0 hbs
    rw [hpb] at c1
    have hfn := fF by_ d 0
    by_cases h2 : (shiftP by_ d 0).2 = 0
    · rw [if_neg (by simpa using h2)] at hQ
      rw [h2] at c1
      obtain ⟨g1, g2, _⟩ := hfn h2
      have c2 := aBM t (i + d) (shiftP by_ d 0).1 (by omega) (by omega)
      rw [hQ] at c2
      clear hQ hfn h2 hpb g1 g2
      generalize (shiftP by_ d 0).1 = Z at *
      obtain ⟨Q1, Q2⟩ := Q
      dsimp only at *
      refine cD [1000, 1001] Tryz.func49 rfl rfl (nb rfl) rfl rfl ?_
      repeat' (first | refine aG ?_ | (refine aI ?_;  first | refine aD tabOk rfl rfl rfl (nb rfl) rfl ?_ | (refine aM rfl rfl rfl (nb rfl) rfl rfl rfl (fun hq => ?_) (fun hq => ?_) <;> (first | (simp only [sD, sE, sB, sC, sN, sM, sT, sF] at hq; try (exfalso; omega)) | skip)) | refine aE rfl rfl (nb rfl) rfl rfl rfl rfl (c1) ?_ | refine aE rfl rfl (nb rfl) rfl rfl rfl rfl (c2) ?_ | refine bY (z := i + d) rfl rfl rfl (nb rfl) rfl rfl rfl (by omega) (by omega) ?_ | refine bO tabOk rfl rfl rfl (nb rfl) rfl rfl rfl rfl ?_) | (refine aN ?_;  first | refine aH ?_ | refine aQ ?_ | refine aT ?_ | refine aU ?_ | refine aA (b := false) rfl nFt (fun _ => ?_)) | (refine aK ?_;  first | refine aX ?_))
      all_goals first
        | exact absurd rfl (by assumption)
        | (exfalso; omega)
        | (refine cN (cE (by first | exact .inl rfl | exact .inr rfl) (bD rfl (aC rfl) (aC rfl)) rfl (by repeat' first | exact trivial | refine ⟨rfl, ?_⟩) rfl ?_); rfl)
    · rw [if_pos h2] at hQ
      subst hQ
      clear hfn hpb
      generalize (shiftP by_ d 0).1 = Z at *
      generalize (shiftP by_ d 0).2 = Z2 at *
      refine cD [1000, 1001] Tryz.func49 rfl rfl (nb rfl) rfl rfl ?_
      repeat' (first | refine aG ?_ | (refine aI ?_;  first | refine aD tabOk rfl rfl rfl (nb rfl) rfl ?_ | (refine aM rfl rfl rfl (nb rfl) rfl rfl rfl (fun hq => ?_) (fun hq => ?_) <;> (first | (simp only [sD, sE, sB, sC, sN, sM, sT, sF] at hq; try (exfalso; omega)) | skip)) | refine aE rfl rfl (nb rfl) rfl rfl rfl rfl (c1) ?_ | refine bO tabOk rfl rfl rfl (nb rfl) rfl rfl rfl rfl ?_) | (refine aN ?_;  first | refine aH ?_ | refine aQ ?_ | refine aT ?_ | refine aU ?_ | refine aA (b := true) rfl (fun _ => ?_) nTf | refine aA (b := false) rfl nFt (fun _ => ?_)) | (refine aK ?_;  first | refine aX ?_ | refine aR ?_))
      all_goals first
        | exact absurd (by assumption) h2
        | (exfalso; omega)
        | (refine cN (cE (by first | exact .inl rfl | exact .inr rfl) (bD rfl (aC rfl) (aC rfl)) rfl (by repeat' first | exact trivial | refine ⟨rfl, ?_⟩) rfl ?_); rfl)
theorem aAB (i : Int) (by_ : Tree) (t : Tree) (d : Int) (ht : checkP isConP t = 0) (h : (ssubC i by_ t d).2 = 0) : (ssubC i by_ t d).1 ≠ .nil := by
  unfold ssubC at h ⊢
  split
  · exact dG (bK ht).1
  · rename_i h1
    rw [if_neg h1] at h
    split
    · rename_i h2; rw [if_pos h2] at h; cases h
    · rename_i h2
      rw [if_neg h2] at h
      exact dG (iZ _ _ _ h).1
/-- What sized tells. -/
def sizedP (t : Tree) (e : Int) : Tree × Int := if e ≠ 0 then (.nil, e) else if (wholeP t 65536).1 ≠ 0 then (.nil, (wholeP t 65536).1) else (t, 0)
set_option maxHeartbeats 4000000 in
set_option maxRecDepth 10000 in
theorem aBQ (t : Tree) (e : Int) (hs : t.size ≤ 1000000) : ACalls Tryz.prog 47 [.imm t.iv, .imm (.lit (.int .i64 e))] [] (.imm (.tup [(sizedP t e).1.iv, .lit (.int .i64 (sizedP t e).2)])) [] := by
  have c1 := oJ t 65536 hs (by omega) (by omega)
  unfold sizedP
  generalize wholeP t 65536 = W at *
  obtain ⟨W1, W2⟩ := W
  dsimp only at *
  by_cases h0 : e = 0
  · subst h0
    rw [if_neg (by simp)]
    by_cases h1 : W1 = 0
    · subst h1
      rw [if_neg (by simp)]
      refine aJ Tryz.func47 rfl rfl (nb rfl) rfl ?_
      repeat' (first | refine aG ?_ | (refine aI ?_;  first | refine aD tabOk rfl rfl rfl (nb rfl) rfl ?_ | (refine aM rfl rfl rfl (nb rfl) rfl rfl rfl (fun hq => ?_) (fun hq => ?_) <;> (first | (simp only [sD, sE, sB, sC, sN, sM, sT, sF] at hq; try (exfalso; omega)) | skip)) | refine cP 1000 tabOk rfl rfl rfl (nb rfl) rfl rfl rfl rfl rfl rfl ?_ | refine cG rfl rfl (nb rfl) rfl rfl rfl rfl (c1) (by exact ⟨rfl, trivial⟩) rfl (by simp) ?_ | refine bJ tabOk rfl rfl rfl rfl rfl rfl rfl rfl rfl rfl rfl ?_) | (refine aN ?_;  first | refine aH ?_ | refine aQ ?_ | refine bH ?_ | refine aT ?_ | refine aU ?_ | refine aA (b := true) rfl (fun _ => ?_) nTf | refine aA (b := false) rfl nFt (fun _ => ?_)) | (refine aK ?_;  first | refine aX ?_))
      all_goals first
        | exact absurd rfl (by assumption)
        | (refine aV (by first | exact .inl rfl | exact .inr rfl) (bD rfl (aC rfl) (aC rfl)) rfl ?_; rfl)
    · rw [if_pos h1]
      refine aJ Tryz.func47 rfl rfl (nb rfl) rfl ?_
      repeat' (first | refine aG ?_ | (refine aI ?_;  first | refine aD tabOk rfl rfl rfl (nb rfl) rfl ?_ | (refine aM rfl rfl rfl (nb rfl) rfl rfl rfl (fun hq => ?_) (fun hq => ?_) <;> (first | (simp only [sD, sE, sB, sC, sN, sM, sT, sF] at hq; try (exfalso; omega)) | skip)) | refine cP 1000 tabOk rfl rfl rfl (nb rfl) rfl rfl rfl rfl rfl rfl ?_ | refine cG rfl rfl (nb rfl) rfl rfl rfl rfl (c1) (by exact ⟨rfl, trivial⟩) rfl (by simp) ?_ | refine bJ tabOk rfl rfl rfl rfl rfl rfl rfl rfl rfl rfl rfl ?_) | (refine aN ?_;  first | refine aH ?_ | refine aQ ?_ | refine bH ?_ | refine aT ?_ | refine aA (b := true) rfl (fun _ => ?_) nTf) | (refine aK ?_;  first | refine aX ?_ | refine aR ?_))
      all_goals first
        | exact absurd (by assumption) h1
        | exact absurd rfl (by assumption)
        | (refine aV (by first | exact .inl rfl | exact .inr rfl) (bD rfl (aC rfl) (aC rfl)) rfl ?_; rfl)
  · rw [if_pos h0]
    refine aJ Tryz.func47 rfl rfl (nb rfl) rfl ?_
    repeat' (first | refine aG ?_ | (refine aI ?_;  first | refine aD tabOk rfl rfl rfl (nb rfl) rfl ?_ | (refine aM rfl rfl rfl (nb rfl) rfl rfl rfl (fun hq => ?_) (fun hq => ?_) <;> (first | (simp only [sD, sE, sB, sC, sN, sM, sT, sF] at hq; try (exfalso; omega)) | skip)) | refine cP 1000 tabOk rfl rfl rfl (nb rfl) rfl rfl rfl rfl rfl rfl ?_ | refine bJ tabOk rfl rfl rfl rfl rfl rfl rfl rfl rfl rfl rfl ?_) | (refine aN ?_;  first | refine aH ?_ | refine aQ ?_ | refine aT ?_ | refine aU ?_ | refine aA (b := true) rfl (fun _ => ?_) nTf | refine aA (b := false) rfl nFt (fun _ => ?_)) | (refine aK ?_;  first | refine aX ?_ | refine aR ?_))
    all_goals first
      | exact absurd (by assumption) h0
      | (refine aV (by first | exact .inl rfl | exact .inr rfl) (bD rfl (aC rfl) (aC rfl)) rfl ?_; rfl)
/-- What sem.Subst tells. -/
def ssubstP (t : Tree) (i : Int) (by_ : Tree) : Tree × Int :=
  if checkP sformP t ≠ 0 then (.nil, checkP sformP t)
  else if checkP isConP by_ ≠ 0 then (.nil, checkP isConP by_)
  else if i < 0 then (.nil, 2)
  else sizedP (swalkP (ssubC i by_) t 0).1 (swalkP (ssubC i by_) t 0).2
set_option maxHeartbeats 16000000 in
set_option maxRecDepth 10000 in
theorem aAC (t : Tree) (i : Int) (by_ : Tree) (hs : t.size ≤ 1000000) (hbs : by_.size ≤ 1000000) (hrs : (swalkP (ssubC i by_) t 0).1.size ≤ 1000000) :
    ACalls Tryz.prog 20 [.imm t.iv, .imm (.lit (.int .i64 i)), .imm by_.iv] [] (.imm (.tup [(ssubstP t i by_).1.iv, .lit (.int .i64 (ssubstP t i by_).2)])) [] := by
  have c1 := fA t hs
  have c2 := eM by_ hbs
  obtain ⟨Q, hQ⟩ : ∃ Q, ssubstP t i by_ = Q := ⟨_, rfl⟩
  rw [hQ]
  unfold ssubstP at hQ
  by_cases hc : checkP sformP t = 0
  · rw [if_neg (by simpa using hc)] at hQ
    rw [hc] at c1
    by_cases hb : checkP isConP by_ = 0
    · rw [if_neg (by simpa using hb)] at hQ
      rw [hb] at c2
      obtain ⟨bw, bz, _⟩ := bK hb
      obtain ⟨pb, hpb⟩ := dT (dG bw)
      by_cases hi : i < 0
      · rw [if_pos hi] at hQ
        subst hQ
        rw [hpb] at c2 ⊢
        refine aJ Tryz.func20 rfl rfl (nb rfl) rfl ?_
        repeat' (first | refine aG ?_ | (refine aI ?_;  first | refine aD tabOk rfl rfl rfl (nb rfl) rfl ?_ | (refine aM rfl rfl rfl (nb rfl) rfl rfl rfl (fun hq => ?_) (fun hq => ?_) <;> (first | (simp only [sD, sE, sB, sC, sN, sM, sT, sF] at hq; try (exfalso; omega)) | skip)) | refine aE rfl rfl (nb rfl) rfl rfl rfl rfl (c1) ?_ | refine aE rfl rfl (nb rfl) rfl rfl rfl rfl (c2) ?_ | refine cQ 1000 (d := 4) rfl rfl rfl (nb rfl) rfl rfl rfl rfl rfl rfl rfl ?_ | refine cQ 1001 (d := 5) rfl rfl rfl (nb rfl) rfl rfl rfl rfl rfl rfl rfl ?_ | refine bO tabOk rfl rfl rfl (nb rfl) rfl rfl rfl rfl ?_) | (refine aN ?_;  first | refine aH ?_ | refine aQ ?_ | refine aT ?_ | refine aU ?_ | refine aA (b := true) rfl (fun _ => ?_) nTf | refine aA (b := false) rfl nFt (fun _ => ?_)) | (refine aK ?_;  first | refine aX ?_ | refine aR ?_))
        all_goals first
          | exact absurd rfl (by assumption)
          | (exfalso; omega)
          | (refine aV (by first | exact .inl rfl | exact .inr rfl) (bD rfl (aC rfl) (aC rfl)) rfl ?_; rfl)
      · rw [if_neg hi] at hQ
        obtain ⟨hw, hz, hf⟩ := bK hc
        have cw := (aAA (ssubC i by_) 49 (.lit (.int .i64 i)) (.ptr pb 0) (fun t' d h1 h2 h3 => ⟨aBP i by_ pb hpb hbs t' d (by omega) h1 h2 h3, aAB i by_ t' d h1⟩) t 0 16384 (oL hf) hw (Int.le_refl _) (by omega) (by omega) hs).1
        have c3 := aBQ (swalkP (ssubC i by_) t 0).1 (swalkP (ssubC i by_) t 0).2 hrs
        rw [hQ] at c3
        rw [hpb] at c2 ⊢
        clear hc hb hw hf hQ bw hrs
        generalize swalkP (ssubC i by_) t 0 = W at *
        obtain ⟨W1, W2⟩ := W
        obtain ⟨Q1, Q2⟩ := Q
        dsimp only at *
        refine aJ Tryz.func20 rfl rfl (nb rfl) rfl ?_
        repeat' (first | refine aG ?_ | (refine aI ?_;  first | refine aD tabOk rfl rfl rfl (nb rfl) rfl ?_ | (refine aM rfl rfl rfl (nb rfl) rfl rfl rfl (fun hq => ?_) (fun hq => ?_) <;> (first | (simp only [sD, sE, sB, sC, sN, sM, sT, sF] at hq; try (exfalso; omega)) | skip)) | refine aE rfl rfl (nb rfl) rfl rfl rfl rfl (c1) ?_ | refine aE rfl rfl (nb rfl) rfl rfl rfl rfl (c2) ?_ | refine aE rfl rfl (nb rfl) rfl rfl rfl rfl (c3) ?_ | refine cQ 1000 (d := 4) rfl rfl rfl (nb rfl) rfl rfl rfl rfl rfl rfl rfl ?_ | refine cQ 1001 (d := 5) rfl rfl rfl (nb rfl) rfl rfl rfl rfl rfl rfl rfl ?_ | refine cG rfl rfl (nb rfl) rfl rfl rfl rfl cw (by repeat' first | exact trivial | refine ⟨rfl, ?_⟩) rfl (by show ([1000, 1001] : List Nat).Nodup; decide) ?_ | refine bO tabOk rfl rfl rfl (nb rfl) rfl rfl rfl rfl ?_) | (refine aN ?_;  first | refine aH ?_ | refine aQ ?_ | refine aT ?_ | refine aU ?_ | refine aA (b := false) rfl nFt (fun _ => ?_)) | (refine aK ?_;  first | refine aX ?_))
        all_goals first
          | exact absurd rfl (by assumption)
          | (exfalso; omega)
          | (refine aV (by first | exact .inl rfl | exact .inr rfl) (bD rfl (aC rfl) (aC rfl)) rfl ?_; rfl)
    · rw [if_pos hb] at hQ
      subst hQ
      generalize checkP isConP by_ = C at *
      obtain ⟨y, hy, hy1⟩ : ∃ y, by_.iv = y ∧ (y = .lit (.pointer none) ∨ ∃ p, y = .ptr p 0) := by
        cases by_ with
        | nil => exact ⟨_, rfl, .inl rfl⟩
        | node k n a b ks => exact ⟨_, rfl, .inr ⟨_, by rw [Tree.iv]⟩⟩
      rw [hy] at c2 ⊢
      clear hrs
      rcases hy1 with rfl | ⟨p, rfl⟩ <;>
      (refine aJ Tryz.func20 rfl rfl (nb rfl) rfl ?_
       repeat' (first | refine aG ?_ | (refine aI ?_;  first | refine aD tabOk rfl rfl rfl (nb rfl) rfl ?_ | (refine aM rfl rfl rfl (nb rfl) rfl rfl rfl (fun hq => ?_) (fun hq => ?_) <;> (first | (simp only [sD, sE, sB, sC, sN, sM, sT, sF] at hq; try (exfalso; omega)) | skip)) | refine aE rfl rfl (nb rfl) rfl rfl rfl rfl (c1) ?_ | refine aE rfl rfl (nb rfl) rfl rfl rfl rfl (c2) ?_ | refine cQ 1000 (d := 4) rfl rfl rfl (nb rfl) rfl rfl rfl rfl rfl rfl rfl ?_ | refine cQ 1001 (d := 5) rfl rfl rfl (nb rfl) rfl rfl rfl rfl rfl rfl rfl ?_ | refine bO tabOk rfl rfl rfl (nb rfl) rfl rfl rfl rfl ?_) | (refine aN ?_;  first | refine aH ?_ | refine aQ ?_ | refine aT ?_ | refine aU ?_ | refine aA (b := true) rfl (fun _ => ?_) nTf | refine aA (b := false) rfl nFt (fun _ => ?_)) | (refine aK ?_;  first | refine aX ?_ | refine aR ?_))
       all_goals first
         | exact absurd rfl (by assumption)
         | exact absurd (by assumption) hb
         | (exfalso; omega)
         | (refine aV (by first | exact .inl rfl | exact .inr rfl) (bD rfl (aC rfl) (aC rfl)) rfl ?_; rfl))
  · rw [if_pos hc] at hQ
    subst hQ
    generalize checkP sformP t = C at *
    obtain ⟨y, hy, hy1⟩ : ∃ y, by_.iv = y ∧ (y = .lit (.pointer none) ∨ ∃ p, y = .ptr p 0) := by
      cases by_ with
      | nil => exact ⟨_, rfl, .inl rfl⟩
      | node k n a b ks => exact ⟨_, rfl, .inr ⟨_, by rw [Tree.iv]⟩⟩
    rw [hy]
    clear hrs
    rcases hy1 with rfl | ⟨p, rfl⟩ <;>
    (refine aJ Tryz.func20 rfl rfl (nb rfl) rfl ?_
     repeat' (first | refine aG ?_ | (refine aI ?_;  first | refine aD tabOk rfl rfl rfl (nb rfl) rfl ?_ | (refine aM rfl rfl rfl (nb rfl) rfl rfl rfl (fun hq => ?_) (fun hq => ?_) <;> (first | (simp only [sD, sE, sB, sC, sN, sM, sT, sF] at hq; try (exfalso; omega)) | skip)) | refine aE rfl rfl (nb rfl) rfl rfl rfl rfl (c1) ?_ | refine cQ 1000 (d := 4) rfl rfl rfl (nb rfl) rfl rfl rfl rfl rfl rfl rfl ?_ | refine cQ 1001 (d := 5) rfl rfl rfl (nb rfl) rfl rfl rfl rfl rfl rfl rfl ?_) | (refine aN ?_;  first | refine aH ?_ | refine aQ ?_ | refine aT ?_ | refine aA (b := true) rfl (fun _ => ?_) nTf) | (refine aK ?_;  first | refine aR ?_))
     all_goals first
       | exact absurd rfl (by assumption)
       | exact absurd (by assumption) hc
       | (exfalso; omega)
       | (refine aV (by first | exact .inl rfl | exact .inr rfl) (bD rfl (aC rfl) (aC rfl)) rfl ?_; rfl))
/-- Are a signature's types small? -/
def smallC (t : Tree) (_ : Int) : Tree × Int := if (t.size : Int) > 512 then (.nil, 3) else (t, 0)
def ssmallP (t : Tree) : Int := if checkP sformP t ≠ 0 then checkP sformP t else (swalkP smallC t 0).2
set_option maxHeartbeats 4000000 in
set_option maxRecDepth 10000 in
theorem aAD (t : Tree) (d : Int) (ht : checkP isConP t = 0) : ACalls Tryz.prog 51 [.imm t.iv, .imm (.lit (.int .i64 d))] [] (.imm (.tup [(smallC t d).1.iv, .lit (.int .i64 (smallC t d).2)])) [] := by
  obtain ⟨hw, hz, hf⟩ := bK ht
  have c1 := aAv t (by omega) (.inr hw)
  unfold smallC
  by_cases h : (t.size : Int) > 512
  · rw [if_pos h]
    refine aJ Tryz.func51 rfl rfl (nb rfl) rfl ?_
    repeat' (first | refine aG ?_ | (refine aI ?_;  first | refine aD tabOk rfl rfl rfl (nb rfl) rfl ?_ | (refine aM rfl rfl rfl (nb rfl) rfl rfl rfl (fun hq => ?_) (fun hq => ?_) <;> (first | (simp only [sD, sE, sB, sC, sN, sM, sT, sF] at hq; try (exfalso; omega)) | skip)) | refine aE rfl rfl (nb rfl) rfl rfl rfl rfl (c1) ?_) | (refine aN ?_;  first | refine aH ?_ | refine aQ ?_ | refine aT ?_ | refine aA (b := true) rfl (fun _ => ?_) nTf) | (refine aK ?_;  first | refine aR ?_))
    all_goals first
      | (exfalso; omega)
      | (refine aV (by first | exact .inl rfl | exact .inr rfl) (bD rfl (aC rfl) (aC rfl)) rfl ?_; rfl)
  · rw [if_neg h]
    refine aJ Tryz.func51 rfl rfl (nb rfl) rfl ?_
    repeat' (first | refine aG ?_ | (refine aI ?_;  first | refine aD tabOk rfl rfl rfl (nb rfl) rfl ?_ | (refine aM rfl rfl rfl (nb rfl) rfl rfl rfl (fun hq => ?_) (fun hq => ?_) <;> (first | (simp only [sD, sE, sB, sC, sN, sM, sT, sF] at hq; try (exfalso; omega)) | skip)) | refine aE rfl rfl (nb rfl) rfl rfl rfl rfl (c1) ?_) | (refine aN ?_;  first | refine aH ?_ | refine aQ ?_ | refine aT ?_ | refine aU ?_ | refine aA (b := false) rfl nFt (fun _ => ?_)) | (refine aK ?_;  first | refine aX ?_))
    all_goals first
      | (exfalso; omega)
      | (refine aV (by first | exact .inl rfl | exact .inr rfl) (bD rfl (aC rfl) (aC rfl)) rfl ?_; rfl)
set_option maxHeartbeats 8000000 in
set_option maxRecDepth 10000 in
theorem aBR (t : Tree) (hs : t.size ≤ 1000000) : ACalls Tryz.prog 21 [.imm t.iv] [] (.imm (.lit (.int .i64 (ssmallP t)))) [] := by
  have c1 := fA t hs
  unfold ssmallP
  by_cases hc : checkP sformP t = 0
  · rw [if_neg (by simpa using hc)]
    rw [hc] at c1
    obtain ⟨hw, hz, hf⟩ := bK hc
    have cw := (aAz smallC 51 (fun t' d h1 _ _ => ⟨aAD t' d h1, fun h => by unfold smallC at h ⊢; split at h; cases h; rename_i h2; rw [if_neg h2]; exact dG (bK h1).1⟩) t 0 16384 (oL hf) hw (Int.le_refl _) (by omega) (by omega) hs).1
    generalize swalkP smallC t 0 = W at *
    obtain ⟨W1, W2⟩ := W
    dsimp only at *
    refine aJ Tryz.func21 rfl rfl (nb rfl) rfl ?_
    repeat' (first | refine aG ?_ | (refine aI ?_;  first | refine aD tabOk rfl rfl rfl (nb rfl) rfl ?_ | (refine aM rfl rfl rfl (nb rfl) rfl rfl rfl (fun hq => ?_) (fun hq => ?_) <;> (first | (simp only [sD, sE, sB, sC, sN, sM, sT, sF] at hq; try (exfalso; omega)) | skip)) | refine aE rfl rfl (nb rfl) rfl rfl rfl rfl (c1) ?_ | refine aE rfl rfl (nb rfl) rfl rfl rfl rfl (cw) ?_) | (refine aN ?_;  first | refine aH ?_ | refine aQ ?_ | refine aT ?_ | refine aU ?_ | refine aA (b := false) rfl nFt (fun _ => ?_)) | (refine aK ?_;  first | refine aX ?_))
    all_goals first
      | exact absurd rfl (by assumption)
      | (refine aV (by first | exact .inl rfl | exact .inr rfl) (aZ rfl (aC rfl)) rfl ?_; rfl)
  · rw [if_pos hc]
    generalize checkP sformP t = C at *
    refine aJ Tryz.func21 rfl rfl (nb rfl) rfl ?_
    repeat' (first | refine aG ?_ | (refine aI ?_;  first | refine aD tabOk rfl rfl rfl (nb rfl) rfl ?_ | (refine aM rfl rfl rfl (nb rfl) rfl rfl rfl (fun hq => ?_) (fun hq => ?_) <;> (first | (simp only [sD, sE, sB, sC, sN, sM, sT, sF] at hq; try (exfalso; omega)) | skip)) | refine aE rfl rfl (nb rfl) rfl rfl rfl rfl (c1) ?_) | (refine aN ?_;  first | refine aH ?_ | refine aQ ?_ | refine aT ?_ | refine aA (b := true) rfl (fun _ => ?_) nTf) | (refine aK ?_;  first | refine aR ?_))
    all_goals first
      | exact absurd (by assumption) hc
      | (refine aV (by first | exact .inl rfl | exact .inr rfl) (aZ rfl (aC rfl)) rfl ?_; rfl)
end Go.Proofs.YtdajnmffoopcaaaGreatDoor.Ab
