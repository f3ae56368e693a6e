/- Words, walks and laws under the claim's statement: what it uses of them. No condition of its own. -/
import Derived.Test.YtocaohipfiapkaaGreatDoorTKAb1
namespace Go.Proofs.YtocaohipfiapkaaGreatDoor.Ab
set_option linter.unusedVariables false
set_option linter.unusedSimpArgs false
inductive Tree where
  | nil
  | node (k n : Int) (name mark : ByteArray) (kids : List Tree)
mutual
def Tree.iv : Tree → IV
  | .nil => .lit (.pointer none)
  | .node k n a b kids => .ptr [.lit (.int .i64 k), .lit (.int .i64 n), .lit (.string a), .lit (.string b), .sl false kids.length (Tree.ivs kids)] 0
def Tree.ivs : List Tree → List IV
  | [] => []
  | t :: ts => Tree.iv t :: Tree.ivs ts
end
theorem dC : ∀ l : List Tree, Tree.ivs l = l.map Tree.iv
  | [] => rfl
  | t :: ts => by simp [Tree.ivs, dC ts]
theorem dG (l : List Tree) : (Tree.ivs l).length = l.length := by simp [dC]
theorem cC (l : List Tree) (j : Nat) (h : j < l.length) : (Tree.ivs l)[j * 1]? = some (l[j].iv) := by simp [dC, h]
theorem Tree.ind {motive : Tree → Prop} (h1 : motive .nil) (h2 : ∀ k n a b kids, (∀ t ∈ kids, motive t) → motive (.node k n a b kids)) (t : Tree) : motive t :=
  Tree.rec (motive_1 := motive) (motive_2 := fun ts => ∀ t ∈ ts, motive t) h1 (fun k n a b kids ih => h2 k n a b kids ih) (fun t h => by cases h) (fun t ts h1 h2 t' h => by
    rcases List.mem_cons.1 h with rfl | h
    · exact h1
    · exact h2 t' h) t
mutual
def Tree.whole : Tree → Bool
  | .nil => false
  | .node _ _ _ _ kids => Tree.wholes kids
def Tree.wholes : List Tree → Bool
  | [] => true
  | t :: ts => t.whole && Tree.wholes ts
end
mutual
def Tree.size : Tree → Nat
  | .nil => 0
  | .node _ _ _ _ kids => 1 + Tree.sizes kids
def Tree.sizes : List Tree → Nat
  | [] => 0
  | t :: ts => t.size + Tree.sizes ts
end
mutual
/-- Nodes and bytes. -/
def Tree.wt : Tree → Nat
  | .nil => 1
  | .node _ _ a b kids => 1 + a.size + b.size + Tree.wts kids
def Tree.wts : List Tree → Nat
  | [] => 0
  | t :: ts => t.wt + Tree.wts ts
end
theorem bF {t : Tree} : ∀ {l : List Tree}, Tree.wholes l = true → t ∈ l → t.whole = true
  | x :: xs, h, hm => by
    simp only [Tree.wholes, Bool.and_eq_true] at h
    rcases List.mem_cons.1 hm with rfl | hm
    · exact h.1
    · exact bF h.2 hm
theorem cU {t : Tree} : ∀ {l : List Tree}, t ∈ l → t.size ≤ Tree.sizes l
  | x :: xs, hm => by
    simp only [Tree.sizes]
    rcases List.mem_cons.1 hm with rfl | hm
    · omega
    · have := cU hm; omega
theorem bN {k n : Int} {a b : ByteArray} {kids : List Tree} {t : Tree} (h : t ∈ kids) : t.size < (Tree.node k n a b kids).size := by
  have := cU h
  simp only [Tree.size]; omega
theorem gE {t : Tree} (h : t.whole = true) : 1 ≤ t.size := by cases t <;> simp [Tree.whole, Tree.size] at *
theorem cG : ∀ (l : List Tree), Tree.wholes l = true → l.length ≤ Tree.sizes l
  | [], _ => Nat.le_refl _
  | t :: ts, h => by
    simp only [Tree.wholes, Bool.and_eq_true] at h
    have := cG ts h.2
    have := gE h.1
    simp only [Tree.sizes, List.length_cons]; omega
theorem Tree.sind {motive : Tree → Prop} (h : ∀ t, (∀ t', t'.size < t.size → motive t') → motive t) (t : Tree) : motive t := by
  have key : ∀ n (t : Tree), t.size = n → motive t := fun n => by
    induction n using Nat.strongRecOn with
    | _ n ih => exact fun t e => h t fun t' ht => ih t'.size (by omega) t' rfl
  exact key t.size t rfl
theorem bY {t : Tree} (h : t.whole = true) : ∃ k n a b kids, t = .node k n a b kids := by cases t with | nil => simp [Tree.whole] at h | node k n a b kids => exact ⟨k, n, a, b, kids, rfl⟩
end Go.Proofs.YtocaohipfiapkaaGreatDoor.Ab
namespace Go.Proofs.YtocaohipfiapkaaGreatDoor.Ab
set_option linter.unusedVariables false
set_option linter.unusedSimpArgs false
attribute [local irreducible] AWP AOps AExit AThen ABlock ANoGoto FeetOk
def eqB (a b : ByteArray) : Bool := a.toList == b.toList
def emptyB : ByteArray := ⟨#[]⟩
def labelP (s : ByteArray) : Bool := decide ((1 : Int) ≤ s.size) && decide ((s.size : Int) ≤ 160)
set_option maxRecDepth 10000 in
theorem aAT (s : ByteArray) : ACalls Tryz.prog 87 [.imm (.lit (.string s))] [] (.imm (.lit (.bool (labelP s)))) [] := by
  refine aH Tryz.func87 rfl rfl (nb rfl) rfl ?_
  repeat' (first | refine aE ?_ | (refine aG ?_;  first | refine aB tabOk rfl rfl rfl (nb rfl) rfl ?_ | refine bL rfl rfl (nb rfl) ?_ | (refine aI rfl rfl rfl (nb rfl) rfl rfl rfl (fun hq => ?_) (fun hq => ?_) <;> (first | (simp only [sD, sE, sB, sC, sN, sM, sT, sF] at hq; try (exfalso; omega)) | skip)) | refine aT tabOk rfl rfl (nb rfl) rfl ?_) | (refine aK ?_;  first | refine aF ?_ | refine aM ?_))
  all_goals (refine aO (by first | exact .inl rfl | exact .inr rfl) (aW rfl (aA rfl)) rfl ?_; refine cE ?_; simp_all [labelP] <;> omega)
def bareP (n : Int) (a b : ByteArray) (nm nu : Bool) : Bool := (eqB b emptyB && (nm || eqB a emptyB)) && (nu || (n == 0))
set_option maxRecDepth 10000 in
theorem qO (k n : Int) (a b : ByteArray) (kids : List Tree) (nm nu : Bool) : ACalls Tryz.prog 63 [.imm (Tree.iv (.node k n a b kids)), .imm (.lit (.bool nm)), .imm (.lit (.bool nu))] [] (.imm (.lit (.bool (bareP n a b nm nu)))) [] := by
  refine aH Tryz.func63 rfl rfl (nb rfl) rfl ?_
  repeat' (first | refine aE ?_ | (refine aG ?_;  first | refine aB tabOk rfl rfl rfl (nb rfl) rfl ?_ | refine bL rfl rfl (nb rfl) ?_ | (refine aI rfl rfl rfl (nb rfl) rfl rfl rfl (fun hq => ?_) (fun hq => ?_) <;> (first | (simp only [sD, sE, sB, sC, sN, sM, sT, sF] at hq; try (exfalso; omega)) | skip)) | ((fail_if_success (refine cJ (b := true) rfl rfl rfl ?_)); (fail_if_success (refine cJ (b := false) rfl rfl rfl ?_)); refine dD rfl rfl rfl (fun hq => ?_) (fun hq => ?_) <;> first | subst hq | (first | (simp only [sD, sE, sB, sC, sN, sM, sT, sF] at hq; try (exfalso; omega)) | skip))) | (refine aK ?_;  first | refine aF ?_ | refine aM ?_))
  all_goals (refine aO (by first | exact .inl rfl | exact .inr rfl) (aW rfl (aA rfl)) rfl ?_; refine cE ?_; simp_all [bareP, eqB, emptyB])
mutual
def isKindP : Tree → Bool
  | .nil => false
  | .node k n a b kids => if k = 100 then bareP n a b false false && ((kids.length : Int) == 0) else if k = 101 then bareP n a b false false && ((kids.length : Int) == 2) && (isKindPs kids).all id else false
def isKindPs : List Tree → List Bool
  | [] => []
  | t :: ts => isKindP t :: isKindPs ts
end
theorem dI : ∀ l : List Tree, isKindPs l = l.map isKindP
  | [] => rfl
  | t :: ts => by simp [isKindPs, dI ts]
theorem two {α : Type} {l : List α} (h : l.length = 2) : ∃ x y, l = [x, y] := by
  match l, h with
  | [x, y], _ => exact ⟨x, y, rfl⟩
set_option maxRecDepth 10000 in
theorem qP (t : Tree) (h : t.whole = true) : ACalls Tryz.prog 46 [.imm t.iv] [] (.imm (.lit (.bool (isKindP t)))) [] := by
  induction t using Tree.ind with
  | h1 => simp [Tree.whole] at h
  | h2 k n a b kids ih =>
    refine aH Tryz.func46 rfl rfl (nb rfl) rfl ?_
    repeat' (first | refine aE ?_ | (refine aG ?_;  first | refine aB tabOk rfl rfl rfl (nb rfl) rfl ?_ | refine bL rfl rfl (nb rfl) ?_ | (refine aI rfl rfl rfl (nb rfl) rfl rfl rfl (fun hq => ?_) (fun hq => ?_) <;> (first | (simp only [sD, sE, sB, sC, sN, sM, sT, sF] at hq; try (exfalso; omega)) | skip)) | (refine bP rfl rfl rfl (nb rfl) rfl rfl rfl (qO _ _ _ _ _ _ _) (fun hq => ?_) (fun hq => ?_)) | (refine bP rfl rfl rfl (nb rfl) rfl rfl rfl (ih _ (List.getElem_mem _) (bF h (List.getElem_mem _))) (fun hq => ?_) (fun hq => ?_)) | refine aT tabOk rfl rfl (nb rfl) rfl ?_ | refine aY tabOk rfl rfl rfl (nb rfl) rfl rfl rfl rfl (by first | rfl | omega) (by first | omega | simp) ?_ | refine bA tabOk rfl rfl rfl (nb rfl) rfl rfl rfl (cC _ _ (by first | assumption | omega)) ?_) | (refine aK ?_;  first | refine aF ?_ | refine aL ?_ | refine aR ?_ | refine aM ?_ | refine aS ?_ | refine aC (b := true) rfl (fun _ => ?_) nTf | refine aC (b := false) rfl nFt (fun _ => ?_)) | (refine aJ ?_;  first | refine aU ?_ | refine aN ?_) | (refine aP ?_;  first | refine bM ?_ | refine aX ?_))
    all_goals (refine aO (by first | exact .inl rfl | exact .inr rfl) (aW rfl (aA rfl)) rfl ?_; refine cE ?_; by_cases h2 : kids.length = 2 <;> first | (obtain ⟨x, y, rfl⟩ := two h2; simp_all [isKindP, isKindPs]; done) | (simp_all [isKindP]; done) | (simp_all [isKindP]; omega))
end Go.Proofs.YtocaohipfiapkaaGreatDoor.Ab
namespace Go.Proofs.YtocaohipfiapkaaGreatDoor.Ab
set_option linter.unusedVariables false
set_option linter.unusedSimpArgs false
def Tree.name : Tree → ByteArray
  | .nil => emptyB
  | .node _ _ a _ _ => a
def ltB (a b : ByteArray) : Bool := Op.bytesLess a.toList b.toList
def risingP : List Tree → Bool
  | t :: u :: r => ltB t.name u.name && risingP (u :: r)
  | _ => true
def distinctP : List Tree → Bool
  | [] => true
  | t :: r => !(r.any fun u => eqB u.name t.name) && distinctP r
mutual
def isConP : Tree → Bool
  | .nil => false
  | .node k n a b kids => bareP n a b false (k == 110) &&
     (if k = 110 then decide (n ≥ 0) && decide (n ≤ 65536) && ((kids.length : Int) == 0)
      else if k = 111 ∨ k = 112 ∨ k = 113 then ((kids.length : Int) == 0)
      else if k = 114 ∨ k = 120 then ((kids.length : Int) == 2) && isCons kids
      else if k = 115 then namedPs kids 116 && risingP kids
      else if k = 117 ∨ k = 118 ∨ k = 119 then isCon2 kids
      else if k = 121 then decide ((kids.length : Int) > 0) && namedPs kids 122 && distinctP kids
      else false)
def isCons : List Tree → Bool
  | [] => true
  | t :: ts => isConP t && isCons ts
def namedPs : List Tree → Int → Bool
  | [], _ => true
  | .nil :: _, _ => false
  | .node k n a b ks :: ts, kind => (k == kind && bareP n a b true false && labelP a && isCon1 ks) && namedPs ts kind
def isCon1 : List Tree → Bool
  | [c] => isConP c
  | _ => false
def isCon2 : List Tree → Bool
  | [x, y] => isKindP x && isConP y
  | _ => false
end
/-- One field, one case. -/
def okNamed (kind : Int) : Tree → Bool
  | .nil => false
  | .node k n a b ks => k == kind && bareP n a b true false && labelP a && isCon1 ks
theorem cZ (kind : Int) (l : List Tree) : namedPs l kind = l.all (okNamed kind) := by
  induction l with
  | nil => simp [namedPs]
  | cons t ts ih => cases t <;> simp [namedPs, okNamed, ih]
theorem eL (l : List Tree) : isCons l = l.all isConP := by
  induction l with
  | nil => simp [isCons]
  | cons t ts ih => simp [isCons, ih]
theorem one_of {α : Type} {l : List α} (h : l.length = 1) : ∃ x, l = [x] := by
  match l, h with
  | [x], _ => exact ⟨x, rfl⟩
theorem eX {l : List Tree} (h : l.length ≠ 1) : isCon1 l = false := by
  match l, h with
  | [], _ => simp [isCon1]
  | [x], h => simp at h
  | x :: y :: r, _ => simp [isCon1]
theorem eQ {l : List Tree} (h : l.length ≠ 2) : isCon2 l = false := by
  match l, h with
  | [], _ => simp [isCon2]
  | [x], _ => simp [isCon2]
  | [x, y], h => simp at h
  | x :: y :: z :: r, _ => simp [isCon2]
theorem lS {α : Type} {p : α → Bool} {l : List α} (h : ∀ i (hi : i < l.length), p l[i] = true) : l.all p = true := by
  rw [List.all_eq_true]
  intro x hx
  obtain ⟨i, hi, rfl⟩ := List.getElem_of_mem hx
  exact h i hi
theorem jO {α : Type} {p : α → Bool} {l : List α} {j : Nat} (hj : j < l.length) (h : p l[j] = false) : l.all p = false := by
  cases hc : l.all p with
  | false => rfl
  | true =>
    rw [List.all_eq_true] at hc
    have := hc l[j] (List.getElem_mem hj)
    rw [h] at this
    cases this
theorem fI : ∀ (l : List Tree), risingP l = true ↔ ∀ i (hi : i + 1 < l.length), ltB (l[i]'(by omega)).name l[i + 1].name = true
  | [] => by simp [risingP]
  | [x] => by simp [risingP]
  | t :: u :: r => by
    rw [risingP, Bool.and_eq_true, fI (u :: r)]
    constructor
    · rintro ⟨h1, h2⟩ i hi
      cases i with
      | zero => simpa using h1
      | succ i => exact h2 i (by simpa using hi)
    · intro h
      exact ⟨h 0 (by simp), fun i hi => h (i + 1) (by simpa using hi)⟩
theorem dO (a b : ByteArray) : eqB a b = true ↔ a = b := by
  unfold eqB
  rw [beq_iff_eq]
  constructor
  · intro h
    have e : ∀ x : ByteArray, x = ⟨x.toList.toArray⟩ := fun x => by
      rw [ByteArray.toList_eq]
    rw [e a, e b, h]
  · rintro rfl; rfl
theorem eG : ∀ (l : List Tree), distinctP l = true ↔ ∀ i j (hij : i < j) (hj : j < l.length), eqB l[j].name (l[i]'(by omega)).name = false
  | [] => by simp [distinctP]
  | t :: r => by
    rw [distinctP, Bool.and_eq_true, eG r]
    constructor
    · rintro ⟨h1, h2⟩ i j hij hj
      cases j with
      | zero => omega
      | succ j =>
        cases i with
        | zero =>
          simp only [Bool.not_eq_true', List.any_eq_false] at h1
          have hj' : j < r.length := by simpa using hj
          have := h1 r[j] (List.getElem_mem hj')
          exact Bool.eq_false_iff.2 this
        | succ i => exact h2 i j (by omega) (by simpa using hj)
    · intro h
      refine ⟨?_, fun i j hij hj => h (i + 1) (j + 1) (by omega) (by simpa using hj)⟩
      simp only [Bool.not_eq_true', List.any_eq_false]
      intro u hu
      obtain ⟨j, hj, rfl⟩ := List.getElem_of_mem hu
      exact Bool.eq_false_iff.1 (h 0 (j + 1) (by omega) (by simpa using hj))
end Go.Proofs.YtocaohipfiapkaaGreatDoor.Ab
namespace Go.Proofs.YtocaohipfiapkaaGreatDoor.Ab
set_option linter.unusedVariables false
set_option linter.unusedSimpArgs false
attribute [local irreducible] AWP AOps AExit AThen ABlock ANoGoto FeetOk
/-- Kid j, written out. -/
theorem lT {kids : List Tree} (h : Tree.wholes kids = true) {j : Nat} (hj : j < kids.length) : ∃ k n a b ks, kids[j] = Tree.node k n a b ks ∧ (Tree.ivs kids)[j * 1]? = some (Tree.iv (.node k n a b ks)) ∧ Tree.wholes ks = true := by
  obtain ⟨k, n, a, b, ks, e⟩ := bY (bF h (List.getElem_mem hj))
  have hw := bF h (List.getElem_mem hj)
  rw [e] at hw
  exact ⟨k, n, a, b, ks, e, by rw [cC _ _ hj, e], hw⟩
set_option maxHeartbeats 4000000 in
set_option maxRecDepth 10000 in
theorem aAU (k n : Int) (a b : ByteArray) (kids : List Tree) (kind : Int) (h : Tree.wholes kids = true) (hl : kids.length < 1000000000)
    (hc : ∀ t', t'.size < (Tree.node k n a b kids).size → t'.whole = true → ACalls Tryz.prog 34 [.imm t'.iv] [] (.imm (.lit (.bool (isConP t')))) []) :
    ACalls Tryz.prog 64 [.imm (Tree.iv (.node k n a b kids)), .imm (.lit (.int .i64 kind))] [] (.imm (.lit (.bool (namedPs kids kind)))) [] := by
  refine aH Tryz.func64 rfl rfl (nb rfl) rfl ?_
  repeat' (first | refine aE ?_ | (refine aG ?_;  first | refine aB tabOk rfl rfl rfl (nb rfl) rfl ?_ | refine aT tabOk rfl rfl (nb rfl) rfl ?_) | (refine aK ?_;  first | refine aF ?_ | refine aL ?_ | refine aR ?_))
  refine bZ (ι := {j : Nat // j ≤ kids.length ∧ ∀ i (hi : i < kids.length), i < j → okNamed kind kids[i] = true}) (fun j => S.f ⟨[(12, .imm (.lit (.int .i64 (j.1 : Int)))), (11, .imm (.lit (.int .i64 (kids.length : Int)))), (10, .imm (.sl false kids.length (Tree.ivs kids))), (1, .imm (.lit (.int .i64 kind)))], []⟩) (fun j => kids.length - j.1) ⟨0, Nat.zero_le _, fun i _ hi => absurd hi (Nat.not_lt_zero _)⟩ (bT (by repeat' first | exact trivial | refine ⟨rfl, ?_⟩) (by repeat' first | exact trivial | refine ⟨rfl, ?_⟩)) ?_
  rintro ⟨j, hj, hok⟩
  dsimp only
  by_cases hlt : j < kids.length
  · obtain ⟨k1, n1, a1, b1, ks1, e1, hget, hw1⟩ := lT h hlt
    have hsz : ∀ i (hi : i < ks1.length), ks1[i].size < (Tree.node k n a b kids).size := fun i hi => by
      have h1 := bN (k := k1) (n := n1) (a := a1) (b := b1) (List.getElem_mem hi)
      have h2 := bN (k := k) (n := n) (a := a) (b := b) (List.getElem_mem hlt)
      rw [e1] at h2
      omega
    have hbad : okNamed kind (Tree.node k1 n1 a1 b1 ks1) = false → namedPs kids kind = false := fun hb => by
      rw [cZ]; exact jO hlt (by rw [e1]; exact hb)
    have hgood : okNamed kind (Tree.node k1 n1 a1 b1 ks1) = true → ∀ i (hi : i < kids.length), i < j + 1 → okNamed kind kids[i] = true := fun hb i hi hij => by
      by_cases e : i = j
      · subst e; rw [e1]; exact hb
      · exact hok i hi (by omega)
    repeat' (first | refine aE ?_ | (refine aG ?_;  first | refine aB tabOk rfl rfl rfl (nb rfl) rfl ?_ | refine bL rfl rfl (nb rfl) ?_ | (refine aI rfl rfl rfl (nb rfl) rfl rfl rfl (fun hq => ?_) (fun hq => ?_) <;> (first | (simp only [sD, sE, sB, sC, sN, sM, sT, sF] at hq; try (exfalso; omega)) | skip)) | (refine bP rfl rfl rfl (nb rfl) rfl rfl rfl (qO _ _ _ _ _ _ _) (fun hq => ?_) (fun hq => ?_)) | (refine bP rfl rfl rfl (nb rfl) rfl rfl rfl (aAT _) (fun hq => ?_) (fun hq => ?_)) | (refine bP rfl rfl rfl (nb rfl) rfl rfl rfl (hc _ (hsz _ _) (bF hw1 (List.getElem_mem _))) (fun hq => ?_) (fun hq => ?_)) | refine bO rfl rfl rfl (nb rfl) rfl rfl (by omega) ?_ | refine aT tabOk rfl rfl (nb rfl) rfl ?_ | refine bB tabOk rfl rfl rfl (nb rfl) rfl rfl rfl rfl (by first | assumption | omega) ?_ | refine aY tabOk rfl rfl rfl (nb rfl) rfl rfl rfl rfl (by first | rfl | omega) (by first | omega | simp) ?_ | refine bA tabOk rfl rfl rfl (nb rfl) rfl rfl rfl (by assumption) ?_ | refine bA tabOk rfl rfl rfl (nb rfl) rfl rfl rfl (cC _ _ (by first | assumption | omega)) ?_) | (refine aK ?_;  first | refine aF ?_ | refine aL ?_ | refine bD ?_ | refine aR ?_ | refine aM ?_ | refine aS ?_ | refine aC (b := true) rfl (fun _ => ?_) nTf | refine aC (b := false) rfl nFt (fun _ => ?_)) | (refine aJ ?_;  first | refine aU ?_ | refine aN ?_) | (refine aP ?_;  first | refine bM ?_ | refine aX ?_))
    all_goals first
      | (refine aO (by first | exact .inl rfl | exact .inr rfl) (aW rfl (aA rfl)) rfl ?_; refine cE (hbad ?_).symm; by_cases h1 : ks1.length = 1 <;> first | (obtain ⟨c, rfl⟩ := one_of h1; simp_all [okNamed, isCon1]; done) | (exfalso; omega) | (simp_all [okNamed, eX]; done))
      | exact ⟨⟨j + 1, hlt, hgood (by obtain ⟨c, rfl⟩ := one_of (l := ks1) (by omega); simp_all [okNamed, isCon1])⟩, (by show kids.length - (j + 1) < kids.length - j; omega), (bT (by repeat' first | exact trivial | refine ⟨rfl, ?_⟩) (by repeat' first | exact trivial | refine ⟨rfl, ?_⟩))⟩
  · repeat' (first | refine aE ?_ | (refine aG ?_;  first | refine aB tabOk rfl rfl rfl (nb rfl) rfl ?_ | (refine aI rfl rfl rfl (nb rfl) rfl rfl rfl (fun hq => ?_) (fun hq => ?_) <;> (first | (simp only [sD, sE, sB, sC, sN, sM, sT, sF] at hq; try (exfalso; omega)) | skip))) | (refine aK ?_;  first | refine aF ?_ | refine aL ?_ | refine aM ?_ | refine bQ ?_ | refine aC (b := false) rfl nFt (fun _ => ?_)) | (refine aJ ?_;  first | refine aU ?_ | refine bH ?_) | (refine aP ?_;  first | refine bE ?_))
    all_goals (refine aO (by first | exact .inl rfl | exact .inr rfl) (aW rfl (aA rfl)) rfl ?_; refine cE ?_; rw [cZ]; exact (lS fun i hi => hok i hi (by omega)).symm)
end Go.Proofs.YtocaohipfiapkaaGreatDoor.Ab
namespace Go.Proofs.YtocaohipfiapkaaGreatDoor.Ab
set_option linter.unusedVariables false
set_option linter.unusedSimpArgs false
attribute [local irreducible] AWP AOps AExit AThen ABlock ANoGoto FeetOk
set_option maxHeartbeats 4000000 in
set_option maxRecDepth 10000 in
theorem yQ (k n : Int) (a b : ByteArray) (kids : List Tree) (h : Tree.wholes kids = true) (hl : kids.length < 1000000000) :
    ACalls Tryz.prog 65 [.imm (Tree.iv (.node k n a b kids))] [] (.imm (.lit (.bool (risingP kids)))) [] := by
  refine aH Tryz.func65 rfl rfl (nb rfl) rfl ?_
  repeat' (first | refine aE ?_ | (refine aG ?_;  first | refine aB tabOk rfl rfl rfl (nb rfl) rfl ?_) | (refine aK ?_;  first | refine aF ?_ | refine aL ?_ | refine aR ?_))
  refine bZ (ι := {j : Nat // 1 ≤ j ∧ (j ≤ kids.length ∨ j = 1) ∧ ∀ i (hi : i + 1 < kids.length), i + 1 < j → ltB (kids[i]'(by omega)).name kids[i + 1].name = true}) (fun j => S.f ⟨[(3, .imm (.lit (.int .i64 (j.1 : Int)))), (0, .imm (Tree.iv (.node k n a b kids)))], []⟩) (fun j => kids.length - j.1) ⟨1, Nat.le_refl _, .inr rfl, fun i _ hi => by omega⟩ (bT (by repeat' first | exact trivial | refine ⟨rfl, ?_⟩) (by repeat' first | exact trivial | refine ⟨rfl, ?_⟩)) ?_
  rintro ⟨j, hj1, hj, hok⟩
  dsimp only
  by_cases hlt : j < kids.length
  · obtain ⟨k1, n1, a1, b1, ks1, e1, hget, hw1⟩ := lT h hlt
    obtain ⟨k0, n0, a0, b0, ks0, e0, hget0, hw0⟩ := lT h (j := ((j : Int) - 1).toNat) (by omega)
    have e2 : ∀ i, i + 1 = j → ∀ (hi : i + 1 < kids.length), ltB (kids[i]'(by omega)).name kids[i + 1].name = Op.bytesLess a0.toList a1.toList := fun i hij hi => by
      have hi2 : ((j : Int) - 1).toNat = i := by omega
      have x0 : kids[i]'(by omega) = Tree.node k0 n0 a0 b0 ks0 := by simpa only [hi2] using e0
      have x1 : kids[i + 1] = Tree.node k1 n1 a1 b1 ks1 := by simpa only [hij] using e1
      rw [x0, x1]; rfl
    repeat' (first | refine aE ?_ | (refine aG ?_;  first | refine aB tabOk rfl rfl rfl (nb rfl) rfl ?_ | (refine aI rfl rfl rfl (nb rfl) rfl rfl rfl (fun hq => ?_) (fun hq => ?_) <;> (first | (simp only [sD, sE, sB, sC, sN, sM, sT, sF] at hq; try (exfalso; omega)) | skip)) | refine bO rfl rfl rfl (nb rfl) rfl rfl (by omega) ?_ | refine cF rfl rfl rfl (nb rfl) rfl rfl rfl (by omega) (by omega) ?_ | refine aT tabOk rfl rfl (nb rfl) rfl ?_ | refine bB tabOk rfl rfl rfl (nb rfl) rfl rfl rfl rfl (by first | assumption | omega) ?_ | refine aY tabOk rfl rfl rfl (nb rfl) rfl rfl rfl rfl (by first | rfl | omega) (by first | omega | simp) ?_ | refine bA tabOk rfl rfl rfl (nb rfl) rfl rfl rfl (by assumption) ?_) | (refine aK ?_;  first | refine aF ?_ | refine aL ?_ | refine bD ?_ | refine aR ?_ | refine aM ?_ | refine aS ?_ | refine aC (b := true) rfl (fun _ => ?_) nTf | refine aC (b := false) rfl nFt (fun _ => ?_) | refine aQ mixed (by kernel_rfl) ?_) | (refine aJ ?_;  first | refine aU ?_ | refine aN ?_) | (refine aP ?_;  first | refine bM ?_ | refine aX ?_) | refine bC (aZ (by kernel_rfl)) ?_)
    all_goals first
      | (refine aO (by first | exact .inl rfl | exact .inr rfl) (aW rfl (aA rfl)) rfl ?_; refine cE ?_; symm; rw [Bool.eq_false_iff]; intro hr; rw [fI] at hr; have := hr (j - 1) (by omega); rw [e2 (j - 1) (by omega)] at this; simp_all; done)
      | exact ⟨⟨j + 1, by omega, .inl hlt, fun i hi hij => by by_cases e : i + 1 = j <;> first | (rw [e2 i e]; simp_all; done) | exact hok i hi (by omega)⟩, (by show kids.length - (j + 1) < kids.length - j; omega), (bT (by repeat' first | exact trivial | refine ⟨rfl, ?_⟩) (by repeat' first | exact trivial | refine ⟨rfl, ?_⟩))⟩
  · repeat' (first | refine aE ?_ | (refine aG ?_;  first | refine aB tabOk rfl rfl rfl (nb rfl) rfl ?_ | (refine aI rfl rfl rfl (nb rfl) rfl rfl rfl (fun hq => ?_) (fun hq => ?_) <;> (first | (simp only [sD, sE, sB, sC, sN, sM, sT, sF] at hq; try (exfalso; omega)) | skip)) | refine aT tabOk rfl rfl (nb rfl) rfl ?_) | (refine aK ?_;  first | refine aF ?_ | refine aL ?_ | refine aM ?_ | refine bQ ?_ | refine aC (b := false) rfl nFt (fun _ => ?_)) | (refine aJ ?_;  first | refine aU ?_ | refine bH ?_) | (refine aP ?_;  first | refine bE ?_))
    all_goals (refine aO (by first | exact .inl rfl | exact .inr rfl) (aW rfl (aA rfl)) rfl ?_; refine cE ?_; symm; rw [fI]; exact fun i hi => hok i hi (by omega))
/-- The map of the labels that were met. -/
def seenL (l : List Tree) : List (ByteArray × IV) := l.map fun t => (t.name, .lit (.bool true))
theorem wB (l : List Tree) (key : ByteArray) : mget (seenL l) key = cond (l.any fun u => eqB u.name key) (some (.lit (.bool true))) none := by
  induction l with
  | nil => rfl
  | cons t l ih =>
    simp only [seenL, List.map_cons, mget, List.any_cons]
    cases hb : eqB t.name key with
    | true => rw [if_pos ((dO _ _).1 hb)]; simp
    | false =>
      rw [if_neg (fun e => by rw [(dO _ _).2 e] at hb; cases hb)]
      simp only [Bool.false_or]
      exact ih
theorem tD (l : List Tree) (key : ByteArray) : (mget (seenL l) key).getD (.lit (.bool false)) = .lit (.bool (l.any fun u => eqB u.name key)) := by
  rw [wB]
  cases l.any (fun u => eqB u.name key) <;> rfl
theorem tE {l : List Tree} {key : ByteArray} (h : (l.any fun u => eqB u.name key) = false) : mget (seenL l) key = none := by
  rw [wB, h]; rfl
theorem tF (l : List Tree) (t : Tree) (j : Nat) (hj : j < l.length) (e : l[j] = t) : seenL (l.take j) ++ [(t.name, .lit (.bool true))] = seenL (l.take (j + 1)) := by
  rw [List.take_add_one]
  simp [seenL, hj, e]
set_option maxHeartbeats 4000000 in
set_option maxRecDepth 10000 in
theorem yR (k n : Int) (a b : ByteArray) (kids : List Tree) (h : Tree.wholes kids = true) (hl : kids.length < 1000000000) :
    ACalls Tryz.prog 66 [.imm (Tree.iv (.node k n a b kids))] [] (.imm (.lit (.bool (distinctP kids)))) [] := by
  refine aH Tryz.func66 rfl rfl (nb rfl) rfl ?_
  repeat' (first | refine aE ?_ | (refine aG ?_;  first | refine aB tabOk rfl rfl rfl (nb rfl) rfl ?_ | refine mO rfl rfl rfl (nb rfl) rfl rfl rfl ?_ | refine aT tabOk rfl rfl (nb rfl) rfl ?_) | (refine aK ?_;  first | refine aF ?_ | refine aL ?_ | refine aR ?_))
  refine bZ (ι := {j : Nat × List (ByteArray × IV) // j.1 ≤ kids.length ∧ j.2 = seenL (kids.take j.1) ∧ ∀ i i' (h1 : i < i') (h2 : i' < kids.length), i' < j.1 → eqB kids[i'].name (kids[i]'(by omega)).name = false}) (fun j => S.f ⟨[(12, .imm (.lit (.int .i64 (j.1.1 : Int)))), (11, .imm (.lit (.int .i64 (kids.length : Int)))), (10, .imm (.sl false kids.length (Tree.ivs kids))), (3, .mp 6)], [(6, .map j.1.2)]⟩) (fun j => kids.length - j.1.1) ⟨(0, []), Nat.zero_le _, rfl, fun i i' _ _ hi => absurd hi (Nat.not_lt_zero _)⟩ (bT (by repeat' first | exact trivial | refine ⟨rfl, ?_⟩) (by repeat' first | exact trivial | refine ⟨rfl, ?_⟩)) ?_
  rintro ⟨⟨j, l⟩, hj, hs, hok⟩
  dsimp only at hj hs hok ⊢
  by_cases hlt : j < kids.length
  · obtain ⟨k1, n1, a1, b1, ks1, e1, hget, hw1⟩ := lT h hlt
    have hb := tD (kids.take j) a1
    rw [← hs] at hb
    have hno : ((kids.take j).any fun u => eqB u.name a1) = false → mget l a1 = none := fun h => by rw [hs]; exact tE h
    have hmeet : ((kids.take j).any fun u => eqB u.name a1) = true → distinctP kids = false := fun h => by
      rw [Bool.eq_false_iff]
      intro hd
      rw [eG] at hd
      rw [List.any_eq_true] at h
      obtain ⟨u, hu, hub⟩ := h
      obtain ⟨i, hi, rfl⟩ := List.getElem_of_mem hu
      simp only [List.length_take] at hi
      have h2 := hd i j (by omega) hlt
      rw [e1] at h2
      simp only [List.getElem_take] at hub
      rw [(dO _ _).1 hub] at h2
      have h3 := (dO a1 a1).2 rfl
      rw [show Tree.name (Tree.node k1 n1 a1 b1 ks1) = a1 from rfl, h3] at h2
      cases h2
    have hnext : ((kids.take j).any fun u => eqB u.name a1) = false → ∀ i i' (h1 : i < i') (h2 : i' < kids.length), i' < j + 1 → eqB kids[i'].name (kids[i]'(by omega)).name = false := fun h i i' h1 h2 h3 => by
      by_cases e : i' = j
      · subst e
        rw [List.any_eq_false] at h
        have := h kids[i] (List.mem_iff_getElem.2 ⟨i, by simp; omega, by simp⟩)
        rw [e1]
        rw [Bool.eq_false_iff]
        intro hc
        exact this ((dO _ _).2 ((dO _ _).1 hc).symm)
      · exact hok i i' h1 h2 (by omega)
    repeat' (first | refine aE ?_ | (refine aG ?_;  first | refine aB tabOk rfl rfl rfl (nb rfl) rfl ?_ | (refine aI rfl rfl rfl (nb rfl) rfl rfl rfl (fun hq => ?_) (fun hq => ?_) <;> (first | (simp only [sD, sE, sB, sC, sN, sM, sT, sF] at hq; try (exfalso; omega)) | skip)) | (refine mP tabOk rfl rfl rfl (nb rfl) rfl rfl rfl rfl rfl rfl rfl rfl (hb) (fun hq => ?_) (fun hq => ?_)) | refine vW tabOk rfl rfl rfl rfl rfl rfl rfl rfl rfl rfl rfl (hno (by assumption)) ?_ | refine bO rfl rfl rfl (nb rfl) rfl rfl (by omega) ?_ | refine bB tabOk rfl rfl rfl (nb rfl) rfl rfl rfl rfl (by first | assumption | omega) ?_ | refine bA tabOk rfl rfl rfl (nb rfl) rfl rfl rfl (by assumption) ?_) | (refine aK ?_;  first | refine aF ?_ | refine aL ?_ | refine bD ?_ | refine aR ?_ | refine aM ?_ | refine aS ?_ | refine aC (b := true) rfl (fun _ => ?_) nTf | refine aC (b := false) rfl nFt (fun _ => ?_)) | (refine aJ ?_;  first | refine aU ?_ | refine aN ?_) | (refine aP ?_;  first | refine bM ?_ | refine aX ?_))
    all_goals first
      | (refine aO (by first | exact .inl rfl | exact .inr rfl) (aW rfl (aA rfl)) rfl ?_; exact cE (hmeet (by assumption)).symm)
      | exact ⟨⟨(j + 1, l ++ [(a1, .lit (.bool true))]), hlt, (hs ▸ tF kids _ j hlt e1), hnext (by assumption)⟩, (by show kids.length - (j + 1) < kids.length - j; omega), (bT (by repeat' first | exact trivial | refine ⟨rfl, ?_⟩) (by repeat' first | exact trivial | refine ⟨rfl, ?_⟩))⟩
  · repeat' (first | refine aE ?_ | (refine aG ?_;  first | refine aB tabOk rfl rfl rfl (nb rfl) rfl ?_ | (refine aI rfl rfl rfl (nb rfl) rfl rfl rfl (fun hq => ?_) (fun hq => ?_) <;> (first | (simp only [sD, sE, sB, sC, sN, sM, sT, sF] at hq; try (exfalso; omega)) | skip))) | (refine aK ?_;  first | refine aF ?_ | refine aL ?_ | refine aM ?_ | refine bQ ?_ | refine aC (b := false) rfl nFt (fun _ => ?_)) | (refine aJ ?_;  first | refine aU ?_ | refine bH ?_) | (refine aP ?_;  first | refine bE ?_))
    all_goals (refine aO (by first | exact .inl rfl | exact .inr rfl) (aW rfl (aA rfl)) rfl ?_; refine cE ?_; symm; rw [eG]; exact fun i i' h1 h2 => hok i i' h1 h2 (by omega))
end Go.Proofs.YtocaohipfiapkaaGreatDoor.Ab
namespace Go.Proofs.YtocaohipfiapkaaGreatDoor.Ab
set_option linter.unusedVariables false
set_option linter.unusedSimpArgs false
attribute [local irreducible] AWP AOps AExit AThen ABlock ANoGoto FeetOk
set_option maxHeartbeats 8000000 in
set_option maxRecDepth 10000 in
theorem aAV (t : Tree) : t.whole = true → t.size ≤ 100000000 → ACalls Tryz.prog 34 [.imm t.iv] [] (.imm (.lit (.bool (isConP t)))) [] := by
  induction t using Tree.sind with
  | h t ih =>
    intro h hs
    obtain ⟨k, n, a, b, kids, rfl⟩ := bY h
    have hl : kids.length < 1000000000 := by have := cG kids h; simp only [Tree.size] at hs; omega
    have hc : ∀ t', t'.size < (Tree.node k n a b kids).size → t'.whole = true → ACalls Tryz.prog 34 [.imm t'.iv] [] (.imm (.lit (.bool (isConP t')))) [] := fun t' h1 h2 => ih t' h1 h2 (by omega)
    refine aH Tryz.func34 rfl rfl (nb rfl) rfl ?_
    repeat' (first | refine aE ?_ | (refine aG ?_;  first | refine aB tabOk rfl rfl rfl (nb rfl) rfl ?_ | refine bL rfl rfl (nb rfl) ?_ | (refine aI rfl rfl rfl (nb rfl) rfl rfl rfl (fun hq => ?_) (fun hq => ?_) <;> (first | (simp only [sD, sE, sB, sC, sN, sM, sT, sF] at hq; try (exfalso; omega)) | skip)) | (refine bP rfl rfl rfl (nb rfl) rfl rfl rfl (qO _ _ _ _ _ _ _) (fun hq => ?_) (fun hq => ?_)) | (refine bP rfl rfl rfl (nb rfl) rfl rfl rfl (aAU _ _ _ _ _ _ h hl hc) (fun hq => ?_) (fun hq => ?_)) | (refine bP rfl rfl rfl (nb rfl) rfl rfl rfl (yQ _ _ _ _ _ h hl) (fun hq => ?_) (fun hq => ?_)) | (refine bP rfl rfl rfl (nb rfl) rfl rfl rfl (yR _ _ _ _ _ h hl) (fun hq => ?_) (fun hq => ?_)) | (refine bP rfl rfl rfl (nb rfl) rfl rfl rfl (qP _ (bF h (List.getElem_mem _))) (fun hq => ?_) (fun hq => ?_)) | (refine bP rfl rfl rfl (nb rfl) rfl rfl rfl (hc _ (bN (List.getElem_mem _)) (bF h (List.getElem_mem _))) (fun hq => ?_) (fun hq => ?_)) | refine aT tabOk rfl rfl (nb rfl) rfl ?_ | refine aY tabOk rfl rfl rfl (nb rfl) rfl rfl rfl rfl (by first | rfl | omega) (by first | omega | simp) ?_ | refine bA tabOk rfl rfl rfl (nb rfl) rfl rfl rfl (cC _ _ (by first | assumption | omega)) ?_) | (refine aK ?_;  first | refine aF ?_ | refine aL ?_ | refine bD ?_ | refine aR ?_ | refine aM ?_ | refine bQ ?_ | refine aS ?_ | refine aC (b := true) rfl (fun _ => ?_) nTf | refine aC (b := false) rfl nFt (fun _ => ?_)) | (refine aJ ?_;  first | refine aU ?_ | refine bH ?_ | refine aN ?_) | (refine aP ?_;  first | refine bM ?_ | refine bE ?_ | refine dB (by decide) ?_ | refine aX ?_))
    all_goals (refine aO (by first | exact .inl rfl | exact .inr rfl) (aW rfl (aA rfl)) rfl ?_; refine cE ?_; by_cases h2 : kids.length = 2 <;> first | (obtain ⟨x, y, rfl⟩ := two h2; simp_all [isConP, isCons, isCon2]; done) | (exfalso; omega) | (simp_all [isConP, eQ]; done) | (simp_all [isConP, eQ]; omega) | (rw [isConP]; cases hk : (k == 110) <;> simp_all; done))
end Go.Proofs.YtocaohipfiapkaaGreatDoor.Ab
namespace Go.Proofs.YtocaohipfiapkaaGreatDoor.Ab
set_option linter.unusedVariables false
set_option linter.unusedSimpArgs false
attribute [local irreducible] AWP AOps AExit AThen ABlock ANoGoto FeetOk
mutual
/-- The answer, and what is left. -/
def wholeP : Tree → Int → Int × Int
  | .nil, l => (1, l)
  | .node _ _ _ _ kids, l => if l - 1 < 0 then (3, l - 1) else wholePs kids (l - 1)
def wholePs : List Tree → Int → Int × Int
  | [], l => (0, l)
  | t :: ts, l => if (wholeP t l).1 = 0 then wholePs ts (wholeP t l).2 else wholeP t l
end
theorem iM {l : List Tree} {x : Int} {j : Nat} (hj : j < l.length) (h : (wholePs (l.take j) x).1 = 0) : wholePs (l.take (j + 1)) x = wholeP l[j] (wholePs (l.take j) x).2 := by
  induction l generalizing x j with
  | nil => simp at hj
  | cons t ts ih =>
    cases j with
    | zero =>
      simp only [List.take_zero, wholePs, List.take_succ_cons, List.getElem_cons_zero]
      split
      · rename_i e; exact Prod.ext e.symm rfl
      · rfl
    | succ j =>
      simp only [List.take_succ_cons, wholePs, List.getElem_cons_succ] at h ⊢
      split
      · rename_i e
        rw [if_pos e] at h
        exact ih (by simpa using hj) h
      · rename_i e
        rw [if_neg e] at h
        exact absurd h e
theorem iN {l : List Tree} {x : Int} {j : Nat} (hj : j < l.length) (h : (wholePs (l.take j) x).1 = 0) (h2 : (wholeP l[j] (wholePs (l.take j) x).2).1 ≠ 0) : wholePs l x = wholeP l[j] (wholePs (l.take j) x).2 := by
  induction l generalizing x j with
  | nil => simp at hj
  | cons t ts ih =>
    cases j with
    | zero =>
      simp only [List.take_zero, wholePs, List.getElem_cons_zero] at h2 ⊢
      rw [if_neg h2]
    | succ j =>
      simp only [List.take_succ_cons, wholePs, List.getElem_cons_succ] at h h2 ⊢
      split
      · rename_i e
        rw [if_pos e] at h h2
        exact ih (by simpa using hj) h h2
      · rename_i e
        rw [if_neg e] at h
        exact absurd h e
theorem fO (t : Tree) : ∀ l, 0 ≤ l → (wholeP t l).1 = 0 → 0 ≤ (wholeP t l).2 ∧ (wholeP t l).2 + 1 ≤ l := by
  induction t using Tree.ind with
  | h1 => intro l _ h; simp [wholeP] at h
  | h2 k n a b kids ih =>
    intro l hl h
    rw [wholeP] at h ⊢
    split at h
    · cases h
    · rename_i hn
      rw [if_neg hn]
      have key : ∀ (ts : List Tree) (x : Int), (∀ t ∈ ts, t ∈ kids) → 0 ≤ x → (wholePs ts x).1 = 0 → 0 ≤ (wholePs ts x).2 ∧ (wholePs ts x).2 + ts.length ≤ x := by
        intro ts
        induction ts with
        | nil => intro x _ hx _; simp [wholePs, hx]
        | cons t ts ih2 =>
          intro x hm hx he
          rw [wholePs] at he ⊢
          split at he
          · rename_i e
            rw [if_pos e]
            have h1 := ih t (hm t (by simp)) x hx e
            have h2 := ih2 (wholeP t x).2 (fun t' ht' => hm t' (by simp [ht'])) h1.1 he
            simp only [List.length_cons]
            omega
          · rename_i e; exact absurd he e
      have := key kids (l - 1) (fun _ h => h) (by omega) h
      omega
theorem fP (ts : List Tree) : ∀ x, 0 ≤ x → (wholePs ts x).1 = 0 → 0 ≤ (wholePs ts x).2 ∧ (wholePs ts x).2 + ts.length ≤ x := by
  induction ts with
  | nil => intro x hx _; simp [wholePs, hx]
  | cons t ts ih =>
    intro x hx he
    rw [wholePs] at he ⊢
    split at he
    · rename_i e
      rw [if_pos e]
      have h1 := fO t x hx e
      have h2 := ih (wholeP t x).2 h1.1 he
      simp only [List.length_cons]
      omega
    · rename_i e; exact absurd he e
theorem gU (ts : List Tree) (x : Int) (hx : 0 ≤ x) (h : (wholePs ts x).1 = 0) : 0 ≤ (wholePs ts x).2 ∧ (wholePs ts x).2 ≤ x := by have := fP ts x hx h; omega
set_option maxHeartbeats 4000000 in
set_option maxRecDepth 10000 in
theorem aAW (t : Tree) : ∀ l : Int, t.size ≤ 100000000 → -100000000 ≤ l → l ≤ 100000000 → ACalls Tryz.prog 62 [.imm t.iv, .obj 1000 0] [(1000, .cells [.imm (.lit (.int .i64 l))])] (.imm (.lit (.int .i64 (wholeP t l).1))) [(1000, .cells [.imm (.lit (.int .i64 (wholeP t l).2))])] := by
  induction t using Tree.ind with
  | h1 =>
    intro l hs h1 h2
    refine eW Tryz.func62 rfl rfl (nb rfl) rfl rfl ?_
    repeat' (first | refine aE ?_ | (refine aG ?_;  first | refine aB tabOk rfl rfl rfl (nb rfl) rfl ?_ | refine aT tabOk rfl rfl (nb rfl) rfl ?_) | (refine aK ?_;  first | refine aF ?_ | refine aL ?_ | refine aM ?_ | refine aC (b := true) rfl (fun _ => ?_) nTf) | (refine aJ ?_;  first | refine aN ?_))
    all_goals (refine dN (cs := []) (by first | exact .inl rfl | exact .inr rfl) (aW rfl (aA rfl)) rfl rfl rfl ?_; rfl)
  | h2 k n a b kids ih =>
    intro l hs h1 h2
    refine eW Tryz.func62 rfl rfl (nb rfl) rfl rfl ?_
    repeat' (first | refine aE ?_ | (refine aG ?_;  first | refine aB tabOk rfl rfl rfl (nb rfl) rfl ?_ | (refine aI rfl rfl rfl (nb rfl) rfl rfl rfl (fun hq => ?_) (fun hq => ?_) <;> (first | (simp only [sD, sE, sB, sC, sN, sM, sT, sF] at hq; try (exfalso; omega)) | skip)) | refine cF rfl rfl rfl (nb rfl) rfl rfl rfl (by omega) (by omega) ?_ | refine aT tabOk rfl rfl (nb rfl) rfl ?_ | refine bK tabOk rfl rfl rfl (nb rfl) rfl rfl rfl rfl ?_ | refine bG tabOk rfl rfl rfl rfl rfl rfl rfl rfl rfl rfl rfl ?_) | (refine aK ?_;  first | refine aF ?_ | refine aL ?_ | refine aR ?_ | refine aM ?_ | refine aS ?_ | refine aC (b := true) rfl (fun _ => ?_) nTf | refine aC (b := false) rfl nFt (fun _ => ?_)) | (refine aJ ?_;  first | refine aU ?_ | refine aN ?_))
    · rw [show wholeP (.node k n a b kids) l = (3, l - 1) from if_pos (by omega)]
      refine dN (cs := []) (by first | exact .inl rfl | exact .inr rfl) (aW rfl (aA rfl)) rfl rfl rfl ?_; rfl
    · rename_i hq
      have e0 : wholeP (.node k n a b kids) l = wholePs kids (l - 1) := if_neg (by omega)
      rw [e0]
      have hlen : kids.length < 9223372036854775807 ∨ kids.length ≥ 9223372036854775807 := by omega
      refine bZ (ι := {j : Nat // j ≤ kids.length ∧ (wholePs (kids.take j) (l - 1)).1 = 0}) (fun j => S.f ⟨[(24, .imm (.lit (.int .i64 (j.1 : Int)))), (23, .imm (.lit (.int .i64 (kids.length : Int)))), (22, .imm (.sl false kids.length (Tree.ivs kids))), (1, .obj 1000 0)], [(1000, .cells [.imm (.lit (.int .i64 (wholePs (kids.take j.1) (l - 1)).2))])]⟩) (fun j => kids.length - j.1) ⟨0, Nat.zero_le _, by rw [List.take_zero, wholePs]⟩ (bT (by repeat' first | exact trivial | refine ⟨rfl, ?_⟩) (by repeat' first | exact trivial | refine ⟨rfl, ?_⟩)) ?_
      rintro ⟨j, hj, hok⟩
      dsimp only
      by_cases hlt : j < kids.length
      · have hm := List.getElem_mem hlt
        have hsz := bN (k := k) (n := n) (a := a) (b := b) hm
        have hbd := gU (kids.take j) (l - 1) (by omega) hok
        have hjl : j < 9223372036854775807 := by
          by_cases hj0 : j < 9223372036854775807
          · exact hj0
          · exfalso
            have := fP (kids.take j) (l - 1) (by omega) hok
            rw [List.length_take] at this
            omega
        repeat' (first | refine aE ?_ | (refine aG ?_;  first | refine aB tabOk rfl rfl rfl (nb rfl) rfl ?_ | (refine aI rfl rfl rfl (nb rfl) rfl rfl rfl (fun hq => ?_) (fun hq => ?_) <;> (first | (simp only [sD, sE, sB, sC, sN, sM, sT, sF] at hq; try (exfalso; omega)) | skip)) | refine bW rfl rfl (nb rfl) rfl rfl rfl rfl (ih _ hm (wholePs (kids.take j) (l - 1)).2 (by omega) (by omega) (by omega)) (by exact ⟨rfl, trivial⟩) rfl (by simp) ?_ | refine bO rfl rfl rfl (nb rfl) rfl rfl (by omega) ?_ | refine bB tabOk rfl rfl rfl (nb rfl) rfl rfl rfl rfl (by first | assumption | omega) ?_ | refine bA tabOk rfl rfl rfl (nb rfl) rfl rfl rfl (cC _ _ (by first | assumption | omega)) ?_) | (refine aK ?_;  first | refine aF ?_ | refine aL ?_ | refine bD ?_ | refine aR ?_ | refine aM ?_ | refine aS ?_ | refine aC (b := true) rfl (fun _ => ?_) nTf | refine aC (b := false) rfl nFt (fun _ => ?_)) | (refine aJ ?_;  first | refine aU ?_ | refine aN ?_) | (refine aP ?_;  first | refine bM ?_ | refine aX ?_))
        all_goals first
          | (have hq : (wholeP kids[j] (wholePs (kids.take j) (l - 1)).2).1 ≠ 0 := by assumption
             have hst := iN hlt hok hq; rw [hst]; refine dN (cs := []) (by first | exact .inl rfl | exact .inr rfl) (aW rfl (aA rfl)) rfl rfl rfl ?_; rfl; done)
          | (have hq : (wholeP kids[j] (wholePs (kids.take j) (l - 1)).2).1 = 0 := by assumption
             have hst := iM hlt hok; exact ⟨⟨j + 1, hlt, by rw [hst]; exact hq⟩, (by show kids.length - (j + 1) < kids.length - j; omega), (bT (by repeat' first | exact trivial | refine ⟨rfl, ?_⟩) (by rw [hst]; exact ⟨rfl, trivial⟩))⟩)
      · repeat' (first | refine aE ?_ | (refine aG ?_;  first | refine aB tabOk rfl rfl rfl (nb rfl) rfl ?_ | (refine aI rfl rfl rfl (nb rfl) rfl rfl rfl (fun hq => ?_) (fun hq => ?_) <;> (first | (simp only [sD, sE, sB, sC, sN, sM, sT, sF] at hq; try (exfalso; omega)) | skip))) | (refine aK ?_;  first | refine aF ?_ | refine aL ?_ | refine aM ?_ | refine bQ ?_ | refine aC (b := false) rfl nFt (fun _ => ?_)) | (refine aJ ?_;  first | refine aU ?_ | refine bH ?_) | (refine aP ?_;  first | refine bE ?_))
        all_goals (have e1 : kids.take j = kids := List.take_of_length_le (by omega); rw [e1] at hok ⊢; refine dN (cs := []) (by first | exact .inl rfl | exact .inr rfl) (aW rfl (aA rfl)) rfl rfl rfl ?_; exact iJ hok.symm)
set_option maxHeartbeats 4000000 in
set_option maxRecDepth 10000 in
theorem yS (t : Tree) : ∀ l : Int, t.size ≤ 100000000 → -100000000 ≤ l → l ≤ 100000000 → ACalls Tryz.prog 70 [.imm t.iv, .obj 1000 0] [(1000, .cells [.imm (.lit (.int .i64 l))])] (.imm (.lit (.int .i64 (wholeP t l).1))) [(1000, .cells [.imm (.lit (.int .i64 (wholeP t l).2))])] := by
  induction t using Tree.ind with
  | h1 =>
    intro l hs h1 h2
    refine eW Tryz.func70 rfl rfl (nb rfl) rfl rfl ?_
    repeat' (first | refine aE ?_ | (refine aG ?_;  first | refine aB tabOk rfl rfl rfl (nb rfl) rfl ?_ | refine aT tabOk rfl rfl (nb rfl) rfl ?_) | (refine aK ?_;  first | refine aF ?_ | refine aL ?_ | refine aM ?_ | refine aC (b := true) rfl (fun _ => ?_) nTf) | (refine aJ ?_;  first | refine aN ?_))
    all_goals (refine dN (cs := []) (by first | exact .inl rfl | exact .inr rfl) (aW rfl (aA rfl)) rfl rfl rfl ?_; rfl)
  | h2 k n a b kids ih =>
    intro l hs h1 h2
    refine eW Tryz.func70 rfl rfl (nb rfl) rfl rfl ?_
    repeat' (first | refine aE ?_ | (refine aG ?_;  first | refine aB tabOk rfl rfl rfl (nb rfl) rfl ?_ | (refine aI rfl rfl rfl (nb rfl) rfl rfl rfl (fun hq => ?_) (fun hq => ?_) <;> (first | (simp only [sD, sE, sB, sC, sN, sM, sT, sF] at hq; try (exfalso; omega)) | skip)) | refine cF rfl rfl rfl (nb rfl) rfl rfl rfl (by omega) (by omega) ?_ | refine aT tabOk rfl rfl (nb rfl) rfl ?_ | refine bK tabOk rfl rfl rfl (nb rfl) rfl rfl rfl rfl ?_ | refine bG tabOk rfl rfl rfl rfl rfl rfl rfl rfl rfl rfl rfl ?_) | (refine aK ?_;  first | refine aF ?_ | refine aL ?_ | refine aR ?_ | refine aM ?_ | refine aS ?_ | refine aC (b := true) rfl (fun _ => ?_) nTf | refine aC (b := false) rfl nFt (fun _ => ?_)) | (refine aJ ?_;  first | refine aU ?_ | refine aN ?_))
    · rw [show wholeP (.node k n a b kids) l = (3, l - 1) from if_pos (by omega)]
      refine dN (cs := []) (by first | exact .inl rfl | exact .inr rfl) (aW rfl (aA rfl)) rfl rfl rfl ?_; rfl
    · rename_i hq
      have e0 : wholeP (.node k n a b kids) l = wholePs kids (l - 1) := if_neg (by omega)
      rw [e0]
      have hlen : kids.length < 9223372036854775807 ∨ kids.length ≥ 9223372036854775807 := by omega
      refine bZ (ι := {j : Nat // j ≤ kids.length ∧ (wholePs (kids.take j) (l - 1)).1 = 0}) (fun j => S.f ⟨[(24, .imm (.lit (.int .i64 (j.1 : Int)))), (23, .imm (.lit (.int .i64 (kids.length : Int)))), (22, .imm (.sl false kids.length (Tree.ivs kids))), (1, .obj 1000 0)], [(1000, .cells [.imm (.lit (.int .i64 (wholePs (kids.take j.1) (l - 1)).2))])]⟩) (fun j => kids.length - j.1) ⟨0, Nat.zero_le _, by rw [List.take_zero, wholePs]⟩ (bT (by repeat' first | exact trivial | refine ⟨rfl, ?_⟩) (by repeat' first | exact trivial | refine ⟨rfl, ?_⟩)) ?_
      rintro ⟨j, hj, hok⟩
      dsimp only
      by_cases hlt : j < kids.length
      · have hm := List.getElem_mem hlt
        have hsz := bN (k := k) (n := n) (a := a) (b := b) hm
        have hbd := gU (kids.take j) (l - 1) (by omega) hok
        have hjl : j < 9223372036854775807 := by
          by_cases hj0 : j < 9223372036854775807
          · exact hj0
          · exfalso
            have := fP (kids.take j) (l - 1) (by omega) hok
            rw [List.length_take] at this
            omega
        repeat' (first | refine aE ?_ | (refine aG ?_;  first | refine aB tabOk rfl rfl rfl (nb rfl) rfl ?_ | (refine aI rfl rfl rfl (nb rfl) rfl rfl rfl (fun hq => ?_) (fun hq => ?_) <;> (first | (simp only [sD, sE, sB, sC, sN, sM, sT, sF] at hq; try (exfalso; omega)) | skip)) | refine bW rfl rfl (nb rfl) rfl rfl rfl rfl (ih _ hm (wholePs (kids.take j) (l - 1)).2 (by omega) (by omega) (by omega)) (by exact ⟨rfl, trivial⟩) rfl (by simp) ?_ | refine bO rfl rfl rfl (nb rfl) rfl rfl (by omega) ?_ | refine bB tabOk rfl rfl rfl (nb rfl) rfl rfl rfl rfl (by first | assumption | omega) ?_ | refine bA tabOk rfl rfl rfl (nb rfl) rfl rfl rfl (cC _ _ (by first | assumption | omega)) ?_) | (refine aK ?_;  first | refine aF ?_ | refine aL ?_ | refine bD ?_ | refine aR ?_ | refine aM ?_ | refine aS ?_ | refine aC (b := true) rfl (fun _ => ?_) nTf | refine aC (b := false) rfl nFt (fun _ => ?_)) | (refine aJ ?_;  first | refine aU ?_ | refine aN ?_) | (refine aP ?_;  first | refine bM ?_ | refine aX ?_))
        all_goals first
          | (have hq : (wholeP kids[j] (wholePs (kids.take j) (l - 1)).2).1 ≠ 0 := by assumption
             have hst := iN hlt hok hq; rw [hst]; refine dN (cs := []) (by first | exact .inl rfl | exact .inr rfl) (aW rfl (aA rfl)) rfl rfl rfl ?_; rfl; done)
          | (have hq : (wholeP kids[j] (wholePs (kids.take j) (l - 1)).2).1 = 0 := by assumption
             have hst := iM hlt hok; exact ⟨⟨j + 1, hlt, by rw [hst]; exact hq⟩, (by show kids.length - (j + 1) < kids.length - j; omega), (bT (by repeat' first | exact trivial | refine ⟨rfl, ?_⟩) (by rw [hst]; exact ⟨rfl, trivial⟩))⟩)
      · repeat' (first | refine aE ?_ | (refine aG ?_;  first | refine aB tabOk rfl rfl rfl (nb rfl) rfl ?_ | (refine aI rfl rfl rfl (nb rfl) rfl rfl rfl (fun hq => ?_) (fun hq => ?_) <;> (first | (simp only [sD, sE, sB, sC, sN, sM, sT, sF] at hq; try (exfalso; omega)) | skip))) | (refine aK ?_;  first | refine aF ?_ | refine aL ?_ | refine aM ?_ | refine bQ ?_ | refine aC (b := false) rfl nFt (fun _ => ?_)) | (refine aJ ?_;  first | refine aU ?_ | refine bH ?_) | (refine aP ?_;  first | refine bE ?_))
        all_goals (have e1 : kids.take j = kids := List.take_of_length_le (by omega); rw [e1] at hok ⊢; refine dN (cs := []) (by first | exact .inl rfl | exact .inr rfl) (aW rfl (aA rfl)) rfl rfl rfl ?_; exact iJ hok.symm)
end Go.Proofs.YtocaohipfiapkaaGreatDoor.Ab
namespace Go.Proofs.YtocaohipfiapkaaGreatDoor.Ab
set_option linter.unusedVariables false
set_option linter.unusedSimpArgs false
attribute [local irreducible] AWP AOps AExit AThen ABlock ANoGoto FeetOk
theorem fQ (t : Tree) : ∀ l, (wholeP t l).1 = 0 → t.whole = true := by
  induction t using Tree.ind with
  | h1 => intro l h; simp [wholeP] at h
  | h2 k n a b kids ih =>
    intro l h
    rw [wholeP] at h
    split at h
    · cases h
    · have key : ∀ (ts : List Tree) (x : Int), (∀ t ∈ ts, t ∈ kids) → (wholePs ts x).1 = 0 → Tree.wholes ts = true := by
        intro ts
        induction ts with
        | nil => intro x _ _; rfl
        | cons t ts ih2 =>
          intro x hm he
          rw [wholePs] at he
          split at he
          · rename_i e
            simp only [Tree.wholes, Bool.and_eq_true]
            exact ⟨ih t (hm t (by simp)) x e, ih2 _ (fun t' ht' => hm t' (by simp [ht'])) he⟩
          · rename_i e; exact absurd he e
      exact key kids _ (fun _ h => h) h
def checkP (form : Tree → Bool) (t : Tree) : Int := if (wholeP t 65536).1 = 0 then (if form t then 0 else 16) else (wholeP t 65536).1
set_option maxHeartbeats 4000000 in
set_option maxRecDepth 10000 in
theorem tG (t : Tree) (f : FuncId) (form : Tree → Bool) (hs : t.size ≤ 100000000) (hf : t.whole = true → ACalls Tryz.prog f [.imm t.iv] [] (.imm (.lit (.bool (form t)))) []) :
    ACalls Tryz.prog 33 [.imm t.iv, .imm (.func f [] [])] [] (.imm (.lit (.int .i64 (checkP form t)))) [] := by
  refine aH Tryz.func33 rfl rfl (nb rfl) rfl ?_
  repeat' (first | refine aE ?_ | (refine aG ?_;  first | refine aB tabOk rfl rfl rfl (nb rfl) rfl ?_ | refine bL rfl rfl (nb rfl) ?_ | (refine aI rfl rfl rfl (nb rfl) rfl rfl rfl (fun hq => ?_) (fun hq => ?_) <;> (first | (simp only [sD, sE, sB, sC, sN, sM, sT, sF] at hq; try (exfalso; omega)) | skip)) | refine cD 1000 tabOk rfl rfl rfl (nb rfl) rfl rfl rfl rfl rfl rfl ?_ | refine bW rfl rfl (nb rfl) rfl rfl rfl rfl (aAW t 65536 hs (by omega) (by omega)) (by exact ⟨rfl, trivial⟩) rfl (by simp) ?_ | (refine bP rfl rfl rfl (nb rfl) rfl rfl rfl (hf (fQ t _ (by assumption))) (fun hq => ?_) (fun hq => ?_)) | refine bG tabOk rfl rfl rfl rfl rfl rfl rfl rfl rfl rfl rfl ?_) | (refine aK ?_;  first | refine aF ?_ | refine aL ?_ | refine aM ?_ | refine aS ?_ | refine aC (b := true) rfl (fun _ => ?_) nTf | refine aC (b := false) rfl nFt (fun _ => ?_)) | (refine aJ ?_;  first | refine aU ?_ | refine aN ?_))
  all_goals (refine aO (by first | exact .inl rfl | exact .inr rfl) (aW rfl (aA rfl)) rfl ?_; refine iJ ?_; simp_all [checkP])
set_option maxRecDepth 10000 in
theorem eA (t : Tree) (hs : t.size ≤ 100000000) : ACalls Tryz.prog 15 [.imm t.iv] [] (.imm (.lit (.int .i64 (checkP isConP t)))) [] := by
  refine aH Tryz.func15 rfl rfl (nb rfl) rfl ?_
  repeat' (first | refine aE ?_ | (refine aG ?_;  first | refine aB tabOk rfl rfl rfl (nb rfl) rfl ?_ | refine aD rfl rfl (nb rfl) rfl rfl rfl rfl (tG t _ _ hs (fun h => aAV t h hs)) ?_) | (refine aK ?_;  first | refine aF ?_ | refine aM ?_))
  all_goals (refine aO (by first | exact .inl rfl | exact .inr rfl) (aW rfl (aA rfl)) rfl ?_; rfl)
set_option maxRecDepth 10000 in
theorem qQ (t : Tree) (hs : t.size ≤ 100000000) : ACalls Tryz.prog 25 [.imm t.iv] [] (.imm (.lit (.int .i64 (checkP isKindP t)))) [] := by
  refine aH Tryz.func25 rfl rfl (nb rfl) rfl ?_
  repeat' (first | refine aE ?_ | (refine aG ?_;  first | refine aB tabOk rfl rfl rfl (nb rfl) rfl ?_ | refine aD rfl rfl (nb rfl) rfl rfl rfl rfl (tG t _ _ hs (fun h => qP t h)) ?_) | (refine aK ?_;  first | refine aF ?_ | refine aM ?_))
  all_goals (refine aO (by first | exact .inl rfl | exact .inr rfl) (aW rfl (aA rfl)) rfl ?_; rfl)
end Go.Proofs.YtocaohipfiapkaaGreatDoor.Ab
namespace Go.Proofs.YtocaohipfiapkaaGreatDoor.Ab
set_option linter.unusedVariables false
set_option linter.unusedSimpArgs false
attribute [local irreducible] AWP AOps AExit AThen ABlock ANoGoto FeetOk
/-- How many constructors a node binds in its kids. -/
def bindsP (k : Int) : Int := if k = 117 ∨ k = 118 ∨ k = 119 ∨ k = 121 then 1 else 0
theorem eY (k : Int) : 0 ≤ bindsP k ∧ bindsP k ≤ 1 := by unfold bindsP; split <;> omega
def varT (n : Int) : Tree := .node 110 n emptyB emptyB []
mutual
/-- Are all variables of a tree such as a constructor may have? -/
def okVars : Tree → Bool
  | .nil => false
  | .node k n a b kids => if k = 110 then decide (0 ≤ n ∧ n ≤ 65536) && (decide (a = emptyB) && (decide (b = emptyB) && kids.isEmpty)) else okVarss kids
def okVarss : List Tree → Bool
  | [] => true
  | t :: ts => okVars t && okVarss ts
end
theorem oO : ∀ {l : List Tree}, okVarss l = true → ∀ t ∈ l, okVars t = true
  | x :: xs, h, t, ht => by
    simp only [okVarss, Bool.and_eq_true] at h
    rcases List.mem_cons.1 ht with rfl | ht
    · exact h.1
    · exact oO h.2 t ht
theorem iO : ∀ {l : List Tree}, (∀ t ∈ l, okVars t = true) → okVarss l = true
  | [], _ => by rw [okVarss]
  | x :: xs, h => by
    simp only [okVarss, Bool.and_eq_true]
    exact ⟨h x (by simp), iO fun t ht => h t (by simp [ht])⟩
theorem dV {k n : Int} {a b : ByteArray} {kids : List Tree} (hk : k = 110) (h : okVars (.node k n a b kids) = true) : 0 ≤ n ∧ n ≤ 65536 ∧ a = emptyB ∧ b = emptyB ∧ kids = [] := by
  simp only [okVars, if_pos hk, Bool.and_eq_true, decide_eq_true_eq, List.isEmpty_iff] at h
  exact ⟨h.1.1, h.1.2, h.2.1, h.2.2.1, h.2.2.2⟩
theorem dP {k n : Int} {a b : ByteArray} {kids : List Tree} (hk : ¬ k = 110) (h : okVars (.node k n a b kids) = true) : ∀ t ∈ kids, okVars t = true := by
  simp only [okVars, if_neg hk] at h
  exact oO h
mutual
/-- A tree made anew, in which V has changed each variable; d: how many binders lie around. -/
def walkS {σ : Type} (V : Int → Int → σ → Tree × σ) : Tree → Int → σ → Tree × σ
  | .nil, _, s => (.nil, s)
  | .node k n a b kids, d, s => if k = 110 then V n d s else if kids.length = 0 then (.node k n a b kids, s) else
      (.node k n a b (walkSs V kids (d + bindsP k) s).1, (walkSs V kids (d + bindsP k) s).2)
def walkSs {σ : Type} (V : Int → Int → σ → Tree × σ) : List Tree → Int → σ → List Tree × σ
  | [], _, s => ([], s)
  | t :: ts, d, s => ((walkS V t d s).1 :: (walkSs V ts d (walkS V t d s).2).1, (walkSs V ts d (walkS V t d s).2).2)
end
section
variable {σ : Type} (V : Int → Int → σ → Tree × σ)
theorem eZ (n d : Int) (s : σ) (a b : ByteArray) (kids : List Tree) : walkS V (.node 110 n a b kids) d s = V n d s := by rw [walkS, if_pos rfl]
theorem gH {k : Int} (n d : Int) (s : σ) {a b : ByteArray} (hk : ¬ k = 110) : walkS V (.node k n a b []) d s = (.node k n a b [], s) := by rw [walkS, if_neg hk, if_pos List.length_nil]
theorem gI {k : Int} (n d : Int) (s : σ) {a b : ByteArray} {kids : List Tree} (hk : ¬ k = 110) (h0 : ¬ kids.length = 0) : walkS V (.node k n a b kids) d s = (.node k n a b (walkSs V kids (d + bindsP k) s).1, (walkSs V kids (d + bindsP k) s).2) := by rw [walkS, if_neg hk, if_neg h0]
theorem gJ (d : Int) (s : σ) : walkSs V [] d s = ([], s) := by rw [walkSs]
theorem oP (d : Int) : ∀ (l : List Tree) (t : Tree) (s : σ), walkSs V (l ++ [t]) d s = ((walkSs V l d s).1 ++ [(walkS V t d (walkSs V l d s).2).1], (walkS V t d (walkSs V l d s).2).2)
  | [], t, s => by simp [walkSs]
  | x :: l, t, s => by rw [List.cons_append, walkSs, oP d l t, walkSs]; rfl
theorem eR (d : Int) (s : σ) {l : List Tree} {j : Nat} (h : j < l.length) : walkSs V (l.take (j + 1)) d s = ((walkSs V (l.take j) d s).1 ++ [(walkS V l[j] d (walkSs V (l.take j) d s).2).1], (walkS V l[j] d (walkSs V (l.take j) d s).2).2) := by
  rw [List.take_succ_eq_append_getElem h, oP]
theorem dW : ∀ (l : List Tree) (d : Int) (s : σ), (walkSs V l d s).1.length = l.length
  | [], d, s => by rw [walkSs]
  | t :: ts, d, s => by rw [walkSs, List.length_cons, List.length_cons, dW ts]
end
theorem bR {t : Tree} (h : t ≠ .nil) : ∃ pc, t.iv = .ptr pc 0 := by
  cases t with
  | nil => exact absurd rfl h
  | node k n a b kids => exact ⟨_, by rw [Tree.iv]⟩
set_option maxRecDepth 10000 in
theorem uS (k n : Int) (a b : ByteArray) (kids : List Tree) : ACalls Tryz.prog 88 [.imm (Tree.iv (.node k n a b kids))] [] (.imm (.lit (.int .i64 (bindsP k)))) [] := by
  refine aH Tryz.func88 rfl rfl (nb rfl) rfl ?_
  repeat' (first | refine aE ?_ | (refine aG ?_;  first | refine aB tabOk rfl rfl rfl (nb rfl) rfl ?_ | (refine aI rfl rfl rfl (nb rfl) rfl rfl rfl (fun hq => ?_) (fun hq => ?_) <;> (first | (simp only [sD, sE, sB, sC, sN, sM, sT, sF] at hq; try (exfalso; omega)) | skip))) | (refine aK ?_;  first | refine aF ?_ | refine aL ?_ | refine bD ?_ | refine aR ?_ | refine aM ?_ | refine aS ?_ | refine aC (b := true) rfl (fun _ => ?_) nTf | refine aC (b := false) rfl nFt (fun _ => ?_)) | (refine aJ ?_;  first | refine aU ?_ | refine aN ?_) | (refine aP ?_;  first | refine bM ?_ | refine aX ?_))
  all_goals (refine aO (by first | exact .inl rfl | exact .inr rfl) (aW rfl (aA rfl)) rfl ?_; refine iJ ?_; unfold bindsP; first | (rw [if_pos (by omega)]; done) | (rw [if_neg (by omega)]; done))
/-- What is a kind, or a constructor, has no other variables. -/
theorem wC (t : Tree) : isKindP t = true → okVars t = true := by
  induction t using Tree.ind with
  | h1 => intro h; simp [isKindP] at h
  | h2 k n a b kids ih =>
    intro h
    rw [isKindP] at h
    split at h
    · rename_i e
      simp only [Bool.and_eq_true, beq_iff_eq] at h
      have e0 : kids = [] := List.eq_nil_of_length_eq_zero (by omega)
      subst e0
      rw [okVars, if_neg (by omega), okVarss]
    · split at h
      · rename_i e0 e
        simp only [Bool.and_eq_true] at h
        rw [okVars, if_neg (by omega)]
        refine iO fun t ht => ih t ht ?_
        rw [dI, List.all_map] at h
        exact List.all_eq_true.1 h.2 t ht
      · cases h
end Go.Proofs.YtocaohipfiapkaaGreatDoor.Ab
namespace Go.Proofs.YtocaohipfiapkaaGreatDoor.Ab
set_option linter.unusedVariables false
set_option linter.unusedSimpArgs false
attribute [local irreducible] AWP AOps AExit AThen ABlock ANoGoto FeetOk
set_option maxHeartbeats 8000000 in
set_option maxRecDepth 10000 in
theorem aDu {σ : Type} (V : Int → Int → σ → Tree × σ) (F : FuncId) (X0 X1 X2 : σ → IV) (J : σ → Prop)
    (hV : ∀ (n d : Int) s, J s → 0 ≤ n → n ≤ 65536 → 0 ≤ d → d ≤ 100000000 → ACalls Tryz.prog F ([.imm (varT n).iv, .imm (.lit (.int .i64 d)), .obj 1000 0, .obj 1001 0, .obj 1002 0]) [(1000, .cells [.imm (X0 s)]), (1001, .cells [.imm (X1 s)]), (1002, .cells [.imm (X2 s)])] (.imm (V n d s).1.iv) [(1000, .cells [.imm (X0 ((V n d s).2))]), (1001, .cells [.imm (X1 ((V n d s).2))]), (1002, .cells [.imm (X2 ((V n d s).2))])] ∧ J (V n d s).2 ∧ (V n d s).1 ≠ .nil) (t : Tree) :
    ∀ (d : Int) s, okVars t = true → t.whole = true → 0 ≤ d → d + t.size ≤ 100000000 → J s → ACalls Tryz.prog 67 [.imm t.iv, .imm (.lit (.int .i64 d)), .func F [] [.obj 1000 0, .obj 1001 0, .obj 1002 0]] [(1000, .cells [.imm (X0 s)]), (1001, .cells [.imm (X1 s)]), (1002, .cells [.imm (X2 s)])] (.imm (walkS V t d s).1.iv) [(1000, .cells [.imm (X0 ((walkS V t d s).2))]), (1001, .cells [.imm (X1 ((walkS V t d s).2))]), (1002, .cells [.imm (X2 ((walkS V t d s).2))])] ∧ J (walkS V t d s).2 ∧ (walkS V t d s).1 ≠ .nil := by
  induction t using Tree.ind with
  | h1 => intro d s _ h; simp [Tree.whole] at h
  | h2 k n a b kids ih =>
    intro d s hv hw hd hs hJ
    have hl := cG kids hw
    have hsz : (Tree.node k n a b kids).size = 1 + Tree.sizes kids := by rw [Tree.size]
    rw [hsz] at hs
    by_cases k110 : k = 110
    · obtain ⟨q1, q2, rfl, rfl, rfl⟩ := dV k110 hv
      subst k110
      have hc := hV n d s hJ q1 q2 hd (by omega)
      rw [eZ]
      refine ⟨?_, hc.2⟩
      have hc := hc.1
      generalize V n d s = R at *
      obtain ⟨R1, R2⟩ := R
      dsimp only at hc ⊢
      refine bX [1000, 1001, 1002] Tryz.func67 rfl rfl (nb rfl) rfl rfl ?_
      repeat' (first | refine aE ?_ | (refine aG ?_;  first | refine aB tabOk rfl rfl rfl (nb rfl) rfl ?_ | (refine aI rfl rfl rfl (nb rfl) rfl rfl rfl (fun hq => ?_) (fun hq => ?_) <;> (first | (simp only [sD, sE, sB, sC, sN, sM, sT, sF] at hq; try (exfalso; omega)) | skip)) | refine bW rfl rfl (nb rfl) rfl rfl rfl rfl hc (by repeat' first | exact trivial | refine ⟨rfl, ?_⟩) rfl (by show ([1000, 1001, 1002] : List Nat).Nodup; decide) ?_) | (refine aK ?_;  first | refine aF ?_ | refine aL ?_ | refine aM ?_ | refine aC (b := true) rfl (fun _ => ?_) nTf) | (refine aJ ?_;  first | refine aN ?_))
      all_goals first
        | exact absurd rfl (by assumption)
        | (refine cB (cA (by first | exact .inl rfl | exact .inr rfl) (aW rfl (aA rfl)) rfl (by repeat' first | exact trivial | refine ⟨rfl, ?_⟩) rfl ?_); rfl)
    · by_cases hk0 : kids.length = 0
      · have e0 : kids = [] := List.eq_nil_of_length_eq_zero hk0
        subst e0
        rw [gH _ _ _ _ k110]
        refine ⟨?_, hJ, by simp⟩
        refine bX [1000, 1001, 1002] Tryz.func67 rfl rfl (nb rfl) rfl rfl ?_
        repeat' (first | refine aE ?_ | (refine aG ?_;  first | refine aB tabOk rfl rfl rfl (nb rfl) rfl ?_ | (refine aI rfl rfl rfl (nb rfl) rfl rfl rfl (fun hq => ?_) (fun hq => ?_) <;> (first | (simp only [sD, sE, sB, sC, sN, sM, sT, sF] at hq; try (exfalso; omega)) | skip)) | refine aT tabOk rfl rfl (nb rfl) rfl ?_) | (refine aK ?_;  first | refine aF ?_ | refine aL ?_ | refine aM ?_ | refine aS ?_ | refine aC (b := true) rfl (fun _ => ?_) nTf | refine aC (b := false) rfl nFt (fun _ => ?_)) | (refine aJ ?_;  first | refine aU ?_ | refine aN ?_))
        all_goals first
          | exact absurd rfl (by assumption)
          | exact absurd (by assumption) k110
          | (refine cB (cA (by first | exact .inl rfl | exact .inr rfl) (aW rfl (aA rfl)) rfl (by repeat' first | exact trivial | refine ⟨rfl, ?_⟩) rfl ?_); rfl)
      · rw [gI _ _ _ _ k110 hk0]
        dsimp only
        have hb := eY k
        have hvs := dP k110 hv
        have hind : ∀ j (h : j < kids.length) s', J s' → ACalls Tryz.prog 67 [.imm kids[j].iv, .imm (.lit (.int .i64 (d + bindsP k))), .func F [] [.obj 1000 0, .obj 1001 0, .obj 1002 0]] [(1000, .cells [.imm (X0 s')]), (1001, .cells [.imm (X1 s')]), (1002, .cells [.imm (X2 s')])] (.imm (walkS V kids[j] (d + bindsP k) s').1.iv) [(1000, .cells [.imm (X0 ((walkS V kids[j] (d + bindsP k) s').2))]), (1001, .cells [.imm (X1 ((walkS V kids[j] (d + bindsP k) s').2))]), (1002, .cells [.imm (X2 ((walkS V kids[j] (d + bindsP k) s').2))])] ∧ J (walkS V kids[j] (d + bindsP k) s').2 ∧ (walkS V kids[j] (d + bindsP k) s').1 ≠ .nil := fun j h s' hJ' => by
          have hm := List.getElem_mem h
          have hz := cU hm
          exact ih _ hm _ s' (hvs _ hm) (bF hw hm) (by omega) (by omega) hJ'
        clear ih
        have hJs : ∀ j, j ≤ kids.length → J (walkSs V (kids.take j) (d + bindsP k) s).2 := by
          intro j
          induction j with
          | zero => intro _; rw [List.take_zero, gJ]; exact hJ
          | succ j ihj =>
            intro hj
            rw [eR V (d + bindsP k) s hj]
            exact (hind j hj _ (ihj (by omega))).2.1
        have hJe := hJs kids.length (Nat.le_refl _)
        rw [List.take_length] at hJe
        refine ⟨?_, hJe, by simp⟩
        clear hJe
        have cb := uS k n a b kids
        refine bX [1000, 1001, 1002] Tryz.func67 rfl rfl (nb rfl) rfl rfl ?_
        repeat' (first | refine aE ?_ | (refine aG ?_;  first | refine aB tabOk rfl rfl rfl (nb rfl) rfl ?_ | (refine aI rfl rfl rfl (nb rfl) rfl rfl rfl (fun hq => ?_) (fun hq => ?_) <;> (first | (simp only [sD, sE, sB, sC, sN, sM, sT, sF] at hq; try (exfalso; omega)) | skip)) | refine aT tabOk rfl rfl (nb rfl) rfl ?_ | refine cL tabOk rfl rfl rfl (nb rfl) rfl rfl rfl rfl rfl rfl ?_ | refine bG tabOk rfl rfl rfl rfl rfl rfl rfl rfl rfl rfl rfl ?_) | (refine aK ?_;  first | refine aF ?_ | refine aL ?_ | refine aR ?_ | refine aS ?_ | refine aC (b := false) rfl nFt (fun _ => ?_)) | (refine aJ ?_;  first | refine aU ?_))
        all_goals first
          | exact absurd (by assumption) k110
          | (exfalso; omega)
          | skip
        refine cP (fH (h0 := 7) (k0 := 4) 500 25 1 rfl rfl (by simp) rfl rfl) ?_
        refine bZ (ι := {j : Nat // j ≤ kids.length}) (fun j => S.f ⟨[(35, .imm (.lit (.int .i64 (j.1 : Int)))), (34, .imm (.lit (.int .i64 (kids.length : Int)))), (33, .imm (.sl false kids.length (Tree.ivs kids))), (7, .obj 7 0), (0, .imm (Tree.iv (.node k n a b kids))), (1, .imm (.lit (.int .i64 d))), (2, .func F [] [.obj 1000 0, .obj 1001 0, .obj 1002 0])], (500, .arr 25 1 j.1 (Tree.ivs (walkSs V (kids.take j.1) (d + bindsP k) s).1)) :: (7, .cells [.imm (.lit (.int .i64 k)), .imm (.lit (.int .i64 n)), .imm (.lit (.string a)), .imm (.lit (.string b)), .ref 500 j.1]) :: [(1000, .cells [.imm (X0 ((walkSs V (kids.take j.1) (d + bindsP k) s).2))]), (1001, .cells [.imm (X1 ((walkSs V (kids.take j.1) (d + bindsP k) s).2))]), (1002, .cells [.imm (X2 ((walkSs V (kids.take j.1) (d + bindsP k) s).2))])]⟩) (fun j => kids.length - j.1) ⟨0, Nat.zero_le _⟩ (bT (by repeat' first | exact trivial | refine ⟨rfl, ?_⟩) (by repeat' first | exact trivial | refine ⟨rfl, ?_⟩)) ?_
        rintro ⟨j, hj⟩
        dsimp only
        by_cases hlt : j < kids.length
        · have hget := cC kids j hlt
          have hnx := eR V (d + bindsP k) s hlt
          obtain ⟨hc, _, hnn⟩ := hind j hlt _ (hJs j hj)
          obtain ⟨pc, hpc⟩ := bR hnn
          rw [hpc] at hc
          have hll := dW V (kids.take j) (d + bindsP k) s
          rw [List.length_take, Nat.min_eq_left hj] at hll
          have hiv : Tree.ivs (walkSs V (kids.take (j + 1)) (d + bindsP k) s).1 = Tree.ivs (walkSs V (kids.take j) (d + bindsP k) s).1 ++ [(walkS V kids[j] (d + bindsP k) (walkSs V (kids.take j) (d + bindsP k) s).2).1.iv] := by
            rw [hnx, dC, dC, List.map_append]; rfl
          rw [hpc] at hiv
          clear hpc hnn
          have hst : (walkSs V (kids.take (j + 1)) (d + bindsP k) s).2 = (walkS V kids[j] (d + bindsP k) (walkSs V (kids.take j) (d + bindsP k) s).2).2 := by rw [hnx]
          clear hnx hind hJs
          have hil := dG (walkSs V (kids.take j) (d + bindsP k) s).1
          rw [hll] at hil
          generalize walkS V kids[j] (d + bindsP k) (walkSs V (kids.take j) (d + bindsP k) s).2 = W at *
          generalize walkSs V (kids.take j) (d + bindsP k) s = Z at *
          obtain ⟨W1, W2⟩ := W
          obtain ⟨Z1, Z2⟩ := Z
          dsimp only at *
          generalize Tree.ivs Z1 = ZI at *
          generalize hsum : d + bindsP k = dk at *
          repeat' (first | refine aE ?_ | (refine aG ?_;  first | refine aB tabOk rfl rfl rfl (nb rfl) rfl ?_ | (refine aI rfl rfl rfl (nb rfl) rfl rfl rfl (fun hq => ?_) (fun hq => ?_) <;> (first | (simp only [sD, sE, sB, sC, sN, sM, sT, sF] at hq; try (exfalso; omega)) | skip)) | refine bA tabOk rfl rfl rfl (nb rfl) rfl rfl rfl hget ?_ | refine aD rfl rfl (nb rfl) rfl rfl rfl rfl (cb) ?_ | refine cO (z := dk) rfl rfl rfl (nb rfl) rfl rfl hsum (by omega) (by omega) ?_ | refine bW rfl rfl (nb rfl) rfl rfl rfl rfl hc (by repeat' first | exact trivial | refine ⟨rfl, ?_⟩) rfl (by show ([1000, 1001, 1002] : List Nat).Nodup; decide) ?_ | refine cI tabOk rfl rfl rfl (nb rfl) rfl rfl rfl rfl rfl rfl rfl (by first | omega | decide) rfl (by first | omega | (dsimp only; omega)) (by first | omega | (dsimp only; omega)) ?_ | refine bO rfl rfl rfl (nb rfl) rfl rfl (by omega) ?_ | refine bS tabOk rfl rfl rfl (nb rfl) rfl rfl rfl rfl rfl rfl rfl rfl rfl ?_ | refine bK tabOk rfl rfl rfl (nb rfl) rfl rfl rfl rfl ?_ | refine bG tabOk rfl rfl rfl rfl rfl rfl rfl rfl rfl rfl rfl ?_ | refine bB tabOk rfl rfl rfl (nb rfl) rfl rfl rfl rfl (by first | assumption | omega) ?_) | (refine aK ?_;  first | refine aF ?_ | refine aL ?_ | refine bD ?_ | refine aR ?_ | refine aS ?_ | refine aC (b := true) rfl (fun _ => ?_) nTf | refine aQ mixed (by kernel_rfl) ?_) | (refine aJ ?_;  first | refine aU ?_) | (refine aP ?_;  first | refine bM ?_) | refine bC (aZ (by kernel_rfl)) ?_)
          all_goals first
            | (exfalso; omega)
            | (refine ⟨⟨j + 1, hlt⟩, (by show kids.length - (j + 1) < kids.length - j; omega), ?_⟩; dsimp only; rw [hiv, hst]; exact (bT (by repeat' first | exact trivial | refine ⟨rfl, ?_⟩) (by repeat' first | exact trivial | refine ⟨rfl, ?_⟩)))
        · have ej : j = kids.length := by omega
          subst ej
          rw [List.take_length]
          have hll := dW V kids (d + bindsP k) s
          clear hind hJs
          generalize walkSs V kids (d + bindsP k) s = Z at *
          obtain ⟨Z1, Z2⟩ := Z
          dsimp only at *
          have hiv : (Tree.node k n a b Z1).iv = .ptr [.lit (.int .i64 k), .lit (.int .i64 n), .lit (.string a), .lit (.string b), .sl false kids.length (Tree.ivs Z1)] 0 := by rw [Tree.iv, hll]
          rw [hiv]
          generalize Tree.ivs Z1 = ZI at *
          repeat' (first | refine aE ?_ | (refine aG ?_;  first | refine aB tabOk rfl rfl rfl (nb rfl) rfl ?_ | (refine aI rfl rfl rfl (nb rfl) rfl rfl rfl (fun hq => ?_) (fun hq => ?_) <;> (first | (simp only [sD, sE, sB, sC, sN, sM, sT, sF] at hq; try (exfalso; omega)) | skip))) | (refine aK ?_;  first | refine aF ?_ | refine aL ?_ | refine aM ?_ | refine bQ ?_ | refine aC (b := false) rfl nFt (fun _ => ?_)) | (refine aJ ?_;  first | refine aU ?_ | refine bH ?_) | (refine aP ?_;  first | refine bE ?_))
          all_goals first
            | (exfalso; omega)
            | (refine nS ((Imp.of_le (σ' := S.f ⟨[(6, .obj 7 0)], (500, .arr 25 1 kids.length ZI) :: (7, .cells [.imm (.lit (.int .i64 k)), .imm (.lit (.int .i64 n)), .imm (.lit (.string a)), .imm (.lit (.string b)), .ref 500 kids.length]) :: [(1000, .cells [.imm (X0 Z2)]), (1001, .cells [.imm (X1 Z2)]), (1002, .cells [.imm (X2 Z2)])]⟩) (bT (by repeat' first | exact trivial | refine ⟨rfl, ?_⟩) (by repeat' first | exact trivial | refine ⟨rfl, ?_⟩))).trans ((cM (g := 500) rfl (by repeat' first | exact trivial | exact fun _ => rfl | refine ⟨?_, ?_⟩) (by repeat' first | exact trivial | exact fun _ => rfl | refine ⟨?_, ?_⟩)).trans (dU (g := 7) rfl rfl))) ?_
               refine cA (by first | exact .inl rfl | exact .inr rfl) (aW rfl (aA rfl)) rfl (by repeat' first | exact trivial | refine ⟨rfl, ?_⟩) rfl rfl)
set_option maxHeartbeats 8000000 in
set_option maxRecDepth 10000 in
theorem aDv {σ : Type} (V : Int → Int → σ → Tree × σ) (F : FuncId) (X0 X1 X2 X3 X4 : σ → IV) (J : σ → Prop)
    (hV : ∀ (n d : Int) s, J s → 0 ≤ n → n ≤ 65536 → 0 ≤ d → d ≤ 100000000 → ACalls Tryz.prog F ([.imm (varT n).iv, .imm (.lit (.int .i64 d)), .obj 1000 0, .obj 1001 0, .obj 1002 0, .obj 1003 0, .obj 1004 0]) [(1000, .cells [.imm (X0 s)]), (1001, .cells [.imm (X1 s)]), (1002, .cells [.imm (X2 s)]), (1003, .cells [.imm (X3 s)]), (1004, .cells [.imm (X4 s)])] (.imm (V n d s).1.iv) [(1000, .cells [.imm (X0 ((V n d s).2))]), (1001, .cells [.imm (X1 ((V n d s).2))]), (1002, .cells [.imm (X2 ((V n d s).2))]), (1003, .cells [.imm (X3 ((V n d s).2))]), (1004, .cells [.imm (X4 ((V n d s).2))])] ∧ J (V n d s).2 ∧ (V n d s).1 ≠ .nil) (t : Tree) :
    ∀ (d : Int) s, okVars t = true → t.whole = true → 0 ≤ d → d + t.size ≤ 100000000 → J s → ACalls Tryz.prog 67 [.imm t.iv, .imm (.lit (.int .i64 d)), .func F [] [.obj 1000 0, .obj 1001 0, .obj 1002 0, .obj 1003 0, .obj 1004 0]] [(1000, .cells [.imm (X0 s)]), (1001, .cells [.imm (X1 s)]), (1002, .cells [.imm (X2 s)]), (1003, .cells [.imm (X3 s)]), (1004, .cells [.imm (X4 s)])] (.imm (walkS V t d s).1.iv) [(1000, .cells [.imm (X0 ((walkS V t d s).2))]), (1001, .cells [.imm (X1 ((walkS V t d s).2))]), (1002, .cells [.imm (X2 ((walkS V t d s).2))]), (1003, .cells [.imm (X3 ((walkS V t d s).2))]), (1004, .cells [.imm (X4 ((walkS V t d s).2))])] ∧ J (walkS V t d s).2 ∧ (walkS V t d s).1 ≠ .nil := by
  induction t using Tree.ind with
  | h1 => intro d s _ h; simp [Tree.whole] at h
  | h2 k n a b kids ih =>
    intro d s hv hw hd hs hJ
    have hl := cG kids hw
    have hsz : (Tree.node k n a b kids).size = 1 + Tree.sizes kids := by rw [Tree.size]
    rw [hsz] at hs
    by_cases k110 : k = 110
    · obtain ⟨q1, q2, rfl, rfl, rfl⟩ := dV k110 hv
      subst k110
      have hc := hV n d s hJ q1 q2 hd (by omega)
      rw [eZ]
      refine ⟨?_, hc.2⟩
      have hc := hc.1
      generalize V n d s = R at *
      obtain ⟨R1, R2⟩ := R
      dsimp only at hc ⊢
      refine bX [1000, 1001, 1002, 1003, 1004] Tryz.func67 rfl rfl (nb rfl) rfl rfl ?_
      repeat' (first | refine aE ?_ | (refine aG ?_;  first | refine aB tabOk rfl rfl rfl (nb rfl) rfl ?_ | (refine aI rfl rfl rfl (nb rfl) rfl rfl rfl (fun hq => ?_) (fun hq => ?_) <;> (first | (simp only [sD, sE, sB, sC, sN, sM, sT, sF] at hq; try (exfalso; omega)) | skip)) | refine bW rfl rfl (nb rfl) rfl rfl rfl rfl hc (by repeat' first | exact trivial | refine ⟨rfl, ?_⟩) rfl (by show ([1000, 1001, 1002, 1003, 1004] : List Nat).Nodup; decide) ?_) | (refine aK ?_;  first | refine aF ?_ | refine aL ?_ | refine aM ?_ | refine aC (b := true) rfl (fun _ => ?_) nTf) | (refine aJ ?_;  first | refine aN ?_))
      all_goals first
        | exact absurd rfl (by assumption)
        | (refine cB (cA (by first | exact .inl rfl | exact .inr rfl) (aW rfl (aA rfl)) rfl (by repeat' first | exact trivial | refine ⟨rfl, ?_⟩) rfl ?_); rfl)
    · by_cases hk0 : kids.length = 0
      · have e0 : kids = [] := List.eq_nil_of_length_eq_zero hk0
        subst e0
        rw [gH _ _ _ _ k110]
        refine ⟨?_, hJ, by simp⟩
        refine bX [1000, 1001, 1002, 1003, 1004] Tryz.func67 rfl rfl (nb rfl) rfl rfl ?_
        repeat' (first | refine aE ?_ | (refine aG ?_;  first | refine aB tabOk rfl rfl rfl (nb rfl) rfl ?_ | (refine aI rfl rfl rfl (nb rfl) rfl rfl rfl (fun hq => ?_) (fun hq => ?_) <;> (first | (simp only [sD, sE, sB, sC, sN, sM, sT, sF] at hq; try (exfalso; omega)) | skip)) | refine aT tabOk rfl rfl (nb rfl) rfl ?_) | (refine aK ?_;  first | refine aF ?_ | refine aL ?_ | refine aM ?_ | refine aS ?_ | refine aC (b := true) rfl (fun _ => ?_) nTf | refine aC (b := false) rfl nFt (fun _ => ?_)) | (refine aJ ?_;  first | refine aU ?_ | refine aN ?_))
        all_goals first
          | exact absurd rfl (by assumption)
          | exact absurd (by assumption) k110
          | (refine cB (cA (by first | exact .inl rfl | exact .inr rfl) (aW rfl (aA rfl)) rfl (by repeat' first | exact trivial | refine ⟨rfl, ?_⟩) rfl ?_); rfl)
      · rw [gI _ _ _ _ k110 hk0]
        dsimp only
        have hb := eY k
        have hvs := dP k110 hv
        have hind : ∀ j (h : j < kids.length) s', J s' → ACalls Tryz.prog 67 [.imm kids[j].iv, .imm (.lit (.int .i64 (d + bindsP k))), .func F [] [.obj 1000 0, .obj 1001 0, .obj 1002 0, .obj 1003 0, .obj 1004 0]] [(1000, .cells [.imm (X0 s')]), (1001, .cells [.imm (X1 s')]), (1002, .cells [.imm (X2 s')]), (1003, .cells [.imm (X3 s')]), (1004, .cells [.imm (X4 s')])] (.imm (walkS V kids[j] (d + bindsP k) s').1.iv) [(1000, .cells [.imm (X0 ((walkS V kids[j] (d + bindsP k) s').2))]), (1001, .cells [.imm (X1 ((walkS V kids[j] (d + bindsP k) s').2))]), (1002, .cells [.imm (X2 ((walkS V kids[j] (d + bindsP k) s').2))]), (1003, .cells [.imm (X3 ((walkS V kids[j] (d + bindsP k) s').2))]), (1004, .cells [.imm (X4 ((walkS V kids[j] (d + bindsP k) s').2))])] ∧ J (walkS V kids[j] (d + bindsP k) s').2 ∧ (walkS V kids[j] (d + bindsP k) s').1 ≠ .nil := fun j h s' hJ' => by
          have hm := List.getElem_mem h
          have hz := cU hm
          exact ih _ hm _ s' (hvs _ hm) (bF hw hm) (by omega) (by omega) hJ'
        clear ih
        have hJs : ∀ j, j ≤ kids.length → J (walkSs V (kids.take j) (d + bindsP k) s).2 := by
          intro j
          induction j with
          | zero => intro _; rw [List.take_zero, gJ]; exact hJ
          | succ j ihj =>
            intro hj
            rw [eR V (d + bindsP k) s hj]
            exact (hind j hj _ (ihj (by omega))).2.1
        have hJe := hJs kids.length (Nat.le_refl _)
        rw [List.take_length] at hJe
        refine ⟨?_, hJe, by simp⟩
        clear hJe
        have cb := uS k n a b kids
        refine bX [1000, 1001, 1002, 1003, 1004] Tryz.func67 rfl rfl (nb rfl) rfl rfl ?_
        repeat' (first | refine aE ?_ | (refine aG ?_;  first | refine aB tabOk rfl rfl rfl (nb rfl) rfl ?_ | (refine aI rfl rfl rfl (nb rfl) rfl rfl rfl (fun hq => ?_) (fun hq => ?_) <;> (first | (simp only [sD, sE, sB, sC, sN, sM, sT, sF] at hq; try (exfalso; omega)) | skip)) | refine aT tabOk rfl rfl (nb rfl) rfl ?_ | refine cL tabOk rfl rfl rfl (nb rfl) rfl rfl rfl rfl rfl rfl ?_ | refine bG tabOk rfl rfl rfl rfl rfl rfl rfl rfl rfl rfl rfl ?_) | (refine aK ?_;  first | refine aF ?_ | refine aL ?_ | refine aR ?_ | refine aS ?_ | refine aC (b := false) rfl nFt (fun _ => ?_)) | (refine aJ ?_;  first | refine aU ?_))
        all_goals first
          | exact absurd (by assumption) k110
          | (exfalso; omega)
          | skip
        refine cP (fH (h0 := 7) (k0 := 4) 500 25 1 rfl rfl (by simp) rfl rfl) ?_
        refine bZ (ι := {j : Nat // j ≤ kids.length}) (fun j => S.f ⟨[(35, .imm (.lit (.int .i64 (j.1 : Int)))), (34, .imm (.lit (.int .i64 (kids.length : Int)))), (33, .imm (.sl false kids.length (Tree.ivs kids))), (7, .obj 7 0), (0, .imm (Tree.iv (.node k n a b kids))), (1, .imm (.lit (.int .i64 d))), (2, .func F [] [.obj 1000 0, .obj 1001 0, .obj 1002 0, .obj 1003 0, .obj 1004 0])], (500, .arr 25 1 j.1 (Tree.ivs (walkSs V (kids.take j.1) (d + bindsP k) s).1)) :: (7, .cells [.imm (.lit (.int .i64 k)), .imm (.lit (.int .i64 n)), .imm (.lit (.string a)), .imm (.lit (.string b)), .ref 500 j.1]) :: [(1000, .cells [.imm (X0 ((walkSs V (kids.take j.1) (d + bindsP k) s).2))]), (1001, .cells [.imm (X1 ((walkSs V (kids.take j.1) (d + bindsP k) s).2))]), (1002, .cells [.imm (X2 ((walkSs V (kids.take j.1) (d + bindsP k) s).2))]), (1003, .cells [.imm (X3 ((walkSs V (kids.take j.1) (d + bindsP k) s).2))]), (1004, .cells [.imm (X4 ((walkSs V (kids.take j.1) (d + bindsP k) s).2))])]⟩) (fun j => kids.length - j.1) ⟨0, Nat.zero_le _⟩ (bT (by repeat' first | exact trivial | refine ⟨rfl, ?_⟩) (by repeat' first | exact trivial | refine ⟨rfl, ?_⟩)) ?_
        rintro ⟨j, hj⟩
        dsimp only
        by_cases hlt : j < kids.length
        · have hget := cC kids j hlt
          have hnx := eR V (d + bindsP k) s hlt
          obtain ⟨hc, _, hnn⟩ := hind j hlt _ (hJs j hj)
          obtain ⟨pc, hpc⟩ := bR hnn
          rw [hpc] at hc
          have hll := dW V (kids.take j) (d + bindsP k) s
          rw [List.length_take, Nat.min_eq_left hj] at hll
          have hiv : Tree.ivs (walkSs V (kids.take (j + 1)) (d + bindsP k) s).1 = Tree.ivs (walkSs V (kids.take j) (d + bindsP k) s).1 ++ [(walkS V kids[j] (d + bindsP k) (walkSs V (kids.take j) (d + bindsP k) s).2).1.iv] := by
            rw [hnx, dC, dC, List.map_append]; rfl
          rw [hpc] at hiv
          clear hpc hnn
          have hst : (walkSs V (kids.take (j + 1)) (d + bindsP k) s).2 = (walkS V kids[j] (d + bindsP k) (walkSs V (kids.take j) (d + bindsP k) s).2).2 := by rw [hnx]
          clear hnx hind hJs
          have hil := dG (walkSs V (kids.take j) (d + bindsP k) s).1
          rw [hll] at hil
          generalize walkS V kids[j] (d + bindsP k) (walkSs V (kids.take j) (d + bindsP k) s).2 = W at *
          generalize walkSs V (kids.take j) (d + bindsP k) s = Z at *
          obtain ⟨W1, W2⟩ := W
          obtain ⟨Z1, Z2⟩ := Z
          dsimp only at *
          generalize Tree.ivs Z1 = ZI at *
          generalize hsum : d + bindsP k = dk at *
          repeat' (first | refine aE ?_ | (refine aG ?_;  first | refine aB tabOk rfl rfl rfl (nb rfl) rfl ?_ | (refine aI rfl rfl rfl (nb rfl) rfl rfl rfl (fun hq => ?_) (fun hq => ?_) <;> (first | (simp only [sD, sE, sB, sC, sN, sM, sT, sF] at hq; try (exfalso; omega)) | skip)) | refine bA tabOk rfl rfl rfl (nb rfl) rfl rfl rfl hget ?_ | refine aD rfl rfl (nb rfl) rfl rfl rfl rfl (cb) ?_ | refine cO (z := dk) rfl rfl rfl (nb rfl) rfl rfl hsum (by omega) (by omega) ?_ | refine bW rfl rfl (nb rfl) rfl rfl rfl rfl hc (by repeat' first | exact trivial | refine ⟨rfl, ?_⟩) rfl (by show ([1000, 1001, 1002, 1003, 1004] : List Nat).Nodup; decide) ?_ | refine cI tabOk rfl rfl rfl (nb rfl) rfl rfl rfl rfl rfl rfl rfl (by first | omega | decide) rfl (by first | omega | (dsimp only; omega)) (by first | omega | (dsimp only; omega)) ?_ | refine bO rfl rfl rfl (nb rfl) rfl rfl (by omega) ?_ | refine bS tabOk rfl rfl rfl (nb rfl) rfl rfl rfl rfl rfl rfl rfl rfl rfl ?_ | refine bK tabOk rfl rfl rfl (nb rfl) rfl rfl rfl rfl ?_ | refine bG tabOk rfl rfl rfl rfl rfl rfl rfl rfl rfl rfl rfl ?_ | refine bB tabOk rfl rfl rfl (nb rfl) rfl rfl rfl rfl (by first | assumption | omega) ?_) | (refine aK ?_;  first | refine aF ?_ | refine aL ?_ | refine bD ?_ | refine aR ?_ | refine aS ?_ | refine aC (b := true) rfl (fun _ => ?_) nTf | refine aQ mixed (by kernel_rfl) ?_) | (refine aJ ?_;  first | refine aU ?_) | (refine aP ?_;  first | refine bM ?_) | refine bC (aZ (by kernel_rfl)) ?_)
          all_goals first
            | (exfalso; omega)
            | (refine ⟨⟨j + 1, hlt⟩, (by show kids.length - (j + 1) < kids.length - j; omega), ?_⟩; dsimp only; rw [hiv, hst]; exact (bT (by repeat' first | exact trivial | refine ⟨rfl, ?_⟩) (by repeat' first | exact trivial | refine ⟨rfl, ?_⟩)))
        · have ej : j = kids.length := by omega
          subst ej
          rw [List.take_length]
          have hll := dW V kids (d + bindsP k) s
          clear hind hJs
          generalize walkSs V kids (d + bindsP k) s = Z at *
          obtain ⟨Z1, Z2⟩ := Z
          dsimp only at *
          have hiv : (Tree.node k n a b Z1).iv = .ptr [.lit (.int .i64 k), .lit (.int .i64 n), .lit (.string a), .lit (.string b), .sl false kids.length (Tree.ivs Z1)] 0 := by rw [Tree.iv, hll]
          rw [hiv]
          generalize Tree.ivs Z1 = ZI at *
          repeat' (first | refine aE ?_ | (refine aG ?_;  first | refine aB tabOk rfl rfl rfl (nb rfl) rfl ?_ | (refine aI rfl rfl rfl (nb rfl) rfl rfl rfl (fun hq => ?_) (fun hq => ?_) <;> (first | (simp only [sD, sE, sB, sC, sN, sM, sT, sF] at hq; try (exfalso; omega)) | skip))) | (refine aK ?_;  first | refine aF ?_ | refine aL ?_ | refine aM ?_ | refine bQ ?_ | refine aC (b := false) rfl nFt (fun _ => ?_)) | (refine aJ ?_;  first | refine aU ?_ | refine bH ?_) | (refine aP ?_;  first | refine bE ?_))
          all_goals first
            | (exfalso; omega)
            | (refine nS ((Imp.of_le (σ' := S.f ⟨[(6, .obj 7 0)], (500, .arr 25 1 kids.length ZI) :: (7, .cells [.imm (.lit (.int .i64 k)), .imm (.lit (.int .i64 n)), .imm (.lit (.string a)), .imm (.lit (.string b)), .ref 500 kids.length]) :: [(1000, .cells [.imm (X0 Z2)]), (1001, .cells [.imm (X1 Z2)]), (1002, .cells [.imm (X2 Z2)]), (1003, .cells [.imm (X3 Z2)]), (1004, .cells [.imm (X4 Z2)])]⟩) (bT (by repeat' first | exact trivial | refine ⟨rfl, ?_⟩) (by repeat' first | exact trivial | refine ⟨rfl, ?_⟩))).trans ((cM (g := 500) rfl (by repeat' first | exact trivial | exact fun _ => rfl | refine ⟨?_, ?_⟩) (by repeat' first | exact trivial | exact fun _ => rfl | refine ⟨?_, ?_⟩)).trans (dU (g := 7) rfl rfl))) ?_
               refine cA (by first | exact .inl rfl | exact .inr rfl) (aW rfl (aA rfl)) rfl (by repeat' first | exact trivial | refine ⟨rfl, ?_⟩) rfl rfl)
end Go.Proofs.YtocaohipfiapkaaGreatDoor.Ab
namespace Go.Proofs.YtocaohipfiapkaaGreatDoor.Ab
set_option linter.unusedVariables false
set_option linter.unusedSimpArgs false
attribute [local irreducible] AWP AOps AExit AThen ABlock ANoGoto FeetOk
set_option maxHeartbeats 4000000 in
set_option maxRecDepth 10000 in
theorem aAj (k n : Int) (a b : ByteArray) (kids : List Tree) (by_ : Int) (h1 : 0 ≤ n + by_) (h2 : n + by_ ≤ 65536) : ACalls Tryz.prog 69 [.imm (Tree.iv (.node k n a b kids)), .imm (.lit (.int .i64 by_))] [] (.imm (varT (n + by_)).iv) [] := by
  generalize hz : n + by_ = z at *
  refine cK Tryz.func69 rfl rfl (nb rfl) rfl ?_
  repeat' (first | refine aE ?_ | (refine aG ?_;  first | refine aB tabOk rfl rfl rfl (nb rfl) rfl ?_ | refine cO (z := z) rfl rfl rfl (nb rfl) rfl rfl hz (by omega) (by omega) ?_ | refine eP tabOk rfl rfl rfl (nb rfl) rfl rfl rfl rfl rfl ?_ | refine kS (t := 34) rfl rfl rfl (nb rfl) rfl rfl rfl rfl rfl rfl rfl ?_) | (refine aK ?_;  first | refine aF ?_ | refine aM ?_))
  all_goals (refine dS (dU (g := 12) rfl rfl) ?_; refine aO (by first | exact .inl rfl | exact .inr rfl) (aW rfl (aA rfl)) rfl ?_; rfl)
/-- What Shift makes of a variable. -/
def shiftV (by_ from_ : Int) (n d : Int) (ok : Bool) : Tree × Bool :=
  if n < d ∨ n - d < from_ then (varT n, ok)
  else if ok = true ∧ d - n ≤ by_ ∧ by_ ≤ 65536 - n then (varT (n + by_), true) else (varT n, false)
set_option maxHeartbeats 8000000 in
set_option maxRecDepth 10000 in
theorem aCn (by_ from_ : Int) (n d : Int) (ok : Bool) (hn0 : 0 ≤ n) (hn : n ≤ 65536) (hd0 : 0 ≤ d) (hd : d ≤ 100000000) :
    ACalls Tryz.prog 68 [.imm (varT n).iv, .imm (.lit (.int .i64 d)), .obj 1000 0, .obj 1001 0, .obj 1002 0] [(1000, .cells [.imm (.lit (.int .i64 from_))]), (1001, .cells [.imm (.lit (.bool ok))]), (1002, .cells [.imm (.lit (.int .i64 by_))])]
      (.imm (shiftV by_ from_ n d ok).1.iv) [(1000, .cells [.imm (.lit (.int .i64 from_))]), (1001, .cells [.imm (.lit (.bool (shiftV by_ from_ n d ok).2))]), (1002, .cells [.imm (.lit (.int .i64 by_))])] := by
  by_cases h1 : n < d ∨ n - d < from_
  · have e : shiftV by_ from_ n d ok = (varT n, ok) := if_pos h1
    rw [e]
    unfold varT
    refine bX [1000, 1001, 1002] Tryz.func68 rfl rfl (nb rfl) rfl rfl ?_
    repeat' (first | refine aE ?_ | (refine aG ?_;  first | refine aB tabOk rfl rfl rfl (nb rfl) rfl ?_ | refine bL rfl rfl (nb rfl) ?_ | (refine aI rfl rfl rfl (nb rfl) rfl rfl rfl (fun hq => ?_) (fun hq => ?_) <;> (first | (simp only [sD, sE, sB, sC, sN, sM, sT, sF] at hq; try (exfalso; omega)) | skip)) | refine cF rfl rfl rfl (nb rfl) rfl rfl rfl (by omega) (by omega) ?_ | refine bK tabOk rfl rfl rfl (nb rfl) rfl rfl rfl rfl ?_) | (refine aK ?_;  first | refine aF ?_ | refine aL ?_ | refine aM ?_ | refine aC (b := true) rfl (fun _ => ?_) nTf | refine aQ mixed (by kernel_rfl) ?_) | (refine aJ ?_;  first | refine aU ?_ | refine aN ?_) | refine bC (aZ (by kernel_rfl)) ?_)
    all_goals first
      | exact absurd rfl (by assumption)
      | (exfalso; omega)
      | (refine cB (cA (by first | exact .inl rfl | exact .inr rfl) (aW rfl (aA rfl)) rfl (by repeat' first | exact trivial | refine ⟨rfl, ?_⟩) rfl ?_); rfl)
  · by_cases h2 : ok = true ∧ d - n ≤ by_ ∧ by_ ≤ 65536 - n
    · have e : shiftV by_ from_ n d ok = (varT (n + by_), true) := by unfold shiftV; rw [if_neg h1, if_pos h2]
      rw [e]
      have cm := aAj 110 n emptyB emptyB [] by_ (by omega) (by omega)
      obtain ⟨hok, h3, h4⟩ := h2
      subst hok
      generalize varT (n + by_) = Z at *
      unfold varT
      refine bX [1000, 1001, 1002] Tryz.func68 rfl rfl (nb rfl) rfl rfl ?_
      repeat' (first | refine aE ?_ | (refine aG ?_;  first | refine aB tabOk rfl rfl rfl (nb rfl) rfl ?_ | (refine aI rfl rfl rfl (nb rfl) rfl rfl rfl (fun hq => ?_) (fun hq => ?_) <;> (first | (simp only [sD, sE, sB, sC, sN, sM, sT, sF] at hq; try (exfalso; omega)) | skip)) | refine aD rfl rfl (nb rfl) rfl rfl rfl rfl (cm) ?_ | refine cF rfl rfl rfl (nb rfl) rfl rfl rfl (by omega) (by omega) ?_ | refine bK tabOk rfl rfl rfl (nb rfl) rfl rfl rfl rfl ?_ | refine bG tabOk rfl rfl rfl rfl rfl rfl rfl rfl rfl rfl rfl ?_) | (refine aK ?_;  first | refine aF ?_ | refine aL ?_ | refine aM ?_ | refine aS ?_ | refine aC (b := false) rfl nFt (fun _ => ?_) | refine aQ mixed (by kernel_rfl) ?_) | (refine aJ ?_;  first | refine aU ?_) | refine bC (aZ (by kernel_rfl)) ?_)
      all_goals first
        | exact absurd rfl (by assumption)
        | (exfalso; omega)
        | (refine cB (cA (by first | exact .inl rfl | exact .inr rfl) (aW rfl (aA rfl)) rfl (by repeat' first | exact trivial | refine ⟨rfl, ?_⟩) rfl ?_); rfl)
    · have e : shiftV by_ from_ n d ok = (varT n, false) := by unfold shiftV; rw [if_neg h1, if_neg h2]
      rw [e]
      unfold varT
      cases ok with
      | false =>
        refine bX [1000, 1001, 1002] Tryz.func68 rfl rfl (nb rfl) rfl rfl ?_
        repeat' (first | refine aE ?_ | (refine aG ?_;  first | refine aB tabOk rfl rfl rfl (nb rfl) rfl ?_ | refine bL rfl rfl (nb rfl) ?_ | (refine aI rfl rfl rfl (nb rfl) rfl rfl rfl (fun hq => ?_) (fun hq => ?_) <;> (first | (simp only [sD, sE, sB, sC, sN, sM, sT, sF] at hq; try (exfalso; omega)) | skip)) | refine cF rfl rfl rfl (nb rfl) rfl rfl rfl (by omega) (by omega) ?_ | refine bK tabOk rfl rfl rfl (nb rfl) rfl rfl rfl rfl ?_ | refine bG tabOk rfl rfl rfl rfl rfl rfl rfl rfl rfl rfl rfl ?_) | (refine aK ?_;  first | refine aF ?_ | refine aL ?_ | refine aM ?_ | refine aS ?_ | refine aC (b := true) rfl (fun _ => ?_) nTf | refine aC (b := false) rfl nFt (fun _ => ?_) | refine aQ mixed (by kernel_rfl) ?_) | (refine aJ ?_;  first | refine aU ?_ | refine aN ?_) | refine bC (aZ (by kernel_rfl)) ?_)
        all_goals first
          | exact absurd rfl (by assumption)
          | (exfalso; omega)
          | (refine cB (cA (by first | exact .inl rfl | exact .inr rfl) (aW rfl (aA rfl)) rfl (by repeat' first | exact trivial | refine ⟨rfl, ?_⟩) rfl ?_); rfl)
      | true =>
        have h2 : ¬ (d - n ≤ by_ ∧ by_ ≤ 65536 - n) := fun h => h2 ⟨rfl, h⟩
        refine bX [1000, 1001, 1002] Tryz.func68 rfl rfl (nb rfl) rfl rfl ?_
        repeat' (first | refine aE ?_ | (refine aG ?_;  first | refine aB tabOk rfl rfl rfl (nb rfl) rfl ?_ | refine bL rfl rfl (nb rfl) ?_ | (refine aI rfl rfl rfl (nb rfl) rfl rfl rfl (fun hq => ?_) (fun hq => ?_) <;> (first | (simp only [sD, sE, sB, sC, sN, sM, sT, sF] at hq; try (exfalso; omega)) | skip)) | refine cF rfl rfl rfl (nb rfl) rfl rfl rfl (by omega) (by omega) ?_ | refine bK tabOk rfl rfl rfl (nb rfl) rfl rfl rfl rfl ?_ | refine bG tabOk rfl rfl rfl rfl rfl rfl rfl rfl rfl rfl rfl ?_) | (refine aK ?_;  first | refine aF ?_ | refine aL ?_ | refine aM ?_ | refine aS ?_ | refine aC (b := true) rfl (fun _ => ?_) nTf | refine aC (b := false) rfl nFt (fun _ => ?_) | refine aQ mixed (by kernel_rfl) ?_) | (refine aJ ?_;  first | refine aU ?_ | refine aN ?_) | refine bC (aZ (by kernel_rfl)) ?_)
        all_goals first
          | exact absurd rfl (by assumption)
          | (exfalso; omega)
          | (refine cB (cA (by first | exact .inl rfl | exact .inr rfl) (aW rfl (aA rfl)) rfl (by repeat' first | exact trivial | refine ⟨rfl, ?_⟩) rfl ?_); rfl)
end Go.Proofs.YtocaohipfiapkaaGreatDoor.Ab
namespace Go.Proofs.YtocaohipfiapkaaGreatDoor.Ab
set_option linter.unusedVariables false
set_option linter.unusedSimpArgs false
attribute [local irreducible] AWP AOps AExit AThen ABlock ANoGoto FeetOk
theorem aAk {a b : ByteArray} (h : eqB a b = true) : a = b := (dO a b).1 h
theorem jP {kind : Int} (hk : kind ≠ 110) {t : Tree} (ih : ∀ t' : Tree, t'.size < t.size → isConP t' = true → okVars t' = true) (h : okNamed kind t = true) : okVars t = true := by
  cases t with
  | nil => simp [okNamed] at h
  | node k n a b ks =>
    simp only [okNamed, Bool.and_eq_true, beq_iff_eq] at h
    obtain ⟨⟨⟨rfl, _⟩, _⟩, h⟩ := h
    by_cases h1 : ks.length = 1
    · obtain ⟨c, rfl⟩ := one_of h1
      rw [okVars, if_neg hk]
      refine iO fun t ht => ?_
      obtain rfl := List.mem_singleton.1 ht
      exact ih t (bN (by simp)) (by simpa [isCon1] using h)
    · rw [eX h1] at h; cases h
/-- A constructor has no other variables than may be. -/
theorem dR (t : Tree) : isConP t = true → okVars t = true := by
  induction t using Tree.sind with
  | h t ih =>
    intro h
    cases t with
    | nil => simp [isConP] at h
    | node k n a b kids =>
      rw [isConP, Bool.and_eq_true] at h
      obtain ⟨hb, h⟩ := h
      by_cases k0 : k = 110
      · rw [if_pos k0] at h
        subst k0
        simp only [bareP, Bool.and_eq_true, Bool.or_eq_true, beq_self_eq_true, true_or, or_true, Bool.false_eq_true, false_or, decide_eq_true_eq, beq_iff_eq, and_true] at hb h
        rw [okVars, if_pos rfl]
        have e0 : kids = [] := List.eq_nil_of_length_eq_zero (by omega)
        rw [decide_eq_true ⟨h.1.1, h.1.2⟩, decide_eq_true (aAk hb.2), decide_eq_true (aAk hb.1), e0]
        rfl
      · rw [if_neg k0] at h
        have kid : ∀ t ∈ kids, isConP t = true → okVars t = true := fun t ht => ih t (bN ht)
        rw [okVars, if_neg k0]
        refine iO fun t ht => ?_
        by_cases k1 : k = 111 ∨ k = 112 ∨ k = 113
        · rw [if_pos k1] at h
          have e0 : kids = [] := List.eq_nil_of_length_eq_zero (by simpa using h)
          rw [e0] at ht
          cases ht
        · rw [if_neg k1] at h
          by_cases k2 : k = 114 ∨ k = 120
          · rw [if_pos k2, Bool.and_eq_true, eL] at h
            exact kid t ht (List.all_eq_true.1 h.2 t ht)
          · rw [if_neg k2] at h
            by_cases k3 : k = 115
            · rw [if_pos k3, Bool.and_eq_true, cZ] at h
              have hz := bN (k := k) (n := n) (a := a) (b := b) ht
              exact jP (by decide) (fun t' h1 h2 => ih t' (by omega) h2) (List.all_eq_true.1 h.1 t ht)
            · rw [if_neg k3] at h
              by_cases k4 : k = 117 ∨ k = 118 ∨ k = 119
              · rw [if_pos k4] at h
                by_cases h2 : kids.length = 2
                · obtain ⟨x, y, rfl⟩ := two h2
                  simp only [isCon2, Bool.and_eq_true] at h
                  rcases List.mem_cons.1 ht with rfl | ht'
                  · exact wC _ h.1
                  · obtain rfl := List.mem_singleton.1 ht'
                    exact kid _ ht h.2
                · rw [eQ h2] at h; cases h
              · rw [if_neg k4] at h
                by_cases k5 : k = 121
                · rw [if_pos k5, Bool.and_eq_true, Bool.and_eq_true, cZ] at h
                  have hz := bN (k := k) (n := n) (a := a) (b := b) ht
                  exact jP (by decide) (fun t' h1 h2 => ih t' (by omega) h2) (List.all_eq_true.1 h.1.2 t ht)
                · rw [if_neg k5] at h; cases h
/-- A tree that was found whole has no more nodes than may be. -/
theorem oQ (t : Tree) : ∀ l : Int, 0 ≤ l → (wholeP t l).1 = 0 → (wholeP t l).2 = l - t.size := by
  induction t using Tree.ind with
  | h1 => intro l _ h; simp [wholeP] at h
  | h2 k n a b kids ih =>
    intro l hl h
    rw [wholeP] at h ⊢
    split at h
    · cases h
    · rename_i hn
      rw [if_neg hn]
      have key : ∀ (ts : List Tree) (x : Int), (∀ t ∈ ts, t ∈ kids) → 0 ≤ x → (wholePs ts x).1 = 0 → (wholePs ts x).2 = x - Tree.sizes ts := by
        intro ts
        induction ts with
        | nil => intro x _ hx _; simp [wholePs, Tree.sizes]
        | cons t ts ih2 =>
          intro x hm hx he
          rw [wholePs] at he ⊢
          split at he
          · rename_i e
            rw [if_pos e]
            have h1 := ih t (hm t (by simp)) x hx e
            have h0 := fO t x hx e
            have h2 := ih2 (wholeP t x).2 (fun t' ht' => hm t' (by simp [ht'])) h0.1 he
            rw [h2, h1, Tree.sizes]
            omega
          · rename_i e; exact absurd he e
      rw [key kids (l - 1) (fun _ h => h) (by omega) h, Tree.size]
      omega
theorem bI {form : Tree → Bool} {t : Tree} (h : checkP form t = 0) : t.whole = true ∧ t.size ≤ 65536 ∧ form t = true := by
  unfold checkP at h
  split at h
  · rename_i h0
    split at h
    · rename_i hf
      have h1 := oQ t 65536 (by omega) h0
      have h2 := fO t 65536 (by omega) h0
      exact ⟨fQ t _ h0, by omega, hf⟩
    · cases h
  · rename_i h0; exact absurd h h0
/-- What Shift tells. -/
def shiftP (t : Tree) (by_ from_ : Int) : Tree × Int :=
  if checkP isConP t = 0 then
    (if (walkS (shiftV by_ from_) t 0 (decide (0 ≤ from_))).2 = true then ((walkS (shiftV by_ from_) t 0 (decide (0 ≤ from_))).1, 0) else (.nil, 2))
  else (.nil, checkP isConP t)
set_option maxHeartbeats 8000000 in
set_option maxRecDepth 10000 in
theorem pP (t : Tree) (by_ from_ : Int) (hs : t.size ≤ 100000000) : ACalls Tryz.prog 35 [.imm t.iv, .imm (.lit (.int .i64 by_)), .imm (.lit (.int .i64 from_))] [] (.imm (.tup [(shiftP t by_ from_).1.iv, .lit (.int .i64 (shiftP t by_ from_).2)])) [] := by
  have c1 := eA t hs
  unfold shiftP
  obtain ⟨ok0, hok0⟩ : ∃ b, decide (0 ≤ from_) = b := ⟨_, rfl⟩
  rw [hok0]
  have hfr : (ok0 = true ∧ 0 ≤ from_) ∨ (ok0 = false ∧ ¬ 0 ≤ from_) := by
    cases ok0 with
    | true => exact .inl ⟨rfl, of_decide_eq_true hok0⟩
    | false => exact .inr ⟨rfl, of_decide_eq_false hok0⟩
  clear hok0
  by_cases hc : checkP isConP t = 0
  · rw [if_pos hc]
    obtain ⟨hw, hz, hf⟩ := bI hc
    have hv := dR t hf
    have cw := (aDu (σ := Bool) (shiftV by_ from_) 68 (fun _ => .lit (.int .i64 from_)) (fun ok => .lit (.bool ok)) (fun _ => .lit (.int .i64 by_)) (fun _ => True)
      (fun n d s _ h1 h2 h3 h4 => ⟨aCn by_ from_ n d s h1 h2 h3 h4, trivial, by unfold shiftV varT; split <;> (try split) <;> simp⟩) t 0 ok0 hv hw (Int.le_refl _) (by omega) trivial)
    obtain ⟨cw, _, hne⟩ := cw
    obtain ⟨pc, hpc⟩ := bR hne
    rw [hpc] at cw
    rw [hc] at c1
    cases hR : (walkS (shiftV by_ from_) t 0 ok0).2 with
    | true =>
      rw [if_pos rfl]
      dsimp only
      rw [hpc]
      rw [hR] at cw
      clear hc hw hz hf hv hne hpc hR
      generalize (walkS (shiftV by_ from_) t 0 ok0).1 = W at *
      rcases hfr with ⟨rfl, hfr⟩ | ⟨rfl, hfr⟩ <;>
      (refine aH Tryz.func35 rfl rfl (nb rfl) rfl ?_
       repeat' (first | refine aE ?_ | (refine aG ?_;  first | refine aB tabOk rfl rfl rfl (nb rfl) rfl ?_ | (refine aI rfl rfl rfl (nb rfl) rfl rfl rfl (fun hq => ?_) (fun hq => ?_) <;> (first | (simp only [sD, sE, sB, sC, sN, sM, sT, sF] at hq; try (exfalso; omega)) | skip)) | refine aD rfl rfl (nb rfl) rfl rfl rfl rfl (c1) ?_ | refine cH 1002 (d := 4) rfl rfl rfl (nb rfl) rfl rfl rfl rfl rfl rfl rfl ?_ | refine cH 1000 (d := 5) rfl rfl rfl (nb rfl) rfl rfl rfl rfl rfl rfl rfl ?_ | refine cD 1001 tabOk rfl rfl rfl (nb rfl) rfl rfl rfl rfl rfl rfl ?_ | refine bW rfl rfl (nb rfl) rfl rfl rfl rfl cw (by repeat' first | exact trivial | refine ⟨rfl, ?_⟩) rfl (by show ([1000, 1001, 1002] : List Nat).Nodup; decide) ?_ | refine bK tabOk rfl rfl rfl (nb rfl) rfl rfl rfl rfl ?_ | refine bG tabOk rfl rfl rfl rfl rfl rfl rfl rfl rfl rfl rfl ?_) | (refine aK ?_;  first | refine aF ?_ | refine aL ?_ | refine aM ?_ | refine aS ?_ | refine aC (b := false) rfl nFt (fun _ => ?_)) | (refine aJ ?_;  first | refine aU ?_))
       all_goals first
         | exact absurd rfl (by assumption)
         | (exfalso; omega)
         | (refine aO (by first | exact .inl rfl | exact .inr rfl) (aV rfl (aA rfl) (aA rfl)) rfl ?_; rfl))
    | false =>
      rw [if_neg (by simp)]
      dsimp only
      rw [hR] at cw
      clear hc hw hz hf hv hne hpc hR
      rcases hfr with ⟨rfl, hfr⟩ | ⟨rfl, hfr⟩ <;>
      (refine aH Tryz.func35 rfl rfl (nb rfl) rfl ?_
       repeat' (first | refine aE ?_ | (refine aG ?_;  first | refine aB tabOk rfl rfl rfl (nb rfl) rfl ?_ | (refine aI rfl rfl rfl (nb rfl) rfl rfl rfl (fun hq => ?_) (fun hq => ?_) <;> (first | (simp only [sD, sE, sB, sC, sN, sM, sT, sF] at hq; try (exfalso; omega)) | skip)) | refine aD rfl rfl (nb rfl) rfl rfl rfl rfl (c1) ?_ | refine cH 1002 (d := 4) rfl rfl rfl (nb rfl) rfl rfl rfl rfl rfl rfl rfl ?_ | refine cH 1000 (d := 5) rfl rfl rfl (nb rfl) rfl rfl rfl rfl rfl rfl rfl ?_ | refine cD 1001 tabOk rfl rfl rfl (nb rfl) rfl rfl rfl rfl rfl rfl ?_ | refine bW rfl rfl (nb rfl) rfl rfl rfl rfl cw (by repeat' first | exact trivial | refine ⟨rfl, ?_⟩) rfl (by show ([1000, 1001, 1002] : List Nat).Nodup; decide) ?_ | refine bK tabOk rfl rfl rfl (nb rfl) rfl rfl rfl rfl ?_ | refine bG tabOk rfl rfl rfl rfl rfl rfl rfl rfl rfl rfl rfl ?_) | (refine aK ?_;  first | refine aF ?_ | refine aL ?_ | refine aM ?_ | refine aS ?_ | refine aC (b := true) rfl (fun _ => ?_) nTf | refine aC (b := false) rfl nFt (fun _ => ?_)) | (refine aJ ?_;  first | refine aU ?_ | refine aN ?_))
       all_goals first
         | exact absurd rfl (by assumption)
         | (exfalso; omega)
         | (refine aO (by first | exact .inl rfl | exact .inr rfl) (aV rfl (aA rfl) (aA rfl)) rfl ?_; rfl))
  · rw [if_neg hc]
    generalize checkP isConP t = C at *
    refine aH Tryz.func35 rfl rfl (nb rfl) rfl ?_
    repeat' (first | refine aE ?_ | (refine aG ?_;  first | refine aB tabOk rfl rfl rfl (nb rfl) rfl ?_ | (refine aI rfl rfl rfl (nb rfl) rfl rfl rfl (fun hq => ?_) (fun hq => ?_) <;> (first | (simp only [sD, sE, sB, sC, sN, sM, sT, sF] at hq; try (exfalso; omega)) | skip)) | refine aD rfl rfl (nb rfl) rfl rfl rfl rfl (c1) ?_ | refine cH 1002 (d := 4) rfl rfl rfl (nb rfl) rfl rfl rfl rfl rfl rfl rfl ?_ | refine cH 1000 (d := 5) rfl rfl rfl (nb rfl) rfl rfl rfl rfl rfl rfl rfl ?_) | (refine aK ?_;  first | refine aF ?_ | refine aL ?_ | refine aM ?_ | refine aC (b := true) rfl (fun _ => ?_) nTf) | (refine aJ ?_;  first | refine aN ?_))
    all_goals first
      | exact absurd (by assumption) hc
      | (exfalso; omega)
      | (refine aO (by first | exact .inl rfl | exact .inr rfl) (aV rfl (aA rfl) (aA rfl)) rfl ?_; rfl)
end Go.Proofs.YtocaohipfiapkaaGreatDoor.Ab
namespace Go.Proofs.YtocaohipfiapkaaGreatDoor.Ab
set_option linter.unusedVariables false
set_option linter.unusedSimpArgs false
attribute [local irreducible] AWP AOps AExit AThen ABlock ANoGoto FeetOk
theorem bJ {t : Tree} (h : t.whole = true) : t ≠ .nil := by intro e; subst e; simp [Tree.whole] at h
theorem tH : ∀ {l : List Tree}, (∀ t ∈ l, t.whole = true) → Tree.wholes l = true
  | [], _ => rfl
  | x :: xs, h => by
    simp only [Tree.wholes, Bool.and_eq_true]
    exact ⟨h x (by simp), tH fun t ht => h t (by simp [ht])⟩
theorem nT : ∀ (a b : List Tree), Tree.sizes (a ++ b) = Tree.sizes a + Tree.sizes b
  | [], b => by simp [Tree.sizes]
  | x :: a, b => by rw [List.cons_append, Tree.sizes, nT a b, Tree.sizes]; omega
theorem nU (n : Int) : (varT n).size = 1 := rfl
section
variable {σ : Type} (V : Int → Int → σ → Tree × σ) (J : σ → Prop) (f : σ → Nat)
/-- What is made anew of a whole tree is whole; as much more is counted as it has more nodes. -/
theorem qR (hV : ∀ n d s, J s → 0 ≤ n → n ≤ 65536 → 0 ≤ d → d ≤ 100000000 → (V n d s).1.whole = true ∧ J (V n d s).2 ∧ (V n d s).1.size + f s ≤ 1 + f (V n d s).2) (t : Tree) :
    ∀ (d : Int) s, okVars t = true → t.whole = true → 0 ≤ d → d + t.size ≤ 100000000 → J s → (walkS V t d s).1.whole = true ∧ J (walkS V t d s).2 ∧ (walkS V t d s).1.size + f s ≤ t.size + f (walkS V t d s).2 := by
  induction t using Tree.ind with
  | h1 => intro d s _ h; simp [Tree.whole] at h
  | h2 k n a b kids ih =>
    intro d s hv hw hd hs hJ
    have hsz : (Tree.node k n a b kids).size = 1 + Tree.sizes kids := by rw [Tree.size]
    rw [hsz] at hs ⊢
    by_cases k110 : k = 110
    · obtain ⟨q1, q2, rfl, rfl, rfl⟩ := dV k110 hv
      subst k110
      rw [eZ]
      have := hV n d s hJ q1 q2 hd (by omega)
      exact ⟨this.1, this.2.1, by simp only [Tree.sizes]; omega⟩
    · by_cases hk0 : kids.length = 0
      · have e0 : kids = [] := List.eq_nil_of_length_eq_zero hk0
        subst e0
        rw [gH _ _ _ _ k110]
        exact ⟨hw, hJ, by simp only [Tree.size]; omega⟩
      · rw [gI _ _ _ _ k110 hk0]
        have hb := eY k
        have hvs := dP k110 hv
        have key : ∀ (l : List Tree) s, (∀ t ∈ l, t ∈ kids) → J s → Tree.wholes (walkSs V l (d + bindsP k) s).1 = true ∧ J (walkSs V l (d + bindsP k) s).2 ∧ Tree.sizes (walkSs V l (d + bindsP k) s).1 + f s ≤ Tree.sizes l + f (walkSs V l (d + bindsP k) s).2 := by
          intro l
          induction l with
          | nil => intro s _ hJ; rw [gJ]; exact ⟨rfl, hJ, Nat.le_refl _⟩
          | cons t l ihl =>
            intro s hm hJ
            have hmt := hm t (by simp)
            have hz := cU hmt
            have h1 := ih t hmt (d + bindsP k) s (hvs _ hmt) (bF hw hmt) (by omega) (by omega) hJ
            have h2 := ihl (walkS V t (d + bindsP k) s).2 (fun t' h => hm t' (by simp [h])) h1.2.1
            rw [walkSs]
            refine ⟨?_, h2.2.1, ?_⟩
            · simp only [Tree.wholes, Bool.and_eq_true]; exact ⟨h1.1, h2.1⟩
            · simp only [Tree.sizes]; have := h1.2.2; have := h2.2.2; omega
        have := key kids s (fun _ h => h) hJ
        refine ⟨this.1, this.2.1, ?_⟩
        simp only [Tree.size]
        have := this.2.2
        omega
end
theorem oR (by_ from_ : Int) (n d : Int) (ok : Bool) : (shiftV by_ from_ n d ok).1.whole = true ∧ (shiftV by_ from_ n d ok).1.size = 1 := by
  unfold shiftV
  split
  · exact ⟨rfl, rfl⟩
  · split <;> exact ⟨rfl, rfl⟩
theorem eC (t : Tree) (by_ from_ : Int) (h : (shiftP t by_ from_).2 = 0) : (shiftP t by_ from_).1.whole = true ∧ (shiftP t by_ from_).1.size ≤ t.size ∧ checkP isConP t = 0 := by
  unfold shiftP at h ⊢
  by_cases hc : checkP isConP t = 0
  · rw [if_pos hc] at h ⊢
    obtain ⟨hw, hz, hf⟩ := bI hc
    have := qR (shiftV by_ from_) (fun _ => True) (fun _ => 0) (fun n d s _ _ _ _ _ => ⟨(oR by_ from_ n d s).1, trivial, by rw [(oR by_ from_ n d s).2]; omega⟩) t 0 (decide (0 ≤ from_)) (dR t hf) hw (Int.le_refl _) (by omega) trivial
    split at h
    · rename_i h2
      rw [if_pos h2]
      exact ⟨this.1, by have := this.2.2; dsimp only; omega, hc⟩
    · cases h
  · rw [if_neg hc] at h
    exact absurd h hc
set_option maxHeartbeats 4000000 in
set_option maxRecDepth 10000 in
theorem aDZ (t : Tree) : t.size ≤ 100000000 → (t = .nil ∨ t.whole = true) → ACalls Tryz.prog 149 [.imm t.iv] [] (.imm (.lit (.int .i64 (t.size : Int)))) [] := by
  induction t using Tree.ind with
  | h1 =>
    intro _ _
    refine aH Tryz.func149 rfl rfl (nb rfl) rfl ?_
    repeat' (first | refine aE ?_ | (refine aG ?_;  first | refine aB tabOk rfl rfl rfl (nb rfl) rfl ?_ | refine aT tabOk rfl rfl (nb rfl) rfl ?_) | (refine aK ?_;  first | refine aF ?_ | refine aL ?_ | refine aM ?_ | refine aC (b := true) rfl (fun _ => ?_) nTf) | (refine aJ ?_;  first | refine aN ?_))
    all_goals (refine aO (by first | exact .inl rfl | exact .inr rfl) (aW rfl (aA rfl)) rfl ?_; rfl)
  | h2 k n a b kids ih =>
    intro hs hw
    have hw : (Tree.node k n a b kids).whole = true := by
      rcases hw with h | h
      · cases h
      · exact h
    have hl := cG kids hw
    have hsz : (Tree.node k n a b kids).size = 1 + Tree.sizes kids := by rw [Tree.size]
    rw [hsz] at hs ⊢
    have htk : ∀ j (h : j < kids.length), Tree.sizes (kids.take (j + 1)) = Tree.sizes (kids.take j) + kids[j].size := fun j h => by
      rw [List.take_succ_eq_append_getElem h, nT]
      simp only [Tree.sizes]; omega
    have hle : ∀ j, Tree.sizes (kids.take j) ≤ Tree.sizes kids := fun j => by
      have := nT (kids.take j) (kids.drop j)
      rw [List.take_append_drop] at this
      omega
    refine aH Tryz.func149 rfl rfl (nb rfl) rfl ?_
    repeat' (first | refine aE ?_ | (refine aG ?_;  first | refine aB tabOk rfl rfl rfl (nb rfl) rfl ?_ | refine aT tabOk rfl rfl (nb rfl) rfl ?_) | (refine aK ?_;  first | refine aF ?_ | refine aL ?_ | refine aR ?_ | refine aS ?_ | refine aC (b := false) rfl nFt (fun _ => ?_)) | (refine aJ ?_;  first | refine aU ?_))
    refine bZ (ι := {j : Nat // j ≤ kids.length}) (fun j => S.f ⟨[(13, .imm (.lit (.int .i64 (j.1 : Int)))), (12, .imm (.lit (.int .i64 (kids.length : Int)))), (11, .imm (.sl false kids.length (Tree.ivs kids))), (3, .imm (.lit (.int .i64 ((1 + Tree.sizes (kids.take j.1) : Nat) : Int))))], []⟩) (fun j => kids.length - j.1) ⟨0, Nat.zero_le _⟩ (bT (by repeat' first | exact trivial | refine ⟨rfl, ?_⟩) (by repeat' first | exact trivial | refine ⟨rfl, ?_⟩)) ?_
    rintro ⟨j, hj⟩
    dsimp only
    by_cases hlt : j < kids.length
    · have hm := List.getElem_mem hlt
      have h1 := htk j hlt
      have h2 := hle j
      have h3 := hle (j + 1)
      have hc := ih _ hm (by omega) (.inr (bF hw hm))
      repeat' (first | refine aE ?_ | (refine aG ?_;  first | refine aB tabOk rfl rfl rfl (nb rfl) rfl ?_ | (refine aI rfl rfl rfl (nb rfl) rfl rfl rfl (fun hq => ?_) (fun hq => ?_) <;> (first | (simp only [sD, sE, sB, sC, sN, sM, sT, sF] at hq; try (exfalso; omega)) | skip)) | refine aD rfl rfl (nb rfl) rfl rfl rfl rfl (hc) ?_ | refine cO (z := ((1 + Tree.sizes (kids.take (j + 1)) : Nat) : Int)) rfl rfl rfl (nb rfl) rfl rfl (by omega) (by omega) (by omega) ?_ | refine bO rfl rfl rfl (nb rfl) rfl rfl (by omega) ?_ | refine bB tabOk rfl rfl rfl (nb rfl) rfl rfl rfl rfl (by first | assumption | omega) ?_ | refine bA tabOk rfl rfl rfl (nb rfl) rfl rfl rfl (cC _ _ (by first | assumption | omega)) ?_) | (refine aK ?_;  first | refine aF ?_ | refine aL ?_ | refine bD ?_ | refine aR ?_ | refine aS ?_ | refine aC (b := true) rfl (fun _ => ?_) nTf) | (refine aJ ?_;  first | refine aU ?_) | (refine aP ?_;  first | refine bM ?_))
      all_goals first
        | (exfalso; omega)
        | exact ⟨⟨j + 1, hlt⟩, (by show kids.length - (j + 1) < kids.length - j; omega), (bT (by repeat' first | exact trivial | refine ⟨rfl, ?_⟩) (by repeat' first | exact trivial | refine ⟨rfl, ?_⟩))⟩
    · have ej : j = kids.length := by omega
      subst ej
      rw [List.take_length]
      repeat' (first | refine aE ?_ | (refine aG ?_;  first | refine aB tabOk rfl rfl rfl (nb rfl) rfl ?_ | (refine aI rfl rfl rfl (nb rfl) rfl rfl rfl (fun hq => ?_) (fun hq => ?_) <;> (first | (simp only [sD, sE, sB, sC, sN, sM, sT, sF] at hq; try (exfalso; omega)) | skip))) | (refine aK ?_;  first | refine aF ?_ | refine aL ?_ | refine aM ?_ | refine bQ ?_ | refine aC (b := false) rfl nFt (fun _ => ?_)) | (refine aJ ?_;  first | refine aU ?_ | refine bH ?_) | (refine aP ?_;  first | refine bE ?_))
      all_goals first
        | (exfalso; omega)
        | (refine aO (by first | exact .inl rfl | exact .inr rfl) (aW rfl (aA rfl)) rfl ?_; rfl)
mutual
/-- How many nodes a tree has, as far as a bound. -/
def largeP : Tree → Int → Int
  | .nil, _ => 1
  | .node _ _ _ _ kids, m => largePs kids 1 m
def largePs : List Tree → Int → Int → Int
  | [], s, _ => s
  | t :: ts, s, m => if s > m then s else largePs ts (s + largeP t (m - s)) m
end
theorem uT (l : List Tree) (s m : Int) (h : s > m) : largePs l s m = s := by
  cases l with
  | nil => rfl
  | cons t ts => rw [largePs, if_pos h]
theorem oS (t : Tree) : t.whole = true → ∀ m : Int, 0 ≤ m → 1 ≤ largeP t m ∧ largeP t m ≤ t.size ∧ ((t.size : Int) ≤ m → largeP t m = t.size) ∧ (m < t.size → m < largeP t m) := by
  induction t using Tree.ind with
  | h1 => intro h; simp [Tree.whole] at h
  | h2 k n a b kids ih =>
    intro hw m hm
    have key : ∀ (l : List Tree), (∀ t ∈ l, t ∈ kids) → ∀ s : Int, 1 ≤ s → 1 ≤ largePs l s m ∧ largePs l s m ≤ s + Tree.sizes l ∧ (s + Tree.sizes l ≤ m → largePs l s m = s + Tree.sizes l) ∧ (m < s + Tree.sizes l → m < largePs l s m) := by
      intro l
      induction l with
      | nil => intro _ s hs; simp only [largePs, Tree.sizes]; omega
      | cons t ts ihl =>
        intro hmem s hs
        rw [largePs]
        simp only [Tree.sizes]
        by_cases h : s > m
        · rw [if_pos h]; omega
        · rw [if_neg h]
          have h1 := ih t (hmem t (by simp)) (bF hw (hmem t (by simp))) (m - s) (by omega)
          have h2 := ihl (fun t' h' => hmem t' (by simp [h'])) (s + largeP t (m - s)) (by omega)
          by_cases h3 : m - s < t.size
          · have h4 := h1.2.2.2 h3
            have h5 := uT ts (s + largeP t (m - s)) m (by omega)
            rw [h5]
            refine ⟨by omega, by omega, by omega, by omega⟩
          · have h4 := h1.2.2.1 (by omega)
            rw [h4] at h2 ⊢
            refine ⟨h2.1, by omega, fun h => ?_, fun h => ?_⟩
            · rw [h2.2.2.1 (by omega)]; omega
            · exact h2.2.2.2 (by omega)
    have := key kids (fun _ h => h) 1 (by omega)
    rw [largeP, Tree.size]
    refine ⟨this.1, by omega, fun h => ?_, fun h => this.2.2.2 (by omega)⟩
    rw [this.2.2.1 (by omega)]; omega
set_option maxHeartbeats 4000000 in
set_option maxRecDepth 10000 in
theorem aDw (t : Tree) : t.whole = true → t.size ≤ 100000000 → ∀ m : Int, 0 ≤ m → m ≤ 100000000 → ACalls Tryz.prog 151 [.imm t.iv, .imm (.lit (.int .i64 m))] [] (.imm (.lit (.int .i64 (largeP t m)))) [] := by
  induction t using Tree.ind with
  | h1 => intro h; simp [Tree.whole] at h
  | h2 k n a b kids ih =>
    intro hw hs m hm0 hm1
    have hl := cG kids hw
    have hsz : (Tree.node k n a b kids).size = 1 + Tree.sizes kids := by rw [Tree.size]
    rw [hsz] at hs
    generalize hR : largeP (.node k n a b kids) m = R
    rw [largeP] at hR
    refine aH Tryz.func151 rfl rfl (nb rfl) rfl ?_
    repeat' (first | refine aE ?_ | (refine aG ?_;  first | refine aB tabOk rfl rfl rfl (nb rfl) rfl ?_ | refine aT tabOk rfl rfl (nb rfl) rfl ?_) | (refine aK ?_;  first | refine aF ?_ | refine aL ?_ | refine aR ?_))
    refine bZ (ι := {x : Nat × Int // x.1 ≤ kids.length ∧ largePs (kids.drop x.1) x.2 m = R ∧ 1 ≤ x.2 ∧ x.2 + Tree.sizes (kids.drop x.1) ≤ 100000000}) (fun x => S.f ⟨[(13, .imm (.lit (.int .i64 (x.1.1 : Int)))), (12, .imm (.lit (.int .i64 (kids.length : Int)))), (11, .imm (.sl false kids.length (Tree.ivs kids))), (5, .imm (.lit (.int .i64 x.1.2))), (1, .imm (.lit (.int .i64 m)))], []⟩) (fun x => kids.length - x.1.1) ⟨(0, 1), Nat.zero_le _, hR, Int.le_refl _, by rw [List.drop_zero]; omega⟩ (bT (by repeat' first | exact trivial | refine ⟨rfl, ?_⟩) (by repeat' first | exact trivial | refine ⟨rfl, ?_⟩)) ?_
    clear hR
    rintro ⟨⟨j, s⟩, hj, hR, hs1, hs2⟩
    have hj : j ≤ kids.length := hj
    have hR : largePs (kids.drop j) s m = R := hR
    have hs1 : 1 ≤ s := hs1
    have hs2 : s + Tree.sizes (kids.drop j) ≤ 100000000 := hs2
    dsimp only
    by_cases hlt : j < kids.length
    · have hmm := List.getElem_mem hlt
      have hz := cU hmm
      have hwk := bF hw hmm
      rw [List.drop_eq_getElem_cons hlt] at hR hs2
      rw [largePs] at hR
      simp only [Tree.sizes] at hs2
      by_cases hgt : s > m
      · rw [if_pos hgt] at hR
        subst hR
        repeat' (first | refine aE ?_ | (refine aG ?_;  first | refine aB tabOk rfl rfl rfl (nb rfl) rfl ?_ | (refine aI rfl rfl rfl (nb rfl) rfl rfl rfl (fun hq => ?_) (fun hq => ?_) <;> (first | (simp only [sD, sE, sB, sC, sN, sM, sT, sF] at hq; try (exfalso; omega)) | skip)) | refine bB tabOk rfl rfl rfl (nb rfl) rfl rfl rfl rfl (by first | assumption | omega) ?_ | refine bA tabOk rfl rfl rfl (nb rfl) rfl rfl rfl (cC _ _ (by first | assumption | omega)) ?_) | (refine aK ?_;  first | refine aF ?_ | refine aL ?_ | refine aR ?_ | refine aM ?_ | refine bQ ?_ | refine aS ?_ | refine aC (b := true) rfl (fun _ => ?_) nTf) | (refine aJ ?_;  first | refine aU ?_ | refine bH ?_) | (refine aP ?_;  first | refine bE ?_ | refine dB (by decide) ?_))
        all_goals first
          | (exfalso; omega)
          | (refine aO (by first | exact .inl rfl | exact .inr rfl) (aW rfl (aA rfl)) rfl ?_; rfl)
      · rw [if_neg hgt] at hR
        have hc := ih _ hmm hwk (by omega) (m - s) (by omega) (by omega)
        have hsp := oS _ hwk (m - s) (by omega)
        generalize largeP kids[j] (m - s) = L at *
        repeat' (first | refine aE ?_ | (refine aG ?_;  first | refine aB tabOk rfl rfl rfl (nb rfl) rfl ?_ | (refine aI rfl rfl rfl (nb rfl) rfl rfl rfl (fun hq => ?_) (fun hq => ?_) <;> (first | (simp only [sD, sE, sB, sC, sN, sM, sT, sF] at hq; try (exfalso; omega)) | skip)) | refine aD rfl rfl (nb rfl) rfl rfl rfl rfl (hc) ?_ | refine cF (z := m - s) rfl rfl rfl (nb rfl) rfl rfl rfl (by omega) (by omega) ?_ | refine cO (z := s + L) rfl rfl rfl (nb rfl) rfl rfl rfl (by omega) (by omega) ?_ | refine bO rfl rfl rfl (nb rfl) rfl rfl (by omega) ?_ | refine bB tabOk rfl rfl rfl (nb rfl) rfl rfl rfl rfl (by first | assumption | omega) ?_ | refine bA tabOk rfl rfl rfl (nb rfl) rfl rfl rfl (cC _ _ (by first | assumption | omega)) ?_) | (refine aK ?_;  first | refine aF ?_ | refine aL ?_ | refine bD ?_ | refine aR ?_ | refine aS ?_ | refine aC (b := true) rfl (fun _ => ?_) nTf | refine aC (b := false) rfl nFt (fun _ => ?_)) | (refine aJ ?_;  first | refine aU ?_) | (refine aP ?_;  first | refine bM ?_))
        all_goals first
          | (exfalso; omega)
          | exact ⟨⟨(j + 1, s + L), hlt, hR, by dsimp only; omega, by dsimp only; omega⟩, (by show kids.length - (j + 1) < kids.length - j; omega), (bT (by repeat' first | exact trivial | refine ⟨rfl, ?_⟩) (by repeat' first | exact trivial | refine ⟨rfl, ?_⟩))⟩
    · have ej : j = kids.length := by omega
      subst ej
      rw [List.drop_length, largePs] at hR
      subst hR
      repeat' (first | refine aE ?_ | (refine aG ?_;  first | refine aB tabOk rfl rfl rfl (nb rfl) rfl ?_ | (refine aI rfl rfl rfl (nb rfl) rfl rfl rfl (fun hq => ?_) (fun hq => ?_) <;> (first | (simp only [sD, sE, sB, sC, sN, sM, sT, sF] at hq; try (exfalso; omega)) | skip))) | (refine aK ?_;  first | refine aF ?_ | refine aL ?_ | refine aM ?_ | refine bQ ?_ | refine aC (b := false) rfl nFt (fun _ => ?_)) | (refine aJ ?_;  first | refine aU ?_ | refine bH ?_) | (refine aP ?_;  first | refine bE ?_))
      all_goals first
        | (exfalso; omega)
        | (refine aO (by first | exact .inl rfl | exact .inr rfl) (aW rfl (aA rfl)) rfl ?_; rfl)
end Go.Proofs.YtocaohipfiapkaaGreatDoor.Ab
namespace Go.Proofs.YtocaohipfiapkaaGreatDoor.Ab
set_option linter.unusedVariables false
set_option linter.unusedSimpArgs false
attribute [local irreducible] AWP AOps AExit AThen ABlock ANoGoto FeetOk
/-- What Subst makes of a variable; how much was put in, and the error so far. -/
def substV (i own : Int) (by_ : Tree) (n d : Int) (s : Int × Int) : Tree × (Int × Int) :=
  if s.2 ≠ 0 ∨ n < d ∨ n - d < i then (varT n, s)
  else if n - d > i then (varT (n - 1), s)
  else if s.1 + own > 65536 ∨ (shiftP by_ d 0).2 ≠ 0 then (varT n, (s.1 + own, 3))
  else ((shiftP by_ d 0).1, (s.1 + own, s.2))
set_option maxHeartbeats 16000000 in
set_option maxRecDepth 10000 in
theorem aCo (i own : Int) (by_ : Tree) (pb : List IV) (hpb : by_.iv = .ptr pb 0) (hbs : by_.size ≤ 100000000) (n d : Int) (sz e : Int) (hi : 0 ≤ i) (ho0 : 0 ≤ own) (ho : own ≤ 65536) (hs0 : 0 ≤ sz) (hs : sz ≤ 131072) (hn0 : 0 ≤ n) (hn : n ≤ 65536) (hd0 : 0 ≤ d) (hd : d ≤ 100000000) :
    ACalls Tryz.prog 150 [.imm (varT n).iv, .imm (.lit (.int .i64 d)), .obj 1000 0, .obj 1001 0, .obj 1002 0, .obj 1003 0, .obj 1004 0] [(1000, .cells [.imm (.lit (.int .i64 e))]), (1001, .cells [.imm (.lit (.int .i64 i))]), (1002, .cells [.imm (.lit (.int .i64 sz))]), (1003, .cells [.imm (.lit (.int .i64 own))]), (1004, .cells [.imm (.ptr pb 0)])]
      (.imm (substV i own by_ n d (sz, e)).1.iv) [(1000, .cells [.imm (.lit (.int .i64 (substV i own by_ n d (sz, e)).2.2))]), (1001, .cells [.imm (.lit (.int .i64 i))]), (1002, .cells [.imm (.lit (.int .i64 (substV i own by_ n d (sz, e)).2.1))]), (1003, .cells [.imm (.lit (.int .i64 own))]), (1004, .cells [.imm (.ptr pb 0)])] := by
  by_cases h1 : e ≠ 0 ∨ n < d ∨ n - d < i
  · have er : substV i own by_ n d (sz, e) = (varT n, (sz, e)) := if_pos h1
    rw [er]
    unfold varT
    refine bX [1000, 1001, 1002, 1003, 1004] Tryz.func150 rfl rfl (nb rfl) rfl rfl ?_
    repeat' (first | refine aE ?_ | (refine aG ?_;  first | refine aB tabOk rfl rfl rfl (nb rfl) rfl ?_ | refine bL rfl rfl (nb rfl) ?_ | (refine aI rfl rfl rfl (nb rfl) rfl rfl rfl (fun hq => ?_) (fun hq => ?_) <;> (first | (simp only [sD, sE, sB, sC, sN, sM, sT, sF] at hq; try (exfalso; omega)) | skip)) | refine cF rfl rfl rfl (nb rfl) rfl rfl rfl (by omega) (by omega) ?_ | refine bK tabOk rfl rfl rfl (nb rfl) rfl rfl rfl rfl ?_) | (refine aK ?_;  first | refine aF ?_ | refine aL ?_ | refine aR ?_ | refine aM ?_ | refine aC (b := true) rfl (fun _ => ?_) nTf | refine aQ mixed (by kernel_rfl) ?_) | (refine aJ ?_;  first | refine aU ?_ | refine aN ?_) | (refine aP ?_;  first | refine aX ?_) | refine bC (aZ (by kernel_rfl)) ?_)
    all_goals first
      | exact absurd rfl (by assumption)
      | (exfalso; omega)
      | (refine cB (cA (by first | exact .inl rfl | exact .inr rfl) (aW rfl (aA rfl)) rfl (by repeat' first | exact trivial | refine ⟨rfl, ?_⟩) rfl ?_); rfl)
  · have he : e = 0 := by omega
    subst he
    by_cases h2 : n - d > i
    · have er : substV i own by_ n d (sz, 0) = (varT (n - 1), (sz, 0)) := by unfold substV; rw [if_neg h1, if_pos h2]
      rw [er]
      have cm := aAj 110 n emptyB emptyB [] (-1) (by omega) (by omega)
      rw [show n + -1 = n - 1 by omega] at cm
      generalize varT (n - 1) = Z at *
      unfold varT
      refine bX [1000, 1001, 1002, 1003, 1004] Tryz.func150 rfl rfl (nb rfl) rfl rfl ?_
      repeat' (first | refine aE ?_ | (refine aG ?_;  first | refine aB tabOk rfl rfl rfl (nb rfl) rfl ?_ | (refine aI rfl rfl rfl (nb rfl) rfl rfl rfl (fun hq => ?_) (fun hq => ?_) <;> (first | (simp only [sD, sE, sB, sC, sN, sM, sT, sF] at hq; try (exfalso; omega)) | skip)) | refine aD rfl rfl (nb rfl) rfl rfl rfl rfl (cm) ?_ | refine cF rfl rfl rfl (nb rfl) rfl rfl rfl (by omega) (by omega) ?_ | refine bK tabOk rfl rfl rfl (nb rfl) rfl rfl rfl rfl ?_) | (refine aK ?_;  first | refine aF ?_ | refine aL ?_ | refine aR ?_ | refine aM ?_ | refine aC (b := true) rfl (fun _ => ?_) nTf | refine aC (b := false) rfl nFt (fun _ => ?_) | refine aQ mixed (by kernel_rfl) ?_) | (refine aJ ?_;  first | refine aU ?_ | refine aN ?_) | (refine aP ?_;  first | refine aX ?_) | refine bC (aZ (by kernel_rfl)) ?_)
      all_goals first
        | exact absurd rfl (by assumption)
        | (exfalso; omega)
        | (refine cB (cA (by first | exact .inl rfl | exact .inr rfl) (aW rfl (aA rfl)) rfl (by repeat' first | exact trivial | refine ⟨rfl, ?_⟩) rfl ?_); rfl)
    · have cs := pP by_ d 0 hbs
      rw [hpb] at cs
      by_cases h3 : sz + own > 65536
      · have er : substV i own by_ n d (sz, 0) = (varT n, (sz + own, 3)) := by unfold substV; rw [if_neg h1, if_neg h2, if_pos (.inl h3)]
        rw [er]
        unfold varT
        refine bX [1000, 1001, 1002, 1003, 1004] Tryz.func150 rfl rfl (nb rfl) rfl rfl ?_
        repeat' (first | refine aE ?_ | (refine aG ?_;  first | refine aB tabOk rfl rfl rfl (nb rfl) rfl ?_ | (refine aI rfl rfl rfl (nb rfl) rfl rfl rfl (fun hq => ?_) (fun hq => ?_) <;> (first | (simp only [sD, sE, sB, sC, sN, sM, sT, sF] at hq; try (exfalso; omega)) | skip)) | refine cO (z := sz + own) rfl rfl rfl (nb rfl) rfl rfl rfl (by omega) (by omega) ?_ | refine cF rfl rfl rfl (nb rfl) rfl rfl rfl (by omega) (by omega) ?_ | refine bK tabOk rfl rfl rfl (nb rfl) rfl rfl rfl rfl ?_ | refine bG tabOk rfl rfl rfl rfl rfl rfl rfl rfl rfl rfl rfl ?_) | (refine aK ?_;  first | refine aF ?_ | refine aL ?_ | refine aR ?_ | refine aM ?_ | refine aS ?_ | refine aC (b := true) rfl (fun _ => ?_) nTf | refine aC (b := false) rfl nFt (fun _ => ?_) | refine aQ mixed (by kernel_rfl) ?_) | (refine aJ ?_;  first | refine aU ?_ | refine aN ?_) | (refine aP ?_;  first | refine bM ?_) | refine bC (aZ (by kernel_rfl)) ?_)
        all_goals first
          | exact absurd rfl (by assumption)
          | (exfalso; omega)
          | (refine cB (cA (by first | exact .inl rfl | exact .inr rfl) (aW rfl (aA rfl)) rfl (by repeat' first | exact trivial | refine ⟨rfl, ?_⟩) rfl ?_); rfl)
      · by_cases h4 : (shiftP by_ d 0).2 = 0
        · have er : substV i own by_ n d (sz, 0) = ((shiftP by_ d 0).1, (sz + own, 0)) := by unfold substV; rw [if_neg h1, if_neg h2, if_neg (fun h => h.elim h3 (fun h => h h4))]
          rw [er]
          rw [h4] at cs
          clear er h4 hpb
          generalize (shiftP by_ d 0).1 = Z at *
          unfold varT
          refine bX [1000, 1001, 1002, 1003, 1004] Tryz.func150 rfl rfl (nb rfl) rfl rfl ?_
          repeat' (first | refine aE ?_ | (refine aG ?_;  first | refine aB tabOk rfl rfl rfl (nb rfl) rfl ?_ | (refine aI rfl rfl rfl (nb rfl) rfl rfl rfl (fun hq => ?_) (fun hq => ?_) <;> (first | (simp only [sD, sE, sB, sC, sN, sM, sT, sF] at hq; try (exfalso; omega)) | skip)) | refine aD rfl rfl (nb rfl) rfl rfl rfl rfl (cs) ?_ | refine cO (z := sz + own) rfl rfl rfl (nb rfl) rfl rfl rfl (by omega) (by omega) ?_ | refine cF rfl rfl rfl (nb rfl) rfl rfl rfl (by omega) (by omega) ?_ | refine bK tabOk rfl rfl rfl (nb rfl) rfl rfl rfl rfl ?_ | refine bG tabOk rfl rfl rfl rfl rfl rfl rfl rfl rfl rfl rfl ?_) | (refine aK ?_;  first | refine aF ?_ | refine aL ?_ | refine aR ?_ | refine aM ?_ | refine aS ?_ | refine aC (b := false) rfl nFt (fun _ => ?_) | refine aQ mixed (by kernel_rfl) ?_) | (refine aJ ?_;  first | refine aU ?_) | (refine aP ?_;  first | refine bM ?_) | refine bC (aZ (by kernel_rfl)) ?_)
          all_goals first
            | exact absurd rfl (by assumption)
            | (exfalso; omega)
            | (refine cB (cA (by first | exact .inl rfl | exact .inr rfl) (aW rfl (aA rfl)) rfl (by repeat' first | exact trivial | refine ⟨rfl, ?_⟩) rfl ?_); rfl)
        · have er : substV i own by_ n d (sz, 0) = (varT n, (sz + own, 3)) := by unfold substV; rw [if_neg h1, if_neg h2, if_pos (.inr h4)]
          rw [er]
          clear er hpb
          generalize (shiftP by_ d 0).1 = Z at *
          generalize (shiftP by_ d 0).2 = Z2 at *
          unfold varT
          refine bX [1000, 1001, 1002, 1003, 1004] Tryz.func150 rfl rfl (nb rfl) rfl rfl ?_
          repeat' (first | refine aE ?_ | (refine aG ?_;  first | refine aB tabOk rfl rfl rfl (nb rfl) rfl ?_ | (refine aI rfl rfl rfl (nb rfl) rfl rfl rfl (fun hq => ?_) (fun hq => ?_) <;> (first | (simp only [sD, sE, sB, sC, sN, sM, sT, sF] at hq; try (exfalso; omega)) | skip)) | refine aD rfl rfl (nb rfl) rfl rfl rfl rfl (cs) ?_ | refine cO (z := sz + own) rfl rfl rfl (nb rfl) rfl rfl rfl (by omega) (by omega) ?_ | refine cF rfl rfl rfl (nb rfl) rfl rfl rfl (by omega) (by omega) ?_ | refine bK tabOk rfl rfl rfl (nb rfl) rfl rfl rfl rfl ?_ | refine bG tabOk rfl rfl rfl rfl rfl rfl rfl rfl rfl rfl rfl ?_) | (refine aK ?_;  first | refine aF ?_ | refine aL ?_ | refine aR ?_ | refine aM ?_ | refine aS ?_ | refine aC (b := true) rfl (fun _ => ?_) nTf | refine aC (b := false) rfl nFt (fun _ => ?_) | refine aQ mixed (by kernel_rfl) ?_) | (refine aJ ?_;  first | refine aU ?_ | refine aN ?_) | (refine aP ?_;  first | refine bM ?_) | refine bC (aZ (by kernel_rfl)) ?_)
          all_goals first
            | exact absurd (by assumption) h4
            | exact absurd rfl (by assumption)
            | (exfalso; omega)
            | (refine cB (cA (by first | exact .inl rfl | exact .inr rfl) (aW rfl (aA rfl)) rfl (by repeat' first | exact trivial | refine ⟨rfl, ?_⟩) rfl ?_); rfl)
def substJ (s : Int × Int) : Prop := 0 ≤ s.1 ∧ s.1 ≤ 131072 ∧ (s.2 = 0 → s.1 ≤ 65536) ∧ (s.2 = 0 ∨ s.2 = 3)
theorem oT (i : Int) (by_ : Tree) (hb : by_.size ≤ 65536) (n d : Int) (s : Int × Int) (hJ : substJ s) :
    (substV i by_.size by_ n d s).1.whole = true ∧ substJ (substV i by_.size by_ n d s).2 ∧ (substV i by_.size by_ n d s).1.size + s.1.toNat ≤ 1 + (substV i by_.size by_ n d s).2.1.toNat := by
  obtain ⟨sz, e⟩ := s
  obtain ⟨j1, j2, j3, j4⟩ := hJ
  dsimp only at j1 j2 j3 j4
  unfold substV
  dsimp only
  split
  · exact ⟨rfl, ⟨j1, j2, j3, j4⟩, by rw [nU]; dsimp only; omega⟩
  · rename_i h1
    have he : e = 0 := by omega
    subst he
    have j5 := j3 rfl
    split
    · exact ⟨rfl, ⟨j1, j2, j3, j4⟩, by rw [nU]; dsimp only; omega⟩
    · split
      · refine ⟨rfl, ⟨?_, ?_, ?_, .inr rfl⟩, ?_⟩
        · show 0 ≤ sz + by_.size; omega
        · show sz + by_.size ≤ 131072; omega
        · intro h; cases h
        · rw [nU]; dsimp only; omega
      · rename_i h3
        have h4 : (shiftP by_ d 0).2 = 0 := by omega
        have h5 := eC by_ d 0 h4
        refine ⟨h5.1, ⟨?_, ?_, ?_, .inl rfl⟩, ?_⟩
        · show 0 ≤ sz + by_.size; omega
        · show sz + by_.size ≤ 131072; omega
        · intro _; show sz + by_.size ≤ 65536; omega
        · have := h5.2.1; dsimp only; omega
/-- What Subst tells. -/
def substP (t : Tree) (i : Int) (by_ : Tree) : Tree × Int :=
  if checkP isConP t ≠ 0 then (.nil, checkP isConP t)
  else if checkP isConP by_ ≠ 0 then (.nil, checkP isConP by_)
  else if i < 0 then (.nil, 2)
  else if (walkS (substV i by_.size by_) t 0 (0, 0)).2.2 ≠ 0 ∨ (walkS (substV i by_.size by_) t 0 (0, 0)).1.size > 65536 then (.nil, 3)
  else ((walkS (substV i by_.size by_) t 0 (0, 0)).1, 0)
theorem substW (t : Tree) (i : Int) (by_ : Tree) (hc : checkP isConP t = 0) (hb : checkP isConP by_ = 0) :
    (walkS (substV i by_.size by_) t 0 (0, 0)).1.whole = true ∧ substJ (walkS (substV i by_.size by_) t 0 (0, 0)).2 ∧ (walkS (substV i by_.size by_) t 0 (0, 0)).1.size ≤ 200000 := by
  obtain ⟨hw, hz, hf⟩ := bI hc
  obtain ⟨bw, bz, bf⟩ := bI hb
  have := qR (substV i by_.size by_) substJ (fun s => s.1.toNat) (fun n d s hJ _ _ _ _ => oT i by_ bz n d s hJ) t 0 (0, 0) (dR t hf) hw (Int.le_refl _) (by omega) ⟨by decide, by decide, by decide, .inl rfl⟩
  refine ⟨this.1, this.2.1, ?_⟩
  have h1 := this.2.2
  have h2 := this.2.1.2.1
  dsimp only at h1
  omega
theorem jQ (t : Tree) (i : Int) (by_ : Tree) (h : (substP t i by_).2 = 0) : (substP t i by_).1.whole = true ∧ (substP t i by_).1.size ≤ 65536 ∧ checkP isConP t = 0 ∧ checkP isConP by_ = 0 := by
  unfold substP at h ⊢
  by_cases hc : checkP isConP t = 0
  · rw [if_neg (by simpa using hc)] at h ⊢
    by_cases hb : checkP isConP by_ = 0
    · rw [if_neg (by simpa using hb)] at h ⊢
      split at h
      · cases h
      · rename_i hi
        rw [if_neg hi]
        split at h
        · cases h
        · rename_i h3
          rw [if_neg h3]
          have := substW t i by_ hc hb
          exact ⟨this.1, by dsimp only; omega, hc, hb⟩
    · rw [if_pos (by simpa using hb)] at h
      exact absurd h hb
  · rw [if_pos (by simpa using hc)] at h
    exact absurd h hc
end Go.Proofs.YtocaohipfiapkaaGreatDoor.Ab
namespace Go.Proofs.YtocaohipfiapkaaGreatDoor.Ab
set_option linter.unusedVariables false
set_option linter.unusedSimpArgs false
attribute [local irreducible] AWP AOps AExit AThen ABlock ANoGoto FeetOk
set_option maxHeartbeats 16000000 in
set_option maxRecDepth 10000 in
theorem aAl (t : Tree) (i : Int) (by_ : Tree) (hs : t.size ≤ 100000000) (hbs : by_.size ≤ 100000000) : ACalls Tryz.prog 139 [.imm t.iv, .imm (.lit (.int .i64 i)), .imm by_.iv] [] (.imm (.tup [(substP t i by_).1.iv, .lit (.int .i64 (substP t i by_).2)])) [] := by
  have c1 := eA t hs
  have c2 := eA by_ hbs
  obtain ⟨Q, hQ⟩ : ∃ Q, substP t i by_ = Q := ⟨_, rfl⟩
  rw [hQ]
  unfold substP at hQ
  by_cases hc : checkP isConP t = 0
  · rw [if_neg (by simpa using hc)] at hQ
    rw [hc] at c1
    by_cases hb : checkP isConP by_ = 0
    · rw [if_neg (by simpa using hb)] at hQ
      rw [hb] at c2
      obtain ⟨bw, bz, _⟩ := bI hb
      obtain ⟨pb, hpb⟩ := bR (bJ bw)
      by_cases hi : i < 0
      · rw [if_pos hi] at hQ
        subst hQ
        rw [hpb] at c2 ⊢
        refine aH Tryz.func139 rfl rfl (nb rfl) rfl ?_
        repeat' (first | refine aE ?_ | (refine aG ?_;  first | refine aB tabOk rfl rfl rfl (nb rfl) rfl ?_ | (refine aI rfl rfl rfl (nb rfl) rfl rfl rfl (fun hq => ?_) (fun hq => ?_) <;> (first | (simp only [sD, sE, sB, sC, sN, sM, sT, sF] at hq; try (exfalso; omega)) | skip)) | refine aD rfl rfl (nb rfl) rfl rfl rfl rfl (c1) ?_ | refine aD rfl rfl (nb rfl) rfl rfl rfl rfl (c2) ?_ | refine cH 1001 (d := 4) rfl rfl rfl (nb rfl) rfl rfl rfl rfl rfl rfl rfl ?_ | refine cH 1004 (d := 5) rfl rfl rfl (nb rfl) rfl rfl rfl rfl rfl rfl rfl ?_ | refine bK tabOk rfl rfl rfl (nb rfl) rfl rfl rfl rfl ?_) | (refine aK ?_;  first | refine aF ?_ | refine aL ?_ | refine aM ?_ | refine aS ?_ | refine aC (b := true) rfl (fun _ => ?_) nTf | refine aC (b := false) rfl nFt (fun _ => ?_)) | (refine aJ ?_;  first | refine aU ?_ | refine aN ?_))
        all_goals first
          | exact absurd rfl (by assumption)
          | (exfalso; omega)
          | (refine aO (by first | exact .inl rfl | exact .inr rfl) (aV rfl (aA rfl) (aA rfl)) rfl ?_; rfl)
      · rw [if_neg hi] at hQ
        obtain ⟨hw, hz, hf⟩ := bI hc
        have hv := dR t hf
        have h3 := substW t i by_ hc hb
        have c3 := aDZ by_ hbs (.inr bw)
        obtain ⟨cw, _, hne⟩ := (aDv (σ := Int × Int) (substV i by_.size by_) 150 (fun s => .lit (.int .i64 s.2)) (fun _ => .lit (.int .i64 i)) (fun s => .lit (.int .i64 s.1)) (fun _ => .lit (.int .i64 by_.size)) (fun _ => .ptr pb 0) substJ
          (fun n d s hJ h1 h2 h3 h4 => by
            have hf := oT i by_ bz n d s hJ
            obtain ⟨sz, e⟩ := s
            exact ⟨aCo i by_.size by_ pb hpb hbs n d sz e (by omega) (by omega) (by omega) hJ.1 hJ.2.1 h1 h2 h3 h4, hf.2.1, bJ hf.1⟩) t 0 (0, 0) hv hw (Int.le_refl _) (by omega) ⟨by decide, by decide, by decide, .inl rfl⟩)
        obtain ⟨pc, hpc⟩ := bR hne
        have c4 := aDw _ h3.1 (by omega) 65536 (by omega) (by omega)
        have hlg := oS _ h3.1 65536 (by omega)
        rw [hpc] at cw c4
        rw [hpb] at c2 c3 ⊢
        have hJ4 := h3.2.1.2.2.2
        have hout : ∀ x y, Q = (x, y) → True := fun _ _ _ => trivial
        clear hc hb hw hf hv hne h3 hout bw
        generalize walkS (substV i by_.size by_) t 0 (0, 0) = W at *
        obtain ⟨W1, W2, W3⟩ := W
        dsimp only at *
        generalize largeP W1 65536 = LP at *
        by_cases h4 : W3 ≠ 0
        · rw [if_pos (.inl h4)] at hQ
          subst hQ
          have h5 : W3 = 3 := by omega
          subst h5
          refine aH Tryz.func139 rfl rfl (nb rfl) rfl ?_
          repeat' (first | refine aE ?_ | (refine aG ?_;  first | refine aB tabOk rfl rfl rfl (nb rfl) rfl ?_ | refine bL rfl rfl (nb rfl) ?_ | (refine aI rfl rfl rfl (nb rfl) rfl rfl rfl (fun hq => ?_) (fun hq => ?_) <;> (first | (simp only [sD, sE, sB, sC, sN, sM, sT, sF] at hq; try (exfalso; omega)) | skip)) | refine aD rfl rfl (nb rfl) rfl rfl rfl rfl (c1) ?_ | refine aD rfl rfl (nb rfl) rfl rfl rfl rfl (c2) ?_ | refine aD rfl rfl (nb rfl) rfl rfl rfl rfl (c3) ?_ | refine cH 1001 (d := 4) rfl rfl rfl (nb rfl) rfl rfl rfl rfl rfl rfl rfl ?_ | refine cH 1004 (d := 5) rfl rfl rfl (nb rfl) rfl rfl rfl rfl rfl rfl rfl ?_ | refine cD 1002 (d := 10) tabOk rfl rfl rfl (nb rfl) rfl rfl rfl rfl rfl rfl ?_ | refine cD 1000 (d := 11) tabOk rfl rfl rfl (nb rfl) rfl rfl rfl rfl rfl rfl ?_ | refine cD 1003 (d := 12) tabOk rfl rfl rfl (nb rfl) rfl rfl rfl rfl rfl rfl ?_ | refine bW rfl rfl (nb rfl) rfl rfl rfl rfl cw (by repeat' first | exact trivial | refine ⟨rfl, ?_⟩) rfl (by show ([1000, 1001, 1002, 1003, 1004] : List Nat).Nodup; decide) ?_ | refine bK tabOk rfl rfl rfl (nb rfl) rfl rfl rfl rfl ?_ | refine bG tabOk rfl rfl rfl rfl rfl rfl rfl rfl rfl rfl rfl ?_) | (refine aK ?_;  first | refine aF ?_ | refine aL ?_ | refine aM ?_ | refine aS ?_ | refine aC (b := true) rfl (fun _ => ?_) nTf | refine aC (b := false) rfl nFt (fun _ => ?_) | refine aQ mixed (by kernel_rfl) ?_) | (refine aJ ?_;  first | refine aU ?_ | refine aN ?_) | refine bC (aZ (by kernel_rfl)) ?_)
          all_goals first
            | exact absurd rfl (by assumption)
            | (exfalso; omega)
            | (refine aO (by first | exact .inl rfl | exact .inr rfl) (aV rfl (aA rfl) (aA rfl)) rfl ?_; rfl)
        · have h5 : W3 = 0 := by omega
          subst h5
          by_cases h6 : W1.size > 65536
          · rw [if_pos (.inr h6)] at hQ
            subst hQ
            have h7 : LP > 65536 := hlg.2.2.2 (by omega)
            refine aH Tryz.func139 rfl rfl (nb rfl) rfl ?_
            repeat' (first | refine aE ?_ | (refine aG ?_;  first | refine aB tabOk rfl rfl rfl (nb rfl) rfl ?_ | (refine aI rfl rfl rfl (nb rfl) rfl rfl rfl (fun hq => ?_) (fun hq => ?_) <;> (first | (simp only [sD, sE, sB, sC, sN, sM, sT, sF] at hq; try (exfalso; omega)) | skip)) | refine aD rfl rfl (nb rfl) rfl rfl rfl rfl (c1) ?_ | refine aD rfl rfl (nb rfl) rfl rfl rfl rfl (c2) ?_ | refine aD rfl rfl (nb rfl) rfl rfl rfl rfl (c3) ?_ | refine aD rfl rfl (nb rfl) rfl rfl rfl rfl (c4) ?_ | refine cH 1001 (d := 4) rfl rfl rfl (nb rfl) rfl rfl rfl rfl rfl rfl rfl ?_ | refine cH 1004 (d := 5) rfl rfl rfl (nb rfl) rfl rfl rfl rfl rfl rfl rfl ?_ | refine cD 1002 (d := 10) tabOk rfl rfl rfl (nb rfl) rfl rfl rfl rfl rfl rfl ?_ | refine cD 1000 (d := 11) tabOk rfl rfl rfl (nb rfl) rfl rfl rfl rfl rfl rfl ?_ | refine cD 1003 (d := 12) tabOk rfl rfl rfl (nb rfl) rfl rfl rfl rfl rfl rfl ?_ | refine bW rfl rfl (nb rfl) rfl rfl rfl rfl cw (by repeat' first | exact trivial | refine ⟨rfl, ?_⟩) rfl (by show ([1000, 1001, 1002, 1003, 1004] : List Nat).Nodup; decide) ?_ | refine bK tabOk rfl rfl rfl (nb rfl) rfl rfl rfl rfl ?_ | refine bG tabOk rfl rfl rfl rfl rfl rfl rfl rfl rfl rfl rfl ?_) | (refine aK ?_;  first | refine aF ?_ | refine aL ?_ | refine bD ?_ | refine aM ?_ | refine aS ?_ | refine aC (b := true) rfl (fun _ => ?_) nTf | refine aC (b := false) rfl nFt (fun _ => ?_) | refine aQ mixed (by kernel_rfl) ?_) | (refine aJ ?_;  first | refine aU ?_ | refine aN ?_) | refine bC (aZ (by kernel_rfl)) ?_)
            all_goals first
              | exact absurd rfl (by assumption)
              | (exfalso; omega)
              | (refine aO (by first | exact .inl rfl | exact .inr rfl) (aV rfl (aA rfl) (aA rfl)) rfl ?_; rfl)
          · rw [if_neg (fun h => h.elim (fun h => h rfl) h6)] at hQ
            subst hQ
            have h7 : LP = W1.size := hlg.2.2.1 (by omega)
            dsimp only
            rw [hpc]
            refine aH Tryz.func139 rfl rfl (nb rfl) rfl ?_
            repeat' (first | refine aE ?_ | (refine aG ?_;  first | refine aB tabOk rfl rfl rfl (nb rfl) rfl ?_ | (refine aI rfl rfl rfl (nb rfl) rfl rfl rfl (fun hq => ?_) (fun hq => ?_) <;> (first | (simp only [sD, sE, sB, sC, sN, sM, sT, sF] at hq; try (exfalso; omega)) | skip)) | refine aD rfl rfl (nb rfl) rfl rfl rfl rfl (c1) ?_ | refine aD rfl rfl (nb rfl) rfl rfl rfl rfl (c2) ?_ | refine aD rfl rfl (nb rfl) rfl rfl rfl rfl (c3) ?_ | refine aD rfl rfl (nb rfl) rfl rfl rfl rfl (c4) ?_ | refine cH 1001 (d := 4) rfl rfl rfl (nb rfl) rfl rfl rfl rfl rfl rfl rfl ?_ | refine cH 1004 (d := 5) rfl rfl rfl (nb rfl) rfl rfl rfl rfl rfl rfl rfl ?_ | refine cD 1002 (d := 10) tabOk rfl rfl rfl (nb rfl) rfl rfl rfl rfl rfl rfl ?_ | refine cD 1000 (d := 11) tabOk rfl rfl rfl (nb rfl) rfl rfl rfl rfl rfl rfl ?_ | refine cD 1003 (d := 12) tabOk rfl rfl rfl (nb rfl) rfl rfl rfl rfl rfl rfl ?_ | refine bW rfl rfl (nb rfl) rfl rfl rfl rfl cw (by repeat' first | exact trivial | refine ⟨rfl, ?_⟩) rfl (by show ([1000, 1001, 1002, 1003, 1004] : List Nat).Nodup; decide) ?_ | refine bK tabOk rfl rfl rfl (nb rfl) rfl rfl rfl rfl ?_ | refine bG tabOk rfl rfl rfl rfl rfl rfl rfl rfl rfl rfl rfl ?_) | (refine aK ?_;  first | refine aF ?_ | refine aL ?_ | refine aM ?_ | refine aS ?_ | refine aC (b := false) rfl nFt (fun _ => ?_)) | (refine aJ ?_;  first | refine aU ?_))
            all_goals first
              | exact absurd rfl (by assumption)
              | (exfalso; omega)
              | (refine aO (by first | exact .inl rfl | exact .inr rfl) (aV rfl (aA rfl) (aA rfl)) rfl ?_; rfl)
    · rw [if_pos hb] at hQ
      subst hQ
      generalize checkP isConP by_ = C at *
      obtain ⟨y, hy, hy1⟩ : ∃ y, by_.iv = y ∧ (y = .lit (.pointer none) ∨ ∃ p, y = .ptr p 0) := by
        cases by_ with
        | nil => exact ⟨_, rfl, .inl rfl⟩
        | node k n a b ks => exact ⟨_, rfl, .inr ⟨_, by rw [Tree.iv]⟩⟩
      rw [hy] at c2 ⊢
      rcases hy1 with rfl | ⟨p, rfl⟩ <;>
      (refine aH Tryz.func139 rfl rfl (nb rfl) rfl ?_
       repeat' (first | refine aE ?_ | (refine aG ?_;  first | refine aB tabOk rfl rfl rfl (nb rfl) rfl ?_ | (refine aI rfl rfl rfl (nb rfl) rfl rfl rfl (fun hq => ?_) (fun hq => ?_) <;> (first | (simp only [sD, sE, sB, sC, sN, sM, sT, sF] at hq; try (exfalso; omega)) | skip)) | refine aD rfl rfl (nb rfl) rfl rfl rfl rfl (c1) ?_ | refine aD rfl rfl (nb rfl) rfl rfl rfl rfl (c2) ?_ | refine cH 1001 (d := 4) rfl rfl rfl (nb rfl) rfl rfl rfl rfl rfl rfl rfl ?_ | refine cH 1004 (d := 5) rfl rfl rfl (nb rfl) rfl rfl rfl rfl rfl rfl rfl ?_ | refine bK tabOk rfl rfl rfl (nb rfl) rfl rfl rfl rfl ?_) | (refine aK ?_;  first | refine aF ?_ | refine aL ?_ | refine aM ?_ | refine aS ?_ | refine aC (b := true) rfl (fun _ => ?_) nTf | refine aC (b := false) rfl nFt (fun _ => ?_)) | (refine aJ ?_;  first | refine aU ?_ | refine aN ?_))
       all_goals first
         | exact absurd rfl (by assumption)
         | exact absurd (by assumption) hb
         | (exfalso; omega)
         | (refine aO (by first | exact .inl rfl | exact .inr rfl) (aV rfl (aA rfl) (aA rfl)) rfl ?_; rfl))
  · rw [if_pos hc] at hQ
    subst hQ
    generalize checkP isConP t = C at *
    obtain ⟨y, hy, hy1⟩ : ∃ y, by_.iv = y ∧ (y = .lit (.pointer none) ∨ ∃ p, y = .ptr p 0) := by
      cases by_ with
      | nil => exact ⟨_, rfl, .inl rfl⟩
      | node k n a b ks => exact ⟨_, rfl, .inr ⟨_, by rw [Tree.iv]⟩⟩
    rw [hy]
    rcases hy1 with rfl | ⟨p, rfl⟩ <;>
    (refine aH Tryz.func139 rfl rfl (nb rfl) rfl ?_
     repeat' (first | refine aE ?_ | (refine aG ?_;  first | refine aB tabOk rfl rfl rfl (nb rfl) rfl ?_ | (refine aI rfl rfl rfl (nb rfl) rfl rfl rfl (fun hq => ?_) (fun hq => ?_) <;> (first | (simp only [sD, sE, sB, sC, sN, sM, sT, sF] at hq; try (exfalso; omega)) | skip)) | refine aD rfl rfl (nb rfl) rfl rfl rfl rfl (c1) ?_ | refine cH 1001 (d := 4) rfl rfl rfl (nb rfl) rfl rfl rfl rfl rfl rfl rfl ?_ | refine cH 1004 (d := 5) rfl rfl rfl (nb rfl) rfl rfl rfl rfl rfl rfl rfl ?_) | (refine aK ?_;  first | refine aF ?_ | refine aL ?_ | refine aM ?_ | refine aC (b := true) rfl (fun _ => ?_) nTf) | (refine aJ ?_;  first | refine aN ?_))
     all_goals first
       | exact absurd rfl (by assumption)
       | exact absurd (by assumption) hc
       | (exfalso; omega)
       | (refine aO (by first | exact .inl rfl | exact .inr rfl) (aV rfl (aA rfl) (aA rfl)) rfl ?_; rfl))
end Go.Proofs.YtocaohipfiapkaaGreatDoor.Ab
namespace Go.Proofs.YtocaohipfiapkaaGreatDoor.Ab
set_option linter.unusedVariables false
set_option linter.unusedSimpArgs false
attribute [local irreducible] AWP AOps AExit AThen ABlock ANoGoto FeetOk
set_option maxRecDepth 10000 in
theorem aDx (n : Nat) (cs : List IV) (h0 : 0 < n) (hn : n ≤ 100000000) (hl : cs.length = n) : ACalls Tryz.prog 140 [.imm (.sl false n cs)] [(500, .fut)] (.ref 500 n) [(500, .arr 25 1 n cs)] := by
  have key : ACalls Tryz.prog 140 [.imm (.sl false n cs)] [(500, .fut)] (.ref 500 (0 + n)) [(500, .arr 25 1 (0 + n) cs)] := by
    refine bX [500] Tryz.func140 rfl rfl (nb rfl) rfl rfl ?_
    repeat' (first | refine aE ?_ | (refine aG ?_;  first | refine aB tabOk rfl rfl rfl (nb rfl) rfl ?_ | refine yO tabOk rfl rfl rfl (nb rfl) rfl rfl rfl h0 ?_ | refine aAR 500 tabOk rfl rfl rfl (nb rfl) rfl rfl rfl rfl rfl rfl rfl h0 (by rw [hl]; exact (Nat.mul_one _).symm) (by omega) (by dsimp only; omega) rfl ?_ | refine bS tabOk rfl rfl rfl (nb rfl) rfl rfl rfl rfl rfl rfl rfl rfl rfl ?_) | (refine aK ?_;  first | refine aF ?_ | refine aL ?_ | refine aM ?_ | refine aS ?_ | refine aC (b := false) rfl nFt (fun _ => ?_)) | (refine aJ ?_;  first | refine aU ?_))
    all_goals (refine cB (yP (by first | exact .inl rfl | exact .inr rfl) (aW rfl (aA rfl)) rfl (by repeat' first | exact trivial | refine ⟨rfl, ?_⟩) rfl ?_); rfl)
  rw [Nat.zero_add] at key
  exact key
/-- A redex's body and argument. -/
def redexP : Tree → Option (Tree × Tree)
  | .node k _ _ _ [.node k' _ _ _ [_, b], y] => if k = 120 ∧ k' = 119 then some (b, y) else none
  | _ => none
mutual
/-- An application, a function have two kids. -/
def okStep : Tree → Bool
  | .nil => false
  | .node k _ _ _ kids => (if k = 120 ∨ k = 119 then kids.length == 2 else true) && okSteps kids
def okSteps : List Tree → Bool
  | [] => true
  | t :: ts => okStep t && okSteps ts
end
theorem jR : ∀ {l : List Tree}, okSteps l = true → ∀ t ∈ l, okStep t = true
  | x :: xs, h, t, ht => by
    simp only [okSteps, Bool.and_eq_true] at h
    rcases List.mem_cons.1 ht with rfl | ht
    · exact h.1
    · exact jR h.2 t ht
theorem eM : ∀ {l : List Tree}, (∀ t ∈ l, okStep t = true) → okSteps l = true
  | [], _ => by rw [okSteps]
  | x :: xs, h => by
    simp only [okSteps, Bool.and_eq_true]
    exact ⟨h x (by simp), eM fun t ht => h t (by simp [ht])⟩
theorem wD (t : Tree) : isKindP t = true → okStep t = true := by
  induction t using Tree.ind with
  | h1 => intro h; simp [isKindP] at h
  | h2 k n a b kids ih =>
    intro h
    rw [isKindP] at h
    split at h
    · rename_i e
      simp only [Bool.and_eq_true, beq_iff_eq] at h
      have e0 : kids = [] := List.eq_nil_of_length_eq_zero (by omega)
      subst e0
      rw [okStep, if_neg (by omega), okSteps]; rfl
    · split at h
      · rename_i e0 e
        simp only [Bool.and_eq_true] at h
        rw [okStep, if_neg (by omega), Bool.true_and]
        refine eM fun t ht => ih t ht ?_
        rw [dI, List.all_map] at h
        exact List.all_eq_true.1 h.2 t ht
      · cases h
theorem jS {kind : Int} (hk : ¬ (kind = 120 ∨ kind = 119)) {t : Tree} (ih : ∀ t' : Tree, t'.size < t.size → isConP t' = true → okStep t' = true) (h : okNamed kind t = true) : okStep t = true := by
  cases t with
  | nil => simp [okNamed] at h
  | node k n a b ks =>
    simp only [okNamed, Bool.and_eq_true, beq_iff_eq] at h
    obtain ⟨⟨⟨rfl, _⟩, _⟩, h⟩ := h
    by_cases h1 : ks.length = 1
    · obtain ⟨c, rfl⟩ := one_of h1
      rw [okStep, if_neg hk, Bool.true_and]
      refine eM fun t ht => ?_
      obtain rfl := List.mem_singleton.1 ht
      exact ih t (bN (by simp)) (by simpa [isCon1] using h)
    · rw [eX h1] at h; cases h
theorem yT (t : Tree) : isConP t = true → okStep t = true := by
  induction t using Tree.sind with
  | h t ih =>
    intro h
    cases t with
    | nil => simp [isConP] at h
    | node k n a b kids =>
      rw [isConP, Bool.and_eq_true] at h
      obtain ⟨hb, h⟩ := h
      have kid : ∀ t ∈ kids, isConP t = true → okStep t = true := fun t ht => ih t (bN ht)
      by_cases k0 : k = 110 ∨ k = 111 ∨ k = 112 ∨ k = 113
      · have e0 : kids = [] := by
          rcases k0 with k0 | k0
          · rw [if_pos k0] at h
            simp only [Bool.and_eq_true, beq_iff_eq] at h
            exact List.eq_nil_of_length_eq_zero (by omega)
          · rw [if_neg (by omega), if_pos k0] at h
            exact List.eq_nil_of_length_eq_zero (by simpa using h)
        rw [e0, okStep, if_neg (by omega), okSteps]; rfl
      · rw [if_neg (by omega), if_neg (by omega)] at h
        by_cases k2 : k = 114 ∨ k = 120
        · rw [if_pos k2, Bool.and_eq_true, eL] at h
          rw [okStep, Bool.and_eq_true]
          refine ⟨?_, eM fun t ht => kid t ht (List.all_eq_true.1 h.2 t ht)⟩
          split
          · have := h.1
            simp only [beq_iff_eq] at this ⊢
            omega
          · rfl
        · rw [if_neg k2] at h
          by_cases k3 : k = 115
          · rw [if_pos k3, Bool.and_eq_true, cZ] at h
            rw [okStep, if_neg (by omega), Bool.true_and]
            refine eM fun t ht => ?_
            have hz := bN (k := k) (n := n) (a := a) (b := b) ht
            exact jS (by decide) (fun t' h1 h2 => ih t' (by omega) h2) (List.all_eq_true.1 h.1 t ht)
          · rw [if_neg k3] at h
            by_cases k4 : k = 117 ∨ k = 118 ∨ k = 119
            · rw [if_pos k4] at h
              by_cases h2 : kids.length = 2
              · obtain ⟨x, y, rfl⟩ := two h2
                simp only [isCon2, Bool.and_eq_true] at h
                rw [okStep, Bool.and_eq_true]
                refine ⟨by split <;> rfl, eM fun t ht => ?_⟩
                rcases List.mem_cons.1 ht with rfl | ht'
                · exact wD _ h.1
                · obtain rfl := List.mem_singleton.1 ht'
                  exact kid _ ht h.2
              · rw [eQ h2] at h; cases h
            · rw [if_neg k4] at h
              by_cases k5 : k = 121
              · rw [if_pos k5, Bool.and_eq_true, Bool.and_eq_true, cZ] at h
                rw [okStep, if_neg (by omega), Bool.true_and]
                refine eM fun t ht => ?_
                have hz := bN (k := k) (n := n) (a := a) (b := b) ht
                exact jS (by decide) (fun t' h1 h2 => ih t' (by omega) h2) (List.all_eq_true.1 h.1.2 t ht)
              · rw [if_neg k5] at h; cases h
mutual
/-- A step: what it makes, whether there is one, the error. -/
def stepP : Tree → Tree × Bool × Int
  | .nil => (.nil, false, 0)
  | .node k n a b kids => match redexP (.node k n a b kids) with
    | some (bd, y) => ((substP bd 0 y).1, decide ((substP bd 0 y).2 = 0), (substP bd 0 y).2)
    | none => if (stepPs kids).2.2.2 ≠ 0 then (.nil, false, (stepPs kids).2.2.2) else if (stepPs kids).2.2.1 = true then (.node k n a b (kids.set (stepPs kids).1 (stepPs kids).2.1), true, 0) else (.nil, false, 0)
/-- The first of them that makes a step: which, what it makes. -/
def stepPs : List Tree → Nat × Tree × Bool × Int
  | [] => (0, .nil, false, 0)
  | t :: ts => if (stepP t).2.2 ≠ 0 then (0, .nil, false, (stepP t).2.2) else if (stepP t).2.1 = true then (0, (stepP t).1, true, 0) else ((stepPs ts).1 + 1, (stepPs ts).2)
end
theorem gO {t bd y : Tree} (h : redexP t = some (bd, y)) : ∃ n a b n' a' b' u, t = .node 120 n a b [.node 119 n' a' b' [u, bd], y] := by
  unfold redexP at h
  split at h
  · split at h
    · rename_i hc
      cases h
      obtain ⟨rfl, rfl⟩ := hc
      exact ⟨_, _, _, _, _, _, _, rfl⟩
    · cases h
  · cases h
def Tree.kind : Tree → Int
  | .nil => 0
  | .node k _ _ _ _ => k
theorem wE {k n : Int} {a b : ByteArray} {kids : List Tree} (ho : okStep (.node k n a b kids) = true) (h : redexP (.node k n a b kids) = none) : k = 120 → ∃ x y, kids = [x, y] ∧ x.kind ≠ 119 := by
  intro hk
  rw [okStep, if_pos (.inl hk), Bool.and_eq_true] at ho
  obtain ⟨x, y, rfl⟩ := two (by simpa using ho.1)
  refine ⟨x, y, rfl, fun hx => ?_⟩
  have hox := jR ho.2 x (by simp)
  cases x with
  | nil => cases hx
  | node k' n' a' b' ks =>
    have hx : k' = 119 := hx
    rw [okStep, if_pos (.inr hx), Bool.and_eq_true] at hox
    obtain ⟨u, bd, rfl⟩ := two (by simpa using hox.1)
    rw [redexP, if_pos ⟨hk, hx⟩] at h
    cases h
set_option maxHeartbeats 4000000 in
set_option maxRecDepth 10000 in
theorem aDy (t : Tree) (hw : t.whole = true) (ho : okStep t = true) : ACalls Tryz.prog 138 [.imm t.iv] [] (.imm (.lit (.bool (redexP t).isSome))) [] := by
  cases hr : redexP t with
  | some p =>
    obtain ⟨bd, y⟩ := p
    obtain ⟨n, a, b, n', a', b', u, rfl⟩ := gO hr
    refine aH Tryz.func138 rfl rfl (nb rfl) rfl ?_
    repeat' (first | refine aE ?_ | (refine aG ?_;  first | refine aB tabOk rfl rfl rfl (nb rfl) rfl ?_ | (refine aI rfl rfl rfl (nb rfl) rfl rfl rfl (fun hq => ?_) (fun hq => ?_) <;> (first | (simp only [sD, sE, sB, sC, sN, sM, sT, sF] at hq; try (exfalso; omega)) | skip)) | refine aY tabOk rfl rfl rfl (nb rfl) rfl rfl rfl rfl (by first | rfl | omega) (by first | omega | simp) ?_) | (refine aK ?_;  first | refine aF ?_ | refine aM ?_))
    all_goals first
      | exact absurd rfl (by assumption)
      | (refine aO (by first | exact .inl rfl | exact .inr rfl) (aW rfl (aA rfl)) rfl ?_; rfl)
  | none =>
    cases t with
    | nil => simp [Tree.whole] at hw
    | node k n a b kids =>
      have h2 := wE ho hr
      by_cases hk : k = 120
      · obtain ⟨x, y, rfl, hx⟩ := h2 hk
        subst hk
        have hwx := bF hw (List.mem_cons_self (a := x))
        cases x with
        | nil => simp [Tree.whole] at hwx
        | node k' n' a' b' ks =>
          have hx : k' ≠ 119 := hx
          refine aH Tryz.func138 rfl rfl (nb rfl) rfl ?_
          repeat' (first | refine aE ?_ | (refine aG ?_;  first | refine aB tabOk rfl rfl rfl (nb rfl) rfl ?_ | (refine aI rfl rfl rfl (nb rfl) rfl rfl rfl (fun hq => ?_) (fun hq => ?_) <;> (first | (simp only [sD, sE, sB, sC, sN, sM, sT, sF] at hq; try (exfalso; omega)) | skip)) | refine aY tabOk rfl rfl rfl (nb rfl) rfl rfl rfl rfl (by first | rfl | omega) (by first | omega | simp) ?_) | (refine aK ?_;  first | refine aF ?_ | refine aM ?_))
          all_goals first
            | exact absurd rfl (by assumption)
            | exact absurd (by assumption) hx
            | (refine aO (by first | exact .inl rfl | exact .inr rfl) (aW rfl (aA rfl)) rfl ?_; rfl)
      · refine aH Tryz.func138 rfl rfl (nb rfl) rfl ?_
        repeat' (first | refine aE ?_ | (refine aG ?_;  first | refine aB tabOk rfl rfl rfl (nb rfl) rfl ?_ | refine bL rfl rfl (nb rfl) ?_ | (refine aI rfl rfl rfl (nb rfl) rfl rfl rfl (fun hq => ?_) (fun hq => ?_) <;> (first | (simp only [sD, sE, sB, sC, sN, sM, sT, sF] at hq; try (exfalso; omega)) | skip))) | (refine aK ?_;  first | refine aF ?_ | refine aM ?_))
        all_goals first
          | exact absurd (by assumption) hk
          | exact absurd rfl (by assumption)
          | (refine aO (by first | exact .inl rfl | exact .inr rfl) (aW rfl (aA rfl)) rfl ?_; rfl)
end Go.Proofs.YtocaohipfiapkaaGreatDoor.Ab
namespace Go.Proofs.YtocaohipfiapkaaGreatDoor.Ab
set_option linter.unusedVariables false
set_option linter.unusedSimpArgs false
attribute [local irreducible] AWP AOps AExit AThen ABlock ANoGoto FeetOk
theorem oU : ∀ (l : List Tree), (stepPs l).2.2.2 = 0 → (stepPs l).2.2.1 = true → ∃ h : (stepPs l).1 < l.length, (stepPs l).2.1 = (stepP (l[(stepPs l).1]'h)).1 ∧ (stepP (l[(stepPs l).1]'h)).2.1 = true ∧ (stepP (l[(stepPs l).1]'h)).2.2 = 0
  | [], _, h => by simp [stepPs] at h
  | t :: ts, h1, h2 => by
    by_cases c1 : (stepP t).2.2 ≠ 0
    · rw [stepPs, if_pos c1] at h2; cases h2
    · by_cases c2 : (stepP t).2.1 = true
      · have e : stepPs (t :: ts) = (0, (stepP t).1, true, 0) := by rw [stepPs, if_neg c1, if_pos c2]
        have c3 : (stepP t).2.2 = 0 := by omega
        simp only [e]
        exact ⟨by simp, rfl, c2, c3⟩
      · have e : stepPs (t :: ts) = ((stepPs ts).1 + 1, (stepPs ts).2) := by rw [stepPs, if_neg c1, if_neg c2]
        rw [e] at h1 h2
        obtain ⟨h, g1, g2, g3⟩ := oU ts h1 h2
        simp only [e]
        refine ⟨by simpa using h, ?_, ?_, ?_⟩
        · rw [List.getElem_cons_succ]; exact g1
        · rw [List.getElem_cons_succ]; exact g2
        · rw [List.getElem_cons_succ]; exact g3
theorem tI (r : Tree) : ∀ (l : List Tree) (j : Nat) (h : j < l.length), Tree.sizes (l.set j r) + l[j].size = Tree.sizes l + r.size
  | [], _, h => by simp at h
  | x :: l, 0, h => by simp only [List.set_cons_zero, Tree.sizes, List.getElem_cons_zero]; omega
  | x :: l, j + 1, h => by have := tI r l j (by simpa using h); simp only [List.set_cons_succ, Tree.sizes, List.getElem_cons_succ]; omega
theorem qS {r : Tree} (hr : r.whole = true) : ∀ (l : List Tree) (j : Nat), Tree.wholes l = true → Tree.wholes (l.set j r) = true
  | [], _, _ => by simp [Tree.wholes]
  | x :: l, 0, h => by
    simp only [List.set_cons_zero, Tree.wholes, Bool.and_eq_true] at h ⊢
    exact ⟨hr, h.2⟩
  | x :: l, j + 1, h => by
    simp only [List.set_cons_succ, Tree.wholes, Bool.and_eq_true] at h ⊢
    exact ⟨h.1, qS hr l j h.2⟩
theorem qT (t : Tree) : t.whole = true → (stepP t).2.1 = true → (stepP t).2.2 = 0 → (stepP t).1.whole = true ∧ (stepP t).1.size ≤ t.size + 65536 := by
  induction t using Tree.ind with
  | h1 => intro h; simp [Tree.whole] at h
  | h2 k n a b kids ih =>
    intro hw h1 h2
    rw [stepP] at h1 h2 ⊢
    cases hr : redexP (.node k n a b kids) with
    | some p =>
      obtain ⟨bd, y⟩ := p
      rw [hr] at h1 h2
      have := jQ bd 0 y h2
      exact ⟨this.1, by dsimp only; omega⟩
    | none =>
      rw [hr] at h1 h2
      dsimp only at h1 h2 ⊢
      by_cases c1 : (stepPs kids).2.2.2 ≠ 0
      · rw [if_pos c1] at h1; cases h1
      · rw [if_neg c1] at h1 h2 ⊢
        by_cases c2 : (stepPs kids).2.2.1 = true
        · rw [if_pos c2]
          obtain ⟨h, g1, g2, g3⟩ := oU kids (by omega) c2
          have hm := List.getElem_mem h
          have := ih _ hm (bF hw hm) g2 g3
          rw [← g1] at this
          have hz := cU hm
          refine ⟨qS this.1 kids _ hw, ?_⟩
          have hss := tI (stepPs kids).2.1 kids _ h
          simp only [Tree.size]
          omega
        · rw [if_neg c2] at h1; cases h1
set_option maxHeartbeats 16000000 in
set_option maxRecDepth 10000 in
theorem aEa (t : Tree) : t.whole = true → okStep t = true → t.size ≤ 400000 → ACalls Tryz.prog 121 [.imm t.iv] [] (.imm (.tup [(stepP t).1.iv, .lit (.bool (stepP t).2.1), .lit (.int .i64 (stepP t).2.2)])) [] := by
  induction t using Tree.ind with
  | h1 => intro h; simp [Tree.whole] at h
  | h2 k n a b kids ih =>
    intro hw ho hs
    have hl := cG kids hw
    have hsz : (Tree.node k n a b kids).size = 1 + Tree.sizes kids := by rw [Tree.size]
    rw [hsz] at hs
    have c1 := aDy (.node k n a b kids) hw ho
    generalize hR : stepP (.node k n a b kids) = R
    rw [stepP] at hR
    cases hr : redexP (.node k n a b kids) with
    | some p =>
      obtain ⟨bd, y⟩ := p
      rw [hr] at hR c1
      dsimp only at hR
      obtain ⟨n1, a1, b1, n', a', b', u, e⟩ := gO hr
      cases e
      have hbs : bd.size ≤ 400000 := by
        have h1 := bN (k := 119) (n := n') (a := a') (b := b') (kids := [u, bd]) (t := bd) (by simp)
        have h2 := cU (l := [.node 119 n' a' b' [u, bd], y]) (t := .node 119 n' a' b' [u, bd]) (by simp)
        omega
      have hys : y.size ≤ 400000 := by
        have h2 := cU (l := [.node 119 n' a' b' [u, bd], y]) (t := y) (by simp)
        omega
      have c2 := aAl bd 0 y (by omega) (by omega)
      clear ih hr hw ho
      generalize substP bd 0 y = S at *
      obtain ⟨S1, S2⟩ := S
      dsimp only at hR c2
      subst hR
      dsimp only
      by_cases h0 : S2 = 0
      · rw [decide_eq_true h0]
        refine cK Tryz.func121 rfl rfl (nb rfl) rfl ?_
        repeat' (first | refine aE ?_ | (refine aG ?_;  first | refine aB tabOk rfl rfl rfl (nb rfl) rfl ?_ | (refine aI rfl rfl rfl (nb rfl) rfl rfl rfl (fun hq => ?_) (fun hq => ?_) <;> (first | (simp only [sD, sE, sB, sC, sN, sM, sT, sF] at hq; try (exfalso; omega)) | skip)) | refine aD rfl rfl (nb rfl) rfl rfl rfl rfl (c1) ?_ | refine aD rfl rfl (nb rfl) rfl rfl rfl rfl (c2) ?_ | refine aY tabOk rfl rfl rfl (nb rfl) rfl rfl rfl rfl (by first | rfl | omega) (by first | omega | simp) ?_) | (refine aK ?_;  first | refine aF ?_ | refine aL ?_ | refine aM ?_ | refine aC (b := true) rfl (fun _ => ?_) nTf | refine aQ mixed (by kernel_rfl) ?_) | (refine aJ ?_;  first | refine aU ?_ | refine aN ?_) | refine bC (aZ (by kernel_rfl)) ?_)
        all_goals first
          | exact absurd h0 (by assumption)
          | exact absurd rfl (by assumption)
          | (refine cN ?_; refine aO (by first | exact .inl rfl | exact .inr rfl) (eU rfl (aA rfl) (aA rfl) (aA rfl)) rfl ?_; rfl)
      · rw [decide_eq_false h0]
        refine cK Tryz.func121 rfl rfl (nb rfl) rfl ?_
        repeat' (first | refine aE ?_ | (refine aG ?_;  first | refine aB tabOk rfl rfl rfl (nb rfl) rfl ?_ | (refine aI rfl rfl rfl (nb rfl) rfl rfl rfl (fun hq => ?_) (fun hq => ?_) <;> (first | (simp only [sD, sE, sB, sC, sN, sM, sT, sF] at hq; try (exfalso; omega)) | skip)) | refine aD rfl rfl (nb rfl) rfl rfl rfl rfl (c1) ?_ | refine aD rfl rfl (nb rfl) rfl rfl rfl rfl (c2) ?_ | refine aY tabOk rfl rfl rfl (nb rfl) rfl rfl rfl rfl (by first | rfl | omega) (by first | omega | simp) ?_) | (refine aK ?_;  first | refine aF ?_ | refine aL ?_ | refine aM ?_ | refine aC (b := true) rfl (fun _ => ?_) nTf | refine aQ mixed (by kernel_rfl) ?_) | (refine aJ ?_;  first | refine aU ?_ | refine aN ?_) | refine bC (aZ (by kernel_rfl)) ?_)
        all_goals first
          | exact absurd (by assumption) h0
          | exact absurd rfl (by assumption)
          | (refine cN ?_; refine aO (by first | exact .inl rfl | exact .inr rfl) (eU rfl (aA rfl) (aA rfl) (aA rfl)) rfl ?_; rfl)
    | none =>
      rw [hr] at hR c1
      dsimp only at hR
      have hind : ∀ j (h : j < kids.length), ACalls Tryz.prog 121 [.imm kids[j].iv] [] (.imm (.tup [(stepP kids[j]).1.iv, .lit (.bool (stepP kids[j]).2.1), .lit (.int .i64 (stepP kids[j]).2.2)])) [] := fun j h => by
        have hm := List.getElem_mem h
        have hz := cU hm
        rw [okStep, Bool.and_eq_true] at ho
        exact ih _ hm (bF hw hm) (jR ho.2 _ hm) (by omega)
      clear ih hr ho hsz
      refine cK Tryz.func121 rfl rfl (nb rfl) rfl ?_
      repeat' (first | refine aE ?_ | (refine aG ?_;  first | refine aB tabOk rfl rfl rfl (nb rfl) rfl ?_ | refine aD rfl rfl (nb rfl) rfl rfl rfl rfl (c1) ?_ | refine aT tabOk rfl rfl (nb rfl) rfl ?_) | (refine aK ?_;  first | refine aF ?_ | refine aL ?_ | refine aR ?_ | refine aS ?_ | refine aC (b := false) rfl nFt (fun _ => ?_)) | (refine aJ ?_;  first | refine aU ?_))
      all_goals first
        | exact absurd rfl (by assumption)
        | (exfalso; omega)
        | skip
      refine cP (eH 500 (by simp) rfl rfl) ?_
      refine bZ (ι := {j : Nat // j ≤ kids.length ∧ stepPs kids = ((stepPs (kids.drop j)).1 + j, (stepPs (kids.drop j)).2)}) (fun j => S.f ⟨[(44, .imm (.lit (.int .i64 (j.1 : Int)))), (43, .imm (.lit (.int .i64 (kids.length : Int)))), (0, .imm (Tree.iv (.node k n a b kids)))], [(500, .fut)]⟩) (fun j => kids.length - j.1) ⟨0, Nat.zero_le _, rfl⟩ (bT (by repeat' first | exact trivial | refine ⟨rfl, ?_⟩) (by repeat' first | exact trivial | refine ⟨rfl, ?_⟩)) ?_
      clear c1
      rintro ⟨j, hj, hst⟩
      dsimp only
      by_cases hlt : j < kids.length
      · have hget := cC kids j hlt
        have hc := hind j hlt
        have hwk := bF hw (List.getElem_mem hlt)
        have hfn := qT kids[j] hwk
        rw [List.drop_eq_getElem_cons hlt, stepPs] at hst
        have hset := fun r : Tree => (show (Tree.ivs kids).set j r.iv = Tree.ivs (kids.set j r) by rw [dC, dC, List.map_set])
        have hstn := fun r : Tree => (show (Tree.node k n a b (kids.set j r)).iv = .ptr [.lit (.int .i64 k), .lit (.int .i64 n), .lit (.string a), .lit (.string b), .sl false kids.length (Tree.ivs (kids.set j r))] 0 by rw [Tree.iv, List.length_set])
        have hcl := aDx kids.length (Tree.ivs kids) (by omega) (by omega) (dG kids)
        clear hind
        generalize stepP kids[j] = Q at *
        obtain ⟨Q1, Q2, Q3⟩ := Q
        dsimp only at *
        by_cases h0 : Q3 = 0
        · subst h0
          cases Q2 with
          | true =>
            rw [if_neg (by simp), if_pos rfl] at hst
            have hs1 : stepPs kids = (0 + j, Q1, true, 0) := hst
            rw [hs1] at hR
            have hR : (Tree.node k n a b (kids.set (0 + j) Q1), true, (0 : Int)) = R := by simpa using hR
            subst hR
            rw [Nat.zero_add]
            dsimp only
            rw [hstn Q1, ← hset Q1]
            obtain ⟨pc, hpc⟩ := bR (bJ (hfn rfl rfl).1)
            rw [hpc] at hc ⊢
            clear hset hstn hfn hst hs1
            repeat' (first | refine aE ?_ | (refine aG ?_;  first | refine aB tabOk rfl rfl rfl (nb rfl) rfl ?_ | (refine aI rfl rfl rfl (nb rfl) rfl rfl rfl (fun hq => ?_) (fun hq => ?_) <;> (first | (simp only [sD, sE, sB, sC, sN, sM, sT, sF] at hq; try (exfalso; omega)) | skip)) | refine aD rfl rfl (nb rfl) rfl rfl rfl rfl (hc) ?_ | refine bW rfl rfl (nb rfl) rfl rfl rfl rfl hcl (by repeat' first | exact trivial | refine ⟨rfl, ?_⟩) rfl (by show ([500] : List Nat).Nodup; decide) ?_ | refine fE tabOk rfl rfl rfl (nb rfl) rfl rfl rfl rfl rfl rfl rfl hlt ?_ | refine mT tabOk rfl rfl rfl rfl rfl rfl rfl rfl rfl rfl (by omega) (by show j * 1 < kids.length * 1; omega) ?_ | refine cL tabOk rfl rfl rfl (nb rfl) rfl rfl rfl rfl rfl rfl ?_ | refine bK tabOk rfl rfl rfl (nb rfl) rfl rfl rfl rfl ?_ | refine bG tabOk rfl rfl rfl rfl rfl rfl rfl rfl rfl rfl rfl ?_ | refine bB tabOk rfl rfl rfl (nb rfl) rfl rfl rfl rfl (by first | assumption | omega) ?_ | refine bA tabOk rfl rfl rfl (nb rfl) rfl rfl rfl (by assumption) ?_) | (refine aK ?_;  first | refine aF ?_ | refine aL ?_ | refine aR ?_ | refine aM ?_ | refine aS ?_ | refine aC (b := true) rfl (fun _ => ?_) nTf | refine aC (b := false) rfl nFt (fun _ => ?_)) | (refine aJ ?_;  first | refine aU ?_ | refine aN ?_) | (refine aP ?_;  first | refine aX ?_))
            all_goals first
              | exact absurd rfl (by assumption)
              | (exfalso; omega)
              | (refine dS ((Imp.of_le (σ' := S.f ⟨[(2, .obj 11 0), (3, .imm (.lit (.bool true))), (4, .imm (.lit (.int .i64 0)))], [(500, .arr 25 1 kids.length ((Tree.ivs kids).set (j * 1) (.ptr pc 0))), (11, .cells [.imm (.lit (.int .i64 k)), .imm (.lit (.int .i64 n)), .imm (.lit (.string a)), .imm (.lit (.string b)), .ref 500 kids.length])]⟩) (bT (by repeat' first | exact trivial | refine ⟨rfl, ?_⟩) (by repeat' first | exact trivial | refine ⟨rfl, ?_⟩))).trans ((cM (g := 500) rfl (by repeat' first | exact trivial | exact fun _ => rfl | refine ⟨?_, ?_⟩) (by repeat' first | exact trivial | exact fun _ => rfl | refine ⟨?_, ?_⟩)).trans (dU (g := 11) rfl rfl))) ?_
                 refine aO (by first | exact .inl rfl | exact .inr rfl) (eU rfl (aA rfl) (aA rfl) (aA rfl)) rfl ?_; rw [Nat.mul_one]; rfl)
          | false =>
            rw [if_neg (by simp), if_neg (by simp)] at hst
            have hs1 : stepPs kids = ((stepPs (kids.drop (j + 1))).1 + (j + 1), (stepPs (kids.drop (j + 1))).2) := by rw [hst]; simp only [Nat.add_assoc, Nat.add_comm 1 j]
            clear hset hstn hfn hst hcl
            repeat' (first | refine aE ?_ | (refine aG ?_;  first | refine aB tabOk rfl rfl rfl (nb rfl) rfl ?_ | (refine aI rfl rfl rfl (nb rfl) rfl rfl rfl (fun hq => ?_) (fun hq => ?_) <;> (first | (simp only [sD, sE, sB, sC, sN, sM, sT, sF] at hq; try (exfalso; omega)) | skip)) | refine aD rfl rfl (nb rfl) rfl rfl rfl rfl (hc) ?_ | refine bO rfl rfl rfl (nb rfl) rfl rfl (by omega) ?_ | refine bB tabOk rfl rfl rfl (nb rfl) rfl rfl rfl rfl (by first | assumption | omega) ?_ | refine bA tabOk rfl rfl rfl (nb rfl) rfl rfl rfl (by assumption) ?_) | (refine aK ?_;  first | refine aF ?_ | refine aL ?_ | refine bD ?_ | refine aR ?_ | refine aS ?_ | refine aC (b := true) rfl (fun _ => ?_) nTf | refine aC (b := false) rfl nFt (fun _ => ?_)) | (refine aJ ?_;  first | refine aU ?_) | (refine aP ?_;  first | refine bM ?_))
            all_goals first
              | exact absurd rfl (by assumption)
              | (exfalso; omega)
              | exact ⟨⟨j + 1, hlt, hs1⟩, (by show kids.length - (j + 1) < kids.length - j; omega), (bT (by repeat' first | exact trivial | refine ⟨rfl, ?_⟩) (by repeat' first | exact trivial | refine ⟨rfl, ?_⟩))⟩
        · rw [if_pos h0] at hst
          rw [hst] at hR
          have hR : (Tree.nil, false, Q3) = R := by rw [if_pos h0] at hR; exact hR
          subst hR
          clear hset hstn hfn hst hcl
          repeat' (first | refine aE ?_ | (refine aG ?_;  first | refine aB tabOk rfl rfl rfl (nb rfl) rfl ?_ | (refine aI rfl rfl rfl (nb rfl) rfl rfl rfl (fun hq => ?_) (fun hq => ?_) <;> (first | (simp only [sD, sE, sB, sC, sN, sM, sT, sF] at hq; try (exfalso; omega)) | skip)) | refine aD rfl rfl (nb rfl) rfl rfl rfl rfl (hc) ?_ | refine bB tabOk rfl rfl rfl (nb rfl) rfl rfl rfl rfl (by first | assumption | omega) ?_ | refine bA tabOk rfl rfl rfl (nb rfl) rfl rfl rfl (by assumption) ?_) | (refine aK ?_;  first | refine aF ?_ | refine aL ?_ | refine aR ?_ | refine aM ?_ | refine aS ?_ | refine aC (b := true) rfl (fun _ => ?_) nTf) | (refine aJ ?_;  first | refine aU ?_ | refine aN ?_) | (refine aP ?_;  first | refine aX ?_))
          all_goals first
            | exact absurd (by assumption) h0
            | (exfalso; omega)
            | (refine cN ?_; refine aO (by first | exact .inl rfl | exact .inr rfl) (eU rfl (aA rfl) (aA rfl) (aA rfl)) rfl ?_; rfl)
      · have ej : j = kids.length := by omega
        subst ej
        rw [List.drop_length] at hst
        have hs1 : stepPs kids = (0 + kids.length, .nil, false, 0) := hst
        rw [hs1] at hR
        have hR : (Tree.nil, false, (0 : Int)) = R := by simpa using hR
        subst hR
        clear hind
        repeat' (first | refine aE ?_ | (refine aG ?_;  first | refine aB tabOk rfl rfl rfl (nb rfl) rfl ?_ | (refine aI rfl rfl rfl (nb rfl) rfl rfl rfl (fun hq => ?_) (fun hq => ?_) <;> (first | (simp only [sD, sE, sB, sC, sN, sM, sT, sF] at hq; try (exfalso; omega)) | skip))) | (refine aK ?_;  first | refine aF ?_ | refine aL ?_ | refine aM ?_ | refine bQ ?_ | refine aC (b := false) rfl nFt (fun _ => ?_)) | (refine aJ ?_;  first | refine aU ?_ | refine bH ?_) | (refine aP ?_;  first | refine bE ?_))
        all_goals first
          | (exfalso; omega)
          | (refine cN ?_; refine aO (by first | exact .inl rfl | exact .inr rfl) (eU rfl (aA rfl) (aA rfl) (aA rfl)) rfl ?_; rfl)
end Go.Proofs.YtocaohipfiapkaaGreatDoor.Ab
namespace Go.Proofs.YtocaohipfiapkaaGreatDoor.Ab
set_option linter.unusedVariables false
set_option linter.unusedSimpArgs false
attribute [local irreducible] AWP AOps AExit AThen ABlock ANoGoto FeetOk
def StepP (t : Tree) : Tree × Bool × Int := if checkP isConP t = 0 then stepP t else (.nil, false, checkP isConP t)
set_option maxHeartbeats 4000000 in
set_option maxRecDepth 10000 in
theorem aEb (t : Tree) (hs : t.size ≤ 100000000) : ACalls Tryz.prog 96 [.imm t.iv] [] (.imm (.tup [(StepP t).1.iv, .lit (.bool (StepP t).2.1), .lit (.int .i64 (StepP t).2.2)])) [] := by
  have c1 := eA t hs
  unfold StepP
  by_cases hc : checkP isConP t = 0
  · rw [if_pos hc]
    rw [hc] at c1
    obtain ⟨hw, hz, hf⟩ := bI hc
    have c2 := aEa t hw (yT t hf) (by omega)
    generalize stepP t = S at *
    obtain ⟨S1, S2, S3⟩ := S
    dsimp only at *
    refine aH Tryz.func96 rfl rfl (nb rfl) rfl ?_
    repeat' (first | refine aE ?_ | (refine aG ?_;  first | refine aB tabOk rfl rfl rfl (nb rfl) rfl ?_ | (refine aI rfl rfl rfl (nb rfl) rfl rfl rfl (fun hq => ?_) (fun hq => ?_) <;> (first | (simp only [sD, sE, sB, sC, sN, sM, sT, sF] at hq; try (exfalso; omega)) | skip)) | refine aD rfl rfl (nb rfl) rfl rfl rfl rfl (c1) ?_ | refine aD rfl rfl (nb rfl) rfl rfl rfl rfl (c2) ?_) | (refine aK ?_;  first | refine aF ?_ | refine aL ?_ | refine aM ?_ | refine aS ?_ | refine aC (b := false) rfl nFt (fun _ => ?_)) | (refine aJ ?_;  first | refine aU ?_))
    all_goals first
      | exact absurd rfl (by assumption)
      | (refine aO (by first | exact .inl rfl | exact .inr rfl) (eU rfl (aA rfl) (aA rfl) (aA rfl)) rfl ?_; rfl)
  · rw [if_neg hc]
    generalize checkP isConP t = C at *
    refine aH Tryz.func96 rfl rfl (nb rfl) rfl ?_
    repeat' (first | refine aE ?_ | (refine aG ?_;  first | refine aB tabOk rfl rfl rfl (nb rfl) rfl ?_ | (refine aI rfl rfl rfl (nb rfl) rfl rfl rfl (fun hq => ?_) (fun hq => ?_) <;> (first | (simp only [sD, sE, sB, sC, sN, sM, sT, sF] at hq; try (exfalso; omega)) | skip)) | refine aD rfl rfl (nb rfl) rfl rfl rfl rfl (c1) ?_) | (refine aK ?_;  first | refine aF ?_ | refine aL ?_ | refine aM ?_ | refine aC (b := true) rfl (fun _ => ?_) nTf) | (refine aJ ?_;  first | refine aN ?_))
    all_goals first
      | exact absurd (by assumption) hc
      | (refine aO (by first | exact .inl rfl | exact .inr rfl) (eU rfl (aA rfl) (aA rfl) (aA rfl)) rfl ?_; rfl)
theorem qU (t : Tree) (h1 : (StepP t).2.1 = true) (h2 : (StepP t).2.2 = 0) : (StepP t).1.whole = true ∧ (StepP t).1.size ≤ 131072 := by
  unfold StepP at h1 h2 ⊢
  by_cases hc : checkP isConP t = 0
  · rw [if_pos hc] at h1 h2 ⊢
    obtain ⟨hw, hz, hf⟩ := bI hc
    have := qT t hw h1 h2
    exact ⟨this.1, by omega⟩
  · rw [if_neg hc] at h1; cases h1
/-- A normal form, with so many steps at most. -/
def normalP : Nat → Tree → Tree × Int
  | 0, t => if (StepP t).2.2 ≠ 0 then (.nil, (StepP t).2.2) else if (StepP t).2.1 = true then (.nil, 18) else (t, 0)
  | f + 1, t => if (StepP t).2.2 ≠ 0 then (.nil, (StepP t).2.2) else if (StepP t).2.1 = true then normalP f (StepP t).1 else (t, 0)
set_option maxHeartbeats 8000000 in
set_option maxRecDepth 10000 in
theorem qV (t : Tree) (hs : t.size ≤ 100000000) : ACalls Tryz.prog 72 [.imm t.iv] [] (.imm (.tup [(normalP 1000 t).1.iv, .lit (.int .i64 (normalP 1000 t).2)])) [] := by
  generalize hR : normalP 1000 t = R
  refine aH Tryz.func72 rfl rfl (nb rfl) rfl ?_
  repeat' (first | refine aE ?_ | (refine aG ?_;  first | refine aB tabOk rfl rfl rfl (nb rfl) rfl ?_) | (refine aK ?_;  first | refine aF ?_ | refine aL ?_ | refine aR ?_))
  refine bZ (ι := {x : Nat × Nat × Tree // x.1 + x.2.1 = 1000 ∧ x.2.2.size ≤ 100000000 ∧ normalP x.2.1 x.2.2 = R}) (fun x => S.f ⟨[(10, .imm (.lit (.int .i64 (x.1.1 : Int)))), (0, .imm x.1.2.2.iv)], []⟩) (fun x => 1000 - x.1.1) ⟨(0, 1000, t), rfl, hs, hR⟩ (bT (by repeat' first | exact trivial | refine ⟨rfl, ?_⟩) (by repeat' first | exact trivial | refine ⟨rfl, ?_⟩)) ?_
  clear hR hs
  rintro ⟨⟨i, f, t⟩, hif, hs, hR⟩
  have hif : i + f = 1000 := hif
  have hs : t.size ≤ 100000000 := hs
  have hR : normalP f t = R := hR
  dsimp only
  have c1 := aEb t hs
  have hfn := qU t
  by_cases hlt : i < 1000
  · obtain ⟨f, rfl⟩ : ∃ f', f = f' + 1 := ⟨f - 1, by omega⟩
    rw [normalP] at hR
    generalize StepP t = S at *
    obtain ⟨S1, S2, S3⟩ := S
    dsimp only at *
    by_cases h0 : S3 = 0
    · subst h0
      rw [if_neg (by simp)] at hR
      cases S2 with
      | true =>
        rw [if_pos rfl] at hR
        have h1 := hfn rfl rfl
        repeat' (first | refine aE ?_ | (refine aG ?_;  first | refine aB tabOk rfl rfl rfl (nb rfl) rfl ?_ | (refine aI rfl rfl rfl (nb rfl) rfl rfl rfl (fun hq => ?_) (fun hq => ?_) <;> (first | (simp only [sD, sE, sB, sC, sN, sM, sT, sF] at hq; try (exfalso; omega)) | skip)) | refine aD rfl rfl (nb rfl) rfl rfl rfl rfl (c1) ?_ | refine bO rfl rfl rfl (nb rfl) rfl rfl (by omega) ?_) | (refine aK ?_;  first | refine aF ?_ | refine aL ?_ | refine bD ?_ | refine aR ?_ | refine aS ?_ | refine aC (b := true) rfl (fun _ => ?_) nTf | refine aC (b := false) rfl nFt (fun _ => ?_)) | (refine aJ ?_;  first | refine aU ?_) | (refine aP ?_;  first | refine bM ?_))
        all_goals first
          | exact absurd rfl (by assumption)
          | (exfalso; omega)
          | exact ⟨⟨(i + 1, f, S1), by dsimp only; omega, by dsimp only; omega, hR⟩, (by show 1000 - (i + 1) < 1000 - i; omega), (bT (by repeat' first | exact trivial | refine ⟨rfl, ?_⟩) (by repeat' first | exact trivial | refine ⟨rfl, ?_⟩))⟩
      | false =>
        rw [if_neg (by simp)] at hR
        subst hR
        repeat' (first | refine aE ?_ | (refine aG ?_;  first | refine aB tabOk rfl rfl rfl (nb rfl) rfl ?_ | (refine aI rfl rfl rfl (nb rfl) rfl rfl rfl (fun hq => ?_) (fun hq => ?_) <;> (first | (simp only [sD, sE, sB, sC, sN, sM, sT, sF] at hq; try (exfalso; omega)) | skip)) | refine aD rfl rfl (nb rfl) rfl rfl rfl rfl (c1) ?_) | (refine aK ?_;  first | refine aF ?_ | refine aL ?_ | refine aR ?_ | refine aM ?_ | refine aS ?_ | refine aC (b := true) rfl (fun _ => ?_) nTf | refine aC (b := false) rfl nFt (fun _ => ?_)) | (refine aJ ?_;  first | refine aU ?_ | refine aN ?_) | (refine aP ?_;  first | refine aX ?_))
        all_goals first
          | exact absurd rfl (by assumption)
          | (exfalso; omega)
          | (refine aO (by first | exact .inl rfl | exact .inr rfl) (aV rfl (aA rfl) (aA rfl)) rfl ?_; rfl)
    · rw [if_pos h0] at hR
      subst hR
      repeat' (first | refine aE ?_ | (refine aG ?_;  first | refine aB tabOk rfl rfl rfl (nb rfl) rfl ?_ | (refine aI rfl rfl rfl (nb rfl) rfl rfl rfl (fun hq => ?_) (fun hq => ?_) <;> (first | (simp only [sD, sE, sB, sC, sN, sM, sT, sF] at hq; try (exfalso; omega)) | skip)) | refine aD rfl rfl (nb rfl) rfl rfl rfl rfl (c1) ?_) | (refine aK ?_;  first | refine aF ?_ | refine aL ?_ | refine aR ?_ | refine aM ?_ | refine aS ?_ | refine aC (b := true) rfl (fun _ => ?_) nTf) | (refine aJ ?_;  first | refine aU ?_ | refine aN ?_) | (refine aP ?_;  first | refine aX ?_))
      all_goals first
        | exact absurd (by assumption) h0
        | exact absurd rfl (by assumption)
        | (exfalso; omega)
        | (refine aO (by first | exact .inl rfl | exact .inr rfl) (aV rfl (aA rfl) (aA rfl)) rfl ?_; rfl)
  · have e0 : f = 0 := by omega
    subst e0
    rw [normalP] at hR
    generalize StepP t = S at *
    obtain ⟨S1, S2, S3⟩ := S
    dsimp only at *
    by_cases h0 : S3 = 0
    · subst h0
      rw [if_neg (by simp)] at hR
      cases S2 with
      | true =>
        rw [if_pos rfl] at hR
        subst hR
        repeat' (first | refine aE ?_ | (refine aG ?_;  first | refine aB tabOk rfl rfl rfl (nb rfl) rfl ?_ | (refine aI rfl rfl rfl (nb rfl) rfl rfl rfl (fun hq => ?_) (fun hq => ?_) <;> (first | (simp only [sD, sE, sB, sC, sN, sM, sT, sF] at hq; try (exfalso; omega)) | skip)) | refine aD rfl rfl (nb rfl) rfl rfl rfl rfl (c1) ?_) | (refine aK ?_;  first | refine aF ?_ | refine aL ?_ | refine aR ?_ | refine aM ?_ | refine bQ ?_ | refine aC (b := true) rfl (fun _ => ?_) nTf | refine aC (b := false) rfl nFt (fun _ => ?_)) | (refine aJ ?_;  first | refine aU ?_ | refine bH ?_ | refine aN ?_) | (refine aP ?_;  first | refine bE ?_ | refine aX ?_))
        all_goals first
          | exact absurd rfl (by assumption)
          | (exfalso; omega)
          | (refine aO (by first | exact .inl rfl | exact .inr rfl) (aV rfl (aA rfl) (aA rfl)) rfl ?_; rfl)
      | false =>
        rw [if_neg (by simp)] at hR
        subst hR
        repeat' (first | refine aE ?_ | (refine aG ?_;  first | refine aB tabOk rfl rfl rfl (nb rfl) rfl ?_ | (refine aI rfl rfl rfl (nb rfl) rfl rfl rfl (fun hq => ?_) (fun hq => ?_) <;> (first | (simp only [sD, sE, sB, sC, sN, sM, sT, sF] at hq; try (exfalso; omega)) | skip)) | refine aD rfl rfl (nb rfl) rfl rfl rfl rfl (c1) ?_) | (refine aK ?_;  first | refine aF ?_ | refine aL ?_ | refine aR ?_ | refine aM ?_ | refine bQ ?_ | refine aS ?_ | refine aC (b := false) rfl nFt (fun _ => ?_)) | (refine aJ ?_;  first | refine aU ?_ | refine bH ?_) | (refine aP ?_;  first | refine bM ?_ | refine bE ?_))
        all_goals first
          | exact absurd rfl (by assumption)
          | (exfalso; omega)
          | (refine aO (by first | exact .inl rfl | exact .inr rfl) (aV rfl (aA rfl) (aA rfl)) rfl ?_; rfl)
    · rw [if_pos h0] at hR
      subst hR
      repeat' (first | refine aE ?_ | (refine aG ?_;  first | refine aB tabOk rfl rfl rfl (nb rfl) rfl ?_ | (refine aI rfl rfl rfl (nb rfl) rfl rfl rfl (fun hq => ?_) (fun hq => ?_) <;> (first | (simp only [sD, sE, sB, sC, sN, sM, sT, sF] at hq; try (exfalso; omega)) | skip)) | refine aD rfl rfl (nb rfl) rfl rfl rfl rfl (c1) ?_) | (refine aK ?_;  first | refine aF ?_ | refine aL ?_ | refine aR ?_ | refine aM ?_ | refine bQ ?_ | refine aC (b := true) rfl (fun _ => ?_) nTf | refine aC (b := false) rfl nFt (fun _ => ?_)) | (refine aJ ?_;  first | refine aU ?_ | refine bH ?_ | refine aN ?_) | (refine aP ?_;  first | refine bE ?_ | refine aX ?_))
      all_goals first
        | exact absurd (by assumption) h0
        | exact absurd rfl (by assumption)
        | (exfalso; omega)
        | (refine aO (by first | exact .inl rfl | exact .inr rfl) (aV rfl (aA rfl) (aA rfl)) rfl ?_; rfl)
/-- A normal form is a constructor that makes no step. -/
theorem qW : ∀ (f : Nat) (t : Tree), (normalP f t).2 = 0 → StepP (normalP f t).1 = (.nil, false, 0) ∨ (StepP (normalP f t).1).2 = (false, 0)
  | 0, t, h => by
    rw [normalP] at h ⊢
    split at h
    · rename_i h0; exact absurd h h0
    · rename_i h0
      rw [if_neg h0]
      split at h
      · cases h
      · rename_i h1
        rw [if_neg h1]
        right
        exact Prod.ext (by simpa using h1) (by simpa using h0)
  | f + 1, t, h => by
    rw [normalP] at h ⊢
    split at h
    · rename_i h0; exact absurd h h0
    · rename_i h0
      rw [if_neg h0]
      split at h
      · rename_i h1
        rw [if_pos h1]
        exact qW f _ h
      · rename_i h1
        rw [if_neg h1]
        right
        exact Prod.ext (by simpa using h1) (by simpa using h0)
theorem mU {t : Tree} (h : (StepP t).2 = (false, 0)) (f : Nat) : normalP f t = (t, 0) := by
  have h1 : (StepP t).2.2 = 0 := by rw [h]
  have h2 : (StepP t).2.1 = false := by rw [h]
  cases f <;> rw [normalP, if_neg (by simpa using h1), if_neg (by simp [h2])]
theorem mV (f g : Nat) (t : Tree) (h : (normalP f t).2 = 0) : (StepP (normalP f t).1).2 = (false, 0) ∧ normalP g (normalP f t).1 = ((normalP f t).1, 0) := by
  have h1 : (StepP (normalP f t).1).2 = (false, 0) := by
    rcases qW f t h with e | e
    · rw [e]
    · exact e
  exact ⟨h1, mU h1 g⟩
end Go.Proofs.YtocaohipfiapkaaGreatDoor.Ab
namespace Go.Proofs.YtocaohipfiapkaaGreatDoor.Ab
set_option linter.unusedVariables false
set_option linter.unusedSimpArgs false
attribute [local irreducible] AWP AOps AExit AThen ABlock ANoGoto FeetOk
def sbareP (n : Int) (a b : ByteArray) (nm nu : Bool) : Bool := (eqB b emptyB && (nm || eqB a emptyB)) && ((nu && decide (n ≥ 0) && decide (n ≤ 8192)) || (n == 0))
set_option maxHeartbeats 4000000 in
set_option maxRecDepth 10000 in
theorem iB (k n : Int) (a b : ByteArray) (kids : List Tree) (nm nu : Bool) : ACalls Tryz.prog 53 [.imm (Tree.iv (.node k n a b kids)), .imm (.lit (.bool nm)), .imm (.lit (.bool nu))] [] (.imm (.lit (.bool (sbareP n a b nm nu)))) [] := by
  refine aH Tryz.func53 rfl rfl (nb rfl) rfl ?_
  repeat' (first | refine aE ?_ | (refine aG ?_;  first | refine aB tabOk rfl rfl rfl (nb rfl) rfl ?_ | refine bL rfl rfl (nb rfl) ?_ | (refine aI rfl rfl rfl (nb rfl) rfl rfl rfl (fun hq => ?_) (fun hq => ?_) <;> (first | (simp only [sD, sE, sB, sC, sN, sM, sT, sF] at hq; try (exfalso; omega)) | skip)) | ((fail_if_success (refine cJ (b := true) rfl rfl rfl ?_)); (fail_if_success (refine cJ (b := false) rfl rfl rfl ?_)); refine dD rfl rfl rfl (fun hq => ?_) (fun hq => ?_) <;> first | subst hq | (first | (simp only [sD, sE, sB, sC, sN, sM, sT, sF] at hq; try (exfalso; omega)) | skip))) | (refine aK ?_;  first | refine aF ?_ | refine aM ?_))
  all_goals (refine aO (by first | exact .inl rfl | exact .inr rfl) (aW rfl (aA rfl)) rfl ?_; refine cE ?_; first | (simp_all [sbareP, eqB, emptyB]; done) | (simp_all [sbareP, eqB, emptyB]; omega))
def sig1 : List Tree → Bool
  | [c] => checkP isConP c == 0
  | _ => false
mutual
def isSigP : Tree → Bool
  | .nil => false
  | .node k n a b kids => sbareP n a b false false && (if k = 160 ∨ k = 161 then sig1 kids else if k = 162 then sfieldPs kids && risingP kids else false)
def sfieldPs : List Tree → Bool
  | [] => true
  | .nil :: _ => false
  | .node k n a b ks :: ts => (k == 163 && sbareP n a b true false && labelP a && sigOne ks) && sfieldPs ts
def sigOne : List Tree → Bool
  | [c] => isSigP c
  | _ => false
end
def okSField : Tree → Bool
  | .nil => false
  | .node k n a b ks => k == 163 && sbareP n a b true false && labelP a && sigOne ks
theorem iP (l : List Tree) : sfieldPs l = l.all okSField := by
  induction l with
  | nil => simp [sfieldPs]
  | cons t ts ih => cases t <;> simp [sfieldPs, okSField, ih]
theorem nV {l : List Tree} (h : l.length ≠ 1) : sigOne l = false := by
  match l, h with
  | [], _ => simp [sigOne]
  | [x], h => simp at h
  | x :: y :: r, _ => simp [sigOne]
theorem uU {l : List Tree} (h : l.length ≠ 1) : sig1 l = false := by
  match l, h with
  | [], _ => simp [sig1]
  | [x], h => simp at h
  | x :: y :: r, _ => simp [sig1]
set_option maxHeartbeats 8000000 in
set_option maxRecDepth 10000 in
theorem wF (k n : Int) (a b : ByteArray) (kids : List Tree) (h : Tree.wholes kids = true) (hl : kids.length < 1000000000)
    (hc : ∀ t', t'.size < (Tree.node k n a b kids).size → t'.whole = true → ACalls Tryz.prog 27 [.imm t'.iv] [] (.imm (.lit (.bool (isSigP t')))) []) :
    ACalls Tryz.prog 54 [.imm (Tree.iv (.node k n a b kids))] [] (.imm (.lit (.bool (sfieldPs kids && risingP kids)))) [] := by
  refine aH Tryz.func54 rfl rfl (nb rfl) rfl ?_
  repeat' (first | refine aE ?_ | (refine aG ?_;  first | refine aB tabOk rfl rfl rfl (nb rfl) rfl ?_ | refine aT tabOk rfl rfl (nb rfl) rfl ?_) | (refine aK ?_;  first | refine aF ?_ | refine aL ?_ | refine aR ?_))
  refine bZ (ι := {j : Nat // j ≤ kids.length ∧ (∀ i (hi : i < kids.length), i < j → okSField kids[i] = true) ∧ ∀ i (hi : i + 1 < kids.length), i + 1 < j → ltB (kids[i]'(by omega)).name kids[i + 1].name = true}) (fun j => S.f ⟨[(10, .imm (.lit (.int .i64 (j.1 : Int)))), (9, .imm (.lit (.int .i64 (kids.length : Int)))), (8, .imm (.sl false kids.length (Tree.ivs kids))), (0, .imm (Tree.iv (.node k n a b kids)))], []⟩) (fun j => kids.length - j.1) ⟨0, Nat.zero_le _, fun i _ hi => absurd hi (Nat.not_lt_zero _), fun i _ hi => absurd hi (Nat.not_lt_zero _)⟩ (bT (by repeat' first | exact trivial | refine ⟨rfl, ?_⟩) (by repeat' first | exact trivial | refine ⟨rfl, ?_⟩)) ?_
  rintro ⟨j, hj, hok, hri⟩
  dsimp only
  by_cases hlt : j < kids.length
  · obtain ⟨k1, n1, a1, b1, ks1, e1, hget, hw1⟩ := lT h hlt
    have hsz : ∀ i (hi : i < ks1.length), ks1[i].size < (Tree.node k n a b kids).size := fun i hi => by
      have h1 := bN (k := k1) (n := n1) (a := a1) (b := b1) (List.getElem_mem hi)
      have h2 := bN (k := k) (n := n) (a := a) (b := b) (List.getElem_mem hlt)
      rw [e1] at h2
      omega
    have hbad : okSField (Tree.node k1 n1 a1 b1 ks1) = false → (sfieldPs kids && risingP kids) = false := fun hb => by
      rw [iP, jO hlt (by rw [e1]; exact hb)]; rfl
    have hgood : okSField (Tree.node k1 n1 a1 b1 ks1) = true → ∀ i (hi : i < kids.length), i < j + 1 → okSField kids[i] = true := fun hb i hi hij => by
      by_cases e : i = j
      · subst e; rw [e1]; exact hb
      · exact hok i hi (by omega)
    by_cases hj0 : j = 0
    · have hrn : ∀ i (hi : i + 1 < kids.length), i + 1 < j + 1 → ltB (kids[i]'(by omega)).name kids[i + 1].name = true := fun i hi hij => by omega
      repeat' (first | refine aE ?_ | (refine aG ?_;  first | refine aB tabOk rfl rfl rfl (nb rfl) rfl ?_ | refine bL rfl rfl (nb rfl) ?_ | (refine aI rfl rfl rfl (nb rfl) rfl rfl rfl (fun hq => ?_) (fun hq => ?_) <;> (first | (simp only [sD, sE, sB, sC, sN, sM, sT, sF] at hq; try (exfalso; omega)) | skip)) | (refine bP rfl rfl rfl (nb rfl) rfl rfl rfl (iB _ _ _ _ _ _ _) (fun hq => ?_) (fun hq => ?_)) | (refine bP rfl rfl rfl (nb rfl) rfl rfl rfl (hc _ (hsz _ _) (bF hw1 (List.getElem_mem _))) (fun hq => ?_) (fun hq => ?_)) | refine bO rfl rfl rfl (nb rfl) rfl rfl (by omega) ?_ | refine aT tabOk rfl rfl (nb rfl) rfl ?_ | refine bB tabOk rfl rfl rfl (nb rfl) rfl rfl rfl rfl (by first | assumption | omega) ?_ | refine aY tabOk rfl rfl rfl (nb rfl) rfl rfl rfl rfl (by first | rfl | omega) (by first | omega | simp) ?_ | refine bA tabOk rfl rfl rfl (nb rfl) rfl rfl rfl (by assumption) ?_ | refine bA tabOk rfl rfl rfl (nb rfl) rfl rfl rfl (cC _ _ (by first | assumption | omega)) ?_) | (refine aK ?_;  first | refine aF ?_ | refine aL ?_ | refine bD ?_ | refine aR ?_ | refine aM ?_ | refine aS ?_ | refine aC (b := true) rfl (fun _ => ?_) nTf | refine aC (b := false) rfl nFt (fun _ => ?_) | refine aQ mixed (by kernel_rfl) ?_) | (refine aJ ?_;  first | refine aU ?_ | refine aN ?_) | (refine aP ?_;  first | refine bM ?_ | refine aX ?_) | refine bC (aZ (by kernel_rfl)) ?_)
      all_goals first
        | (refine aO (by first | exact .inl rfl | exact .inr rfl) (aW rfl (aA rfl)) rfl ?_; refine cE (hbad ?_).symm; by_cases h1 : ks1.length = 1 <;> first | (obtain ⟨c, rfl⟩ := one_of h1; simp_all [okSField, sigOne, labelP]; done) | (obtain ⟨c, rfl⟩ := one_of h1; simp_all [okSField, sigOne, labelP]; omega) | (exfalso; omega) | (simp_all [okSField, nV]; done))
        | (exfalso; omega)
        | exact ⟨⟨j + 1, hlt, hgood (by obtain ⟨c, rfl⟩ := one_of (l := ks1) (by omega); first | (simp_all [okSField, sigOne, labelP]; done) | (simp_all [okSField, sigOne, labelP]; omega)), hrn⟩, (by show kids.length - (j + 1) < kids.length - j; omega), (bT (by repeat' first | exact trivial | refine ⟨rfl, ?_⟩) (by repeat' first | exact trivial | refine ⟨rfl, ?_⟩))⟩
    · obtain ⟨k0, n0, a0, b0, ks0, e0, hget0, hw0⟩ := lT h (j := ((j : Int) - 1).toNat) (by omega)
      have e2 : ∀ i, i + 1 = j → ∀ (hi : i + 1 < kids.length), ltB (kids[i]'(by omega)).name kids[i + 1].name = Op.bytesLess a0.toList a1.toList := fun i hij hi => by
        have hi2 : ((j : Int) - 1).toNat = i := by omega
        have x0 : kids[i]'(by omega) = Tree.node k0 n0 a0 b0 ks0 := by simpa only [hi2] using e0
        have x1 : kids[i + 1] = Tree.node k1 n1 a1 b1 ks1 := by simpa only [hij] using e1
        rw [x0, x1]; rfl
      have hrbad : Op.bytesLess a0.toList a1.toList = false → (sfieldPs kids && risingP kids) = false := fun hb => by
        rw [Bool.and_eq_false_iff]
        right
        rw [Bool.eq_false_iff]
        intro hr
        rw [fI] at hr
        have := hr (j - 1) (by omega)
        rw [e2 (j - 1) (by omega)] at this
        rw [hb] at this; cases this
      have hrn : Op.bytesLess a0.toList a1.toList = true → ∀ i (hi : i + 1 < kids.length), i + 1 < j + 1 → ltB (kids[i]'(by omega)).name kids[i + 1].name = true := fun hb i hi hij => by
        by_cases e : i + 1 = j
        · rw [e2 i e]; exact hb
        · exact hri i hi (by omega)
      clear e2
      repeat' (first | refine aE ?_ | (refine aG ?_;  first | refine aB tabOk rfl rfl rfl (nb rfl) rfl ?_ | refine bL rfl rfl (nb rfl) ?_ | (refine aI rfl rfl rfl (nb rfl) rfl rfl rfl (fun hq => ?_) (fun hq => ?_) <;> (first | (simp only [sD, sE, sB, sC, sN, sM, sT, sF] at hq; try (exfalso; omega)) | skip)) | (refine bP rfl rfl rfl (nb rfl) rfl rfl rfl (iB _ _ _ _ _ _ _) (fun hq => ?_) (fun hq => ?_)) | (refine bP rfl rfl rfl (nb rfl) rfl rfl rfl (hc _ (hsz _ _) (bF hw1 (List.getElem_mem _))) (fun hq => ?_) (fun hq => ?_)) | refine bO rfl rfl rfl (nb rfl) rfl rfl (by omega) ?_ | refine cF rfl rfl rfl (nb rfl) rfl rfl rfl (by omega) (by omega) ?_ | refine aT tabOk rfl rfl (nb rfl) rfl ?_ | refine bB tabOk rfl rfl rfl (nb rfl) rfl rfl rfl rfl (by first | assumption | omega) ?_ | refine aY tabOk rfl rfl rfl (nb rfl) rfl rfl rfl rfl (by first | rfl | omega) (by first | omega | simp) ?_ | refine bA tabOk rfl rfl rfl (nb rfl) rfl rfl rfl (by assumption) ?_ | refine bA tabOk rfl rfl rfl (nb rfl) rfl rfl rfl (cC _ _ (by first | assumption | omega)) ?_) | (refine aK ?_;  first | refine aF ?_ | refine aL ?_ | refine bD ?_ | refine aR ?_ | refine aM ?_ | refine aS ?_ | refine aC (b := true) rfl (fun _ => ?_) nTf | refine aC (b := false) rfl nFt (fun _ => ?_) | refine aQ mixed (by kernel_rfl) ?_) | (refine aJ ?_;  first | refine aU ?_ | refine aN ?_) | (refine aP ?_;  first | refine bM ?_ | refine aX ?_) | refine bC (aZ (by kernel_rfl)) ?_)
      all_goals first
        | (refine aO (by first | exact .inl rfl | exact .inr rfl) (aW rfl (aA rfl)) rfl ?_; refine cE (hbad ?_).symm; by_cases h1 : ks1.length = 1 <;> first | (obtain ⟨c, rfl⟩ := one_of h1; simp_all [okSField, sigOne, labelP]; done) | (obtain ⟨c, rfl⟩ := one_of h1; simp_all [okSField, sigOne, labelP]; omega) | (exfalso; omega) | (simp_all [okSField, nV]; done))
        | (refine aO (by first | exact .inl rfl | exact .inr rfl) (aW rfl (aA rfl)) rfl ?_; refine cE (hrbad ?_).symm; simp_all; done)
        | (exfalso; omega)
        | exact ⟨⟨j + 1, hlt, hgood (by obtain ⟨c, rfl⟩ := one_of (l := ks1) (by omega); first | (simp_all [okSField, sigOne, labelP]; done) | (simp_all [okSField, sigOne, labelP]; omega)), hrn (by simp_all)⟩, (by show kids.length - (j + 1) < kids.length - j; omega), (bT (by repeat' first | exact trivial | refine ⟨rfl, ?_⟩) (by repeat' first | exact trivial | refine ⟨rfl, ?_⟩))⟩
  · repeat' (first | refine aE ?_ | (refine aG ?_;  first | refine aB tabOk rfl rfl rfl (nb rfl) rfl ?_ | (refine aI rfl rfl rfl (nb rfl) rfl rfl rfl (fun hq => ?_) (fun hq => ?_) <;> (first | (simp only [sD, sE, sB, sC, sN, sM, sT, sF] at hq; try (exfalso; omega)) | skip))) | (refine aK ?_;  first | refine aF ?_ | refine aL ?_ | refine aM ?_ | refine bQ ?_ | refine aC (b := false) rfl nFt (fun _ => ?_)) | (refine aJ ?_;  first | refine aU ?_ | refine bH ?_) | (refine aP ?_;  first | refine bE ?_))
    all_goals (refine aO (by first | exact .inl rfl | exact .inr rfl) (aW rfl (aA rfl)) rfl ?_; refine cE ?_; rw [iP, lS fun i hi => hok i hi (by omega), Bool.true_and]; symm; rw [fI]; exact fun i hi => hri i hi (by omega))
end Go.Proofs.YtocaohipfiapkaaGreatDoor.Ab
namespace Go.Proofs.YtocaohipfiapkaaGreatDoor.Ab
set_option linter.unusedVariables false
set_option linter.unusedSimpArgs false
attribute [local irreducible] AWP AOps AExit AThen ABlock ANoGoto FeetOk
set_option maxHeartbeats 8000000 in
set_option maxRecDepth 10000 in
theorem kV (t : Tree) : t.whole = true → t.size ≤ 100000000 → ACalls Tryz.prog 27 [.imm t.iv] [] (.imm (.lit (.bool (isSigP t)))) [] := by
  induction t using Tree.sind with
  | h t ih =>
    intro h hs
    obtain ⟨k, n, a, b, kids, rfl⟩ := bY h
    have hl : kids.length < 1000000000 := by have := cG kids h; simp only [Tree.size] at hs; omega
    have hc : ∀ t', t'.size < (Tree.node k n a b kids).size → t'.whole = true → ACalls Tryz.prog 27 [.imm t'.iv] [] (.imm (.lit (.bool (isSigP t')))) [] := fun t' h1 h2 => ih t' h1 h2 (by omega)
    have c2 := wF k n a b kids h hl hc
    have hk : ∀ i (hi : i < kids.length), kids[i].size ≤ 100000000 := fun i hi => by
      have := bN (k := k) (n := n) (a := a) (b := b) (List.getElem_mem hi)
      omega
    clear ih hc
    obtain ⟨q, hq0⟩ : ∃ q, isSigP (.node k n a b kids) = q := ⟨_, rfl⟩
    rw [hq0]
    rw [isSigP] at hq0
    have c1 := iB k n a b kids false false
    generalize sbareP n a b false false = B at *
    generalize (sfieldPs kids && risingP kids) = F at *
    refine aH Tryz.func27 rfl rfl (nb rfl) rfl ?_
    repeat' (first | refine aE ?_ | (refine aG ?_;  first | refine aB tabOk rfl rfl rfl (nb rfl) rfl ?_ | refine bL rfl rfl (nb rfl) ?_ | (refine aI rfl rfl rfl (nb rfl) rfl rfl rfl (fun hq => ?_) (fun hq => ?_) <;> (first | (simp only [sD, sE, sB, sC, sN, sM, sT, sF] at hq; try (exfalso; omega)) | skip)) | (refine bP rfl rfl rfl (nb rfl) rfl rfl rfl (c1) (fun hq => ?_) (fun hq => ?_)) | refine aD rfl rfl (nb rfl) rfl rfl rfl rfl (c2) ?_ | refine aD rfl rfl (nb rfl) rfl rfl rfl rfl (eA kids[0] (hk 0 (by omega))) ?_ | refine aT tabOk rfl rfl (nb rfl) rfl ?_ | refine aY tabOk rfl rfl rfl (nb rfl) rfl rfl rfl rfl (by first | rfl | omega) (by first | omega | simp) ?_ | refine bA tabOk rfl rfl rfl (nb rfl) rfl rfl rfl (cC _ _ (by first | assumption | omega)) ?_) | (refine aK ?_;  first | refine aF ?_ | refine aL ?_ | refine bD ?_ | refine aR ?_ | refine aM ?_ | refine aS ?_ | refine aC (b := true) rfl (fun _ => ?_) nTf | refine aC (b := false) rfl nFt (fun _ => ?_)) | (refine aJ ?_;  first | refine aU ?_ | refine aN ?_) | (refine aP ?_;  first | refine bM ?_ | refine aX ?_))
    all_goals (refine aO (by first | exact .inl rfl | exact .inr rfl) (aW rfl (aA rfl)) rfl ?_; refine cE ?_; subst hq0; by_cases h1 : kids.length = 1 <;> first | (obtain ⟨c, rfl⟩ := one_of h1; simp_all [sig1]; done) | (obtain ⟨c, rfl⟩ := one_of h1; simp_all [sig1]; omega) | (simp_all [uU]; done) | (simp_all [uU]; omega))
def isExP : Tree → Bool
  | .node k n a b [c] => (k == 164) && sbareP n a b false true && isSigP c
  | _ => false
def isFunP : Tree → Bool
  | .node k n a b [x, y] => (k == 165) && sbareP n a b false true && (isSigP x && isExP y)
  | _ => false
theorem wG {k n : Int} {a b : ByteArray} {l : List Tree} (h : l.length ≠ 1) : isExP (.node k n a b l) = false := by
  match l, h with
  | [], _ => simp [isExP]
  | [x], h => simp at h
  | x :: y :: r, _ => simp [isExP]
theorem tJ {k n : Int} {a b : ByteArray} {l : List Tree} (h : l.length ≠ 2) : isFunP (.node k n a b l) = false := by
  match l, h with
  | [], _ => simp [isFunP]
  | [x], _ => simp [isFunP]
  | [x, y], h => simp at h
  | x :: y :: z :: r, _ => simp [isFunP]
set_option maxHeartbeats 8000000 in
set_option maxRecDepth 10000 in
theorem wH (t : Tree) (h : t.whole = true) (hs : t.size ≤ 100000000) : ACalls Tryz.prog 37 [.imm t.iv] [] (.imm (.lit (.bool (isExP t)))) [] := by
  obtain ⟨k, n, a, b, kids, rfl⟩ := bY h
  have c1 := iB k n a b kids false true
  by_cases h1 : kids.length = 1
  · obtain ⟨c, rfl⟩ := one_of h1
    have hz := bN (k := k) (n := n) (a := a) (b := b) (kids := [c]) (t := c) (by simp)
    have c2 := kV c (bF h (by simp)) (by omega)
    rw [isExP]
    generalize sbareP n a b false true = B at *
    generalize isSigP c = F at *
    refine aH Tryz.func37 rfl rfl (nb rfl) rfl ?_
    repeat' (first | refine aE ?_ | (refine aG ?_;  first | refine aB tabOk rfl rfl rfl (nb rfl) rfl ?_ | refine bL rfl rfl (nb rfl) ?_ | (refine aI rfl rfl rfl (nb rfl) rfl rfl rfl (fun hq => ?_) (fun hq => ?_) <;> (first | (simp only [sD, sE, sB, sC, sN, sM, sT, sF] at hq; try (exfalso; omega)) | skip)) | (refine bP rfl rfl rfl (nb rfl) rfl rfl rfl (c1) (fun hq => ?_) (fun hq => ?_)) | (refine bP rfl rfl rfl (nb rfl) rfl rfl rfl (c2) (fun hq => ?_) (fun hq => ?_)) | refine aT tabOk rfl rfl (nb rfl) rfl ?_ | refine aY tabOk rfl rfl rfl (nb rfl) rfl rfl rfl rfl (by first | rfl | omega) (by first | omega | simp) ?_) | (refine aK ?_;  first | refine aF ?_ | refine aM ?_))
    all_goals (refine aO (by first | exact .inl rfl | exact .inr rfl) (aW rfl (aA rfl)) rfl ?_; refine cE ?_; simp_all)
  · rw [wG h1]
    refine aH Tryz.func37 rfl rfl (nb rfl) rfl ?_
    repeat' (first | refine aE ?_ | (refine aG ?_;  first | refine aB tabOk rfl rfl rfl (nb rfl) rfl ?_ | refine bL rfl rfl (nb rfl) ?_ | (refine aI rfl rfl rfl (nb rfl) rfl rfl rfl (fun hq => ?_) (fun hq => ?_) <;> (first | (simp only [sD, sE, sB, sC, sN, sM, sT, sF] at hq; try (exfalso; omega)) | skip)) | (refine bP rfl rfl rfl (nb rfl) rfl rfl rfl (c1) (fun hq => ?_) (fun hq => ?_)) | refine aT tabOk rfl rfl (nb rfl) rfl ?_) | (refine aK ?_;  first | refine aF ?_ | refine aM ?_))
    all_goals first
      | (exfalso; omega)
      | exact cW (by first | exact .inl rfl | exact .inr rfl) (aW rfl (aA rfl)) rfl
set_option maxHeartbeats 8000000 in
set_option maxRecDepth 10000 in
theorem aAX (t : Tree) (h : t.whole = true) (hs : t.size ≤ 100000000) : ACalls Tryz.prog 38 [.imm t.iv] [] (.imm (.lit (.bool (isFunP t)))) [] := by
  obtain ⟨k, n, a, b, kids, rfl⟩ := bY h
  have c1 := iB k n a b kids false true
  by_cases h1 : kids.length = 2
  · obtain ⟨x, y, rfl⟩ := two h1
    have hz := bN (k := k) (n := n) (a := a) (b := b) (kids := [x, y]) (t := x) (by simp)
    have hz2 := bN (k := k) (n := n) (a := a) (b := b) (kids := [x, y]) (t := y) (by simp)
    have c2 := kV x (bF h (by simp)) (by omega)
    have c3 := wH y (bF h (by simp)) (by omega)
    rw [isFunP]
    generalize sbareP n a b false true = B at *
    generalize isSigP x = F at *
    generalize isExP y = G at *
    refine aH Tryz.func38 rfl rfl (nb rfl) rfl ?_
    repeat' (first | refine aE ?_ | (refine aG ?_;  first | refine aB tabOk rfl rfl rfl (nb rfl) rfl ?_ | refine bL rfl rfl (nb rfl) ?_ | (refine aI rfl rfl rfl (nb rfl) rfl rfl rfl (fun hq => ?_) (fun hq => ?_) <;> (first | (simp only [sD, sE, sB, sC, sN, sM, sT, sF] at hq; try (exfalso; omega)) | skip)) | (refine bP rfl rfl rfl (nb rfl) rfl rfl rfl (c1) (fun hq => ?_) (fun hq => ?_)) | (refine bP rfl rfl rfl (nb rfl) rfl rfl rfl (c2) (fun hq => ?_) (fun hq => ?_)) | (refine bP rfl rfl rfl (nb rfl) rfl rfl rfl (c3) (fun hq => ?_) (fun hq => ?_)) | refine aT tabOk rfl rfl (nb rfl) rfl ?_ | refine aY tabOk rfl rfl rfl (nb rfl) rfl rfl rfl rfl (by first | rfl | omega) (by first | omega | simp) ?_) | (refine aK ?_;  first | refine aF ?_ | refine aM ?_))
    all_goals (refine aO (by first | exact .inl rfl | exact .inr rfl) (aW rfl (aA rfl)) rfl ?_; refine cE ?_; simp_all)
  · rw [tJ h1]
    refine aH Tryz.func38 rfl rfl (nb rfl) rfl ?_
    repeat' (first | refine aE ?_ | (refine aG ?_;  first | refine aB tabOk rfl rfl rfl (nb rfl) rfl ?_ | refine bL rfl rfl (nb rfl) ?_ | (refine aI rfl rfl rfl (nb rfl) rfl rfl rfl (fun hq => ?_) (fun hq => ?_) <;> (first | (simp only [sD, sE, sB, sC, sN, sM, sT, sF] at hq; try (exfalso; omega)) | skip)) | (refine bP rfl rfl rfl (nb rfl) rfl rfl rfl (c1) (fun hq => ?_) (fun hq => ?_)) | refine aT tabOk rfl rfl (nb rfl) rfl ?_) | (refine aK ?_;  first | refine aF ?_ | refine aM ?_))
    all_goals first
      | (exfalso; omega)
      | exact cW (by first | exact .inl rfl | exact .inr rfl) (aW rfl (aA rfl)) rfl
set_option maxHeartbeats 4000000 in
set_option maxRecDepth 10000 in
theorem qX (t : Tree) : ∀ l : Int, t.size ≤ 100000000 → -100000000 ≤ l → l ≤ 100000000 → ACalls Tryz.prog 36 [.imm t.iv, .obj 1000 0] [(1000, .cells [.imm (.lit (.int .i64 l))])] (.imm (.lit (.int .i64 (wholeP t l).1))) [(1000, .cells [.imm (.lit (.int .i64 (wholeP t l).2))])] := by
  induction t using Tree.ind with
  | h1 =>
    intro l hs h1 h2
    refine eW Tryz.func36 rfl rfl (nb rfl) rfl rfl ?_
    repeat' (first | refine aE ?_ | (refine aG ?_;  first | refine aB tabOk rfl rfl rfl (nb rfl) rfl ?_ | refine aT tabOk rfl rfl (nb rfl) rfl ?_) | (refine aK ?_;  first | refine aF ?_ | refine aL ?_ | refine aM ?_ | refine aC (b := true) rfl (fun _ => ?_) nTf) | (refine aJ ?_;  first | refine aN ?_))
    all_goals (refine dN (cs := []) (by first | exact .inl rfl | exact .inr rfl) (aW rfl (aA rfl)) rfl rfl rfl ?_; rfl)
  | h2 k n a b kids ih =>
    intro l hs h1 h2
    refine eW Tryz.func36 rfl rfl (nb rfl) rfl rfl ?_
    repeat' (first | refine aE ?_ | (refine aG ?_;  first | refine aB tabOk rfl rfl rfl (nb rfl) rfl ?_ | (refine aI rfl rfl rfl (nb rfl) rfl rfl rfl (fun hq => ?_) (fun hq => ?_) <;> (first | (simp only [sD, sE, sB, sC, sN, sM, sT, sF] at hq; try (exfalso; omega)) | skip)) | refine cF rfl rfl rfl (nb rfl) rfl rfl rfl (by omega) (by omega) ?_ | refine aT tabOk rfl rfl (nb rfl) rfl ?_ | refine bK tabOk rfl rfl rfl (nb rfl) rfl rfl rfl rfl ?_ | refine bG tabOk rfl rfl rfl rfl rfl rfl rfl rfl rfl rfl rfl ?_) | (refine aK ?_;  first | refine aF ?_ | refine aL ?_ | refine aR ?_ | refine aM ?_ | refine aS ?_ | refine aC (b := true) rfl (fun _ => ?_) nTf | refine aC (b := false) rfl nFt (fun _ => ?_)) | (refine aJ ?_;  first | refine aU ?_ | refine aN ?_))
    · rw [show wholeP (.node k n a b kids) l = (3, l - 1) from if_pos (by omega)]
      refine dN (cs := []) (by first | exact .inl rfl | exact .inr rfl) (aW rfl (aA rfl)) rfl rfl rfl ?_; rfl
    · rename_i hq
      have e0 : wholeP (.node k n a b kids) l = wholePs kids (l - 1) := if_neg (by omega)
      rw [e0]
      have hlen : kids.length < 9223372036854775807 ∨ kids.length ≥ 9223372036854775807 := by omega
      refine bZ (ι := {j : Nat // j ≤ kids.length ∧ (wholePs (kids.take j) (l - 1)).1 = 0}) (fun j => S.f ⟨[(24, .imm (.lit (.int .i64 (j.1 : Int)))), (23, .imm (.lit (.int .i64 (kids.length : Int)))), (22, .imm (.sl false kids.length (Tree.ivs kids))), (1, .obj 1000 0)], [(1000, .cells [.imm (.lit (.int .i64 (wholePs (kids.take j.1) (l - 1)).2))])]⟩) (fun j => kids.length - j.1) ⟨0, Nat.zero_le _, by rw [List.take_zero, wholePs]⟩ (bT (by repeat' first | exact trivial | refine ⟨rfl, ?_⟩) (by repeat' first | exact trivial | refine ⟨rfl, ?_⟩)) ?_
      rintro ⟨j, hj, hok⟩
      dsimp only
      by_cases hlt : j < kids.length
      · have hm := List.getElem_mem hlt
        have hsz := bN (k := k) (n := n) (a := a) (b := b) hm
        have hbd := gU (kids.take j) (l - 1) (by omega) hok
        have hjl : j < 9223372036854775807 := by
          by_cases hj0 : j < 9223372036854775807
          · exact hj0
          · exfalso
            have := fP (kids.take j) (l - 1) (by omega) hok
            rw [List.length_take] at this
            omega
        repeat' (first | refine aE ?_ | (refine aG ?_;  first | refine aB tabOk rfl rfl rfl (nb rfl) rfl ?_ | (refine aI rfl rfl rfl (nb rfl) rfl rfl rfl (fun hq => ?_) (fun hq => ?_) <;> (first | (simp only [sD, sE, sB, sC, sN, sM, sT, sF] at hq; try (exfalso; omega)) | skip)) | refine bW rfl rfl (nb rfl) rfl rfl rfl rfl (ih _ hm (wholePs (kids.take j) (l - 1)).2 (by omega) (by omega) (by omega)) (by exact ⟨rfl, trivial⟩) rfl (by simp) ?_ | refine bO rfl rfl rfl (nb rfl) rfl rfl (by omega) ?_ | refine bB tabOk rfl rfl rfl (nb rfl) rfl rfl rfl rfl (by first | assumption | omega) ?_ | refine bA tabOk rfl rfl rfl (nb rfl) rfl rfl rfl (cC _ _ (by first | assumption | omega)) ?_) | (refine aK ?_;  first | refine aF ?_ | refine aL ?_ | refine bD ?_ | refine aR ?_ | refine aM ?_ | refine aS ?_ | refine aC (b := true) rfl (fun _ => ?_) nTf | refine aC (b := false) rfl nFt (fun _ => ?_)) | (refine aJ ?_;  first | refine aU ?_ | refine aN ?_) | (refine aP ?_;  first | refine bM ?_ | refine aX ?_))
        all_goals first
          | (have hq : (wholeP kids[j] (wholePs (kids.take j) (l - 1)).2).1 ≠ 0 := by assumption
             have hst := iN hlt hok hq; rw [hst]; refine dN (cs := []) (by first | exact .inl rfl | exact .inr rfl) (aW rfl (aA rfl)) rfl rfl rfl ?_; rfl; done)
          | (have hq : (wholeP kids[j] (wholePs (kids.take j) (l - 1)).2).1 = 0 := by assumption
             have hst := iM hlt hok; exact ⟨⟨j + 1, hlt, by rw [hst]; exact hq⟩, (by show kids.length - (j + 1) < kids.length - j; omega), (bT (by repeat' first | exact trivial | refine ⟨rfl, ?_⟩) (by rw [hst]; exact ⟨rfl, trivial⟩))⟩)
      · repeat' (first | refine aE ?_ | (refine aG ?_;  first | refine aB tabOk rfl rfl rfl (nb rfl) rfl ?_ | (refine aI rfl rfl rfl (nb rfl) rfl rfl rfl (fun hq => ?_) (fun hq => ?_) <;> (first | (simp only [sD, sE, sB, sC, sN, sM, sT, sF] at hq; try (exfalso; omega)) | skip))) | (refine aK ?_;  first | refine aF ?_ | refine aL ?_ | refine aM ?_ | refine bQ ?_ | refine aC (b := false) rfl nFt (fun _ => ?_)) | (refine aJ ?_;  first | refine aU ?_ | refine bH ?_) | (refine aP ?_;  first | refine bE ?_))
        all_goals (have e1 : kids.take j = kids := List.take_of_length_le (by omega); rw [e1] at hok ⊢; refine dN (cs := []) (by first | exact .inl rfl | exact .inr rfl) (aW rfl (aA rfl)) rfl rfl rfl ?_; exact iJ hok.symm)
def sformP (t : Tree) : Bool := isSigP t || (isExP t || isFunP t)
set_option maxHeartbeats 8000000 in
set_option maxRecDepth 10000 in
theorem qY (t : Tree) (hs : t.size ≤ 100000000) : ACalls Tryz.prog 20 [.imm t.iv] [] (.imm (.lit (.int .i64 (checkP sformP t)))) [] := by
  have c1 := qX t 65536 hs (by omega) (by omega)
  have hw := fQ t 65536
  unfold checkP sformP
  generalize wholeP t 65536 = W at *
  obtain ⟨W1, W2⟩ := W
  dsimp only at *
  by_cases h0 : W1 = 0
  · have hwt := hw h0
    have c2 := kV t hwt hs
    have c3 := wH t hwt hs
    have c4 := aAX t hwt hs
    generalize isSigP t = B1 at *
    generalize isExP t = B2 at *
    generalize isFunP t = B3 at *
    subst h0
    refine aH Tryz.func20 rfl rfl (nb rfl) rfl ?_
    repeat' (first | refine aE ?_ | (refine aG ?_;  first | refine aB tabOk rfl rfl rfl (nb rfl) rfl ?_ | refine bL rfl rfl (nb rfl) ?_ | (refine aI rfl rfl rfl (nb rfl) rfl rfl rfl (fun hq => ?_) (fun hq => ?_) <;> (first | (simp only [sD, sE, sB, sC, sN, sM, sT, sF] at hq; try (exfalso; omega)) | skip)) | refine cD 1000 tabOk rfl rfl rfl (nb rfl) rfl rfl rfl rfl rfl rfl ?_ | refine bW rfl rfl (nb rfl) rfl rfl rfl rfl (c1) (by exact ⟨rfl, trivial⟩) rfl (by simp) ?_ | (refine bP rfl rfl rfl (nb rfl) rfl rfl rfl (c2) (fun hq => ?_) (fun hq => ?_)) | (refine bP rfl rfl rfl (nb rfl) rfl rfl rfl (c3) (fun hq => ?_) (fun hq => ?_)) | (refine bP rfl rfl rfl (nb rfl) rfl rfl rfl (c4) (fun hq => ?_) (fun hq => ?_)) | refine bG tabOk rfl rfl rfl rfl rfl rfl rfl rfl rfl rfl rfl ?_) | (refine aK ?_;  first | refine aF ?_ | refine aL ?_ | refine aM ?_ | refine aS ?_ | refine aC (b := true) rfl (fun _ => ?_) nTf | refine aC (b := false) rfl nFt (fun _ => ?_)) | (refine aJ ?_;  first | refine aU ?_ | refine aN ?_))
    all_goals (refine aO (by first | exact .inl rfl | exact .inr rfl) (aW rfl (aA rfl)) rfl ?_; refine iJ ?_; simp_all)
  · rw [if_neg h0]
    refine aH Tryz.func20 rfl rfl (nb rfl) rfl ?_
    repeat' (first | refine aE ?_ | (refine aG ?_;  first | refine aB tabOk rfl rfl rfl (nb rfl) rfl ?_ | refine bL rfl rfl (nb rfl) ?_ | (refine aI rfl rfl rfl (nb rfl) rfl rfl rfl (fun hq => ?_) (fun hq => ?_) <;> (first | (simp only [sD, sE, sB, sC, sN, sM, sT, sF] at hq; try (exfalso; omega)) | skip)) | refine cD 1000 tabOk rfl rfl rfl (nb rfl) rfl rfl rfl rfl rfl rfl ?_ | refine bW rfl rfl (nb rfl) rfl rfl rfl rfl (c1) (by exact ⟨rfl, trivial⟩) rfl (by simp) ?_ | refine bG tabOk rfl rfl rfl rfl rfl rfl rfl rfl rfl rfl rfl ?_) | (refine aK ?_;  first | refine aF ?_ | refine aL ?_ | refine aM ?_ | refine aS ?_ | refine aC (b := false) rfl nFt (fun _ => ?_)) | (refine aJ ?_;  first | refine aU ?_))
    all_goals first
      | exact absurd (by assumption) h0
      | (refine aO (by first | exact .inl rfl | exact .inr rfl) (aW rfl (aA rfl)) rfl ?_; rfl)
end Go.Proofs.YtocaohipfiapkaaGreatDoor.Ab
namespace Go.Proofs.YtocaohipfiapkaaGreatDoor.Ab
set_option linter.unusedVariables false
set_option linter.unusedSimpArgs false
attribute [local irreducible] AWP AOps AExit AThen ABlock ANoGoto FeetOk
/-- slices.IndexFunc, of trees, by a function over one variable. -/
def findP (R : Tree → Bool) : List Tree → Nat → Int
  | [], _ => -1
  | t :: ts, j => if R t then (j : Int) else findP R ts (j + 1)
theorem nW (R : Tree → Bool) : ∀ (l : List Tree) (j : Nat), (0 ≤ findP R l j ↔ l.any R = true)
  | [], _ => by simp [findP]
  | t :: ts, j => by
    rw [findP, List.any_cons]
    by_cases h : R t = true
    · rw [if_pos h, h]; simp
    · rw [if_neg h, nW R ts (j + 1)]; simp [h]
set_option maxHeartbeats 4000000 in
set_option maxRecDepth 10000 in
theorem mW (l : List Tree) (F : FuncId) (x : IV) (R : Tree → Bool) (hl : l.length < 1000000000)
    (hf : ∀ j (h : j < l.length), ACalls Tryz.prog F [.imm l[j].iv, .obj 1001 0] [(1001, .cells [.imm x])] (.imm (.lit (.bool (R l[j])))) [(1001, .cells [.imm x])]) :
    ACalls Tryz.prog 30 [.imm (.sl false l.length (Tree.ivs l)), .func F [] [.obj 1001 0]] [(1001, .cells [.imm x])] (.imm (.lit (.int .i64 (findP R l 0)))) [(1001, .cells [.imm x])] := by
  generalize hR : findP R l 0 = Q
  refine bX [1001] Tryz.func30 rfl rfl (nb rfl) rfl rfl ?_
  repeat' (first | refine aE ?_ | (refine aG ?_;  first | refine aB tabOk rfl rfl rfl (nb rfl) rfl ?_ | refine aT tabOk rfl rfl (nb rfl) rfl ?_) | (refine aK ?_;  first | refine aF ?_ | refine aL ?_ | refine aR ?_))
  refine bZ (ι := {j : Nat // j ≤ l.length ∧ findP R (l.drop j) j = Q}) (fun j => S.f ⟨[(8, .imm (.lit (.int .i64 (j.1 : Int)))), (7, .imm (.lit (.int .i64 (l.length : Int)))), (0, .imm (.sl false l.length (Tree.ivs l))), (1, .func F [] [.obj 1001 0])], [(1001, .cells [.imm x])]⟩) (fun j => l.length - j.1) ⟨0, Nat.zero_le _, hR⟩ (bT (by repeat' first | exact trivial | refine ⟨rfl, ?_⟩) (by repeat' first | exact trivial | refine ⟨rfl, ?_⟩)) ?_
  clear hR
  rintro ⟨j, hj, hR⟩
  dsimp only
  by_cases hlt : j < l.length
  · have hget := cC l j hlt
    have hc := hf j hlt
    rw [List.drop_eq_getElem_cons hlt, findP] at hR
    cases hRj : R l[j] with
    | true =>
      rw [hRj] at hc hR
      rw [if_pos rfl] at hR
      subst hR
      repeat' (first | refine aE ?_ | (refine aG ?_;  first | refine aB tabOk rfl rfl rfl (nb rfl) rfl ?_ | (refine aI rfl rfl rfl (nb rfl) rfl rfl rfl (fun hq => ?_) (fun hq => ?_) <;> (first | (simp only [sD, sE, sB, sC, sN, sM, sT, sF] at hq; try (exfalso; omega)) | skip)) | refine bW rfl rfl (nb rfl) rfl rfl rfl rfl hc (by repeat' first | exact trivial | refine ⟨rfl, ?_⟩) rfl (by show ([1001] : List Nat).Nodup; decide) ?_ | refine bB tabOk rfl rfl rfl (nb rfl) rfl rfl rfl rfl (by first | assumption | omega) ?_ | refine bA tabOk rfl rfl rfl (nb rfl) rfl rfl rfl (by assumption) ?_) | (refine aK ?_;  first | refine aF ?_ | refine aL ?_ | refine aR ?_ | refine aM ?_ | refine aS ?_ | refine aC (b := true) rfl (fun _ => ?_) nTf) | (refine aJ ?_;  first | refine aU ?_ | refine aN ?_) | (refine aP ?_;  first | refine aX ?_))
      all_goals first
        | (exfalso; omega)
        | (refine cB (cA (by first | exact .inl rfl | exact .inr rfl) (aW rfl (aA rfl)) rfl (by repeat' first | exact trivial | refine ⟨rfl, ?_⟩) rfl ?_); rfl)
    | false =>
      rw [hRj] at hc hR
      rw [if_neg (by simp)] at hR
      repeat' (first | refine aE ?_ | (refine aG ?_;  first | refine aB tabOk rfl rfl rfl (nb rfl) rfl ?_ | (refine aI rfl rfl rfl (nb rfl) rfl rfl rfl (fun hq => ?_) (fun hq => ?_) <;> (first | (simp only [sD, sE, sB, sC, sN, sM, sT, sF] at hq; try (exfalso; omega)) | skip)) | refine bW rfl rfl (nb rfl) rfl rfl rfl rfl hc (by repeat' first | exact trivial | refine ⟨rfl, ?_⟩) rfl (by show ([1001] : List Nat).Nodup; decide) ?_ | refine bO rfl rfl rfl (nb rfl) rfl rfl (by omega) ?_ | refine bB tabOk rfl rfl rfl (nb rfl) rfl rfl rfl rfl (by first | assumption | omega) ?_ | refine bA tabOk rfl rfl rfl (nb rfl) rfl rfl rfl (by assumption) ?_) | (refine aK ?_;  first | refine aF ?_ | refine aL ?_ | refine bD ?_ | refine aR ?_ | refine aS ?_ | refine aC (b := true) rfl (fun _ => ?_) nTf | refine aC (b := false) rfl nFt (fun _ => ?_)) | (refine aJ ?_;  first | refine aU ?_) | (refine aP ?_;  first | refine bM ?_))
      all_goals first
        | (exfalso; omega)
        | exact ⟨⟨j + 1, hlt, hR⟩, (by show l.length - (j + 1) < l.length - j; omega), (bT (by repeat' first | exact trivial | refine ⟨rfl, ?_⟩) (by repeat' first | exact trivial | refine ⟨rfl, ?_⟩))⟩
  · have ej : j = l.length := by omega
    subst ej
    rw [List.drop_length, findP] at hR
    subst hR
    repeat' (first | refine aE ?_ | (refine aG ?_;  first | refine aB tabOk rfl rfl rfl (nb rfl) rfl ?_ | (refine aI rfl rfl rfl (nb rfl) rfl rfl rfl (fun hq => ?_) (fun hq => ?_) <;> (first | (simp only [sD, sE, sB, sC, sN, sM, sT, sF] at hq; try (exfalso; omega)) | skip))) | (refine aK ?_;  first | refine aF ?_ | refine aL ?_ | refine aM ?_ | refine bQ ?_ | refine aC (b := false) rfl nFt (fun _ => ?_)) | (refine aJ ?_;  first | refine aU ?_ | refine bH ?_) | (refine aP ?_;  first | refine bE ?_))
    all_goals first
      | (exfalso; omega)
      | (refine cB (cA (by first | exact .inl rfl | exact .inr rfl) (aW rfl (aA rfl)) rfl (by repeat' first | exact trivial | refine ⟨rfl, ?_⟩) rfl ?_); rfl)
set_option maxHeartbeats 4000000 in
set_option maxRecDepth 10000 in
theorem jC (l : List Tree) (F : FuncId) (x : IV) (R : Tree → Bool) (hl : l.length < 1000000000)
    (hf : ∀ j (h : j < l.length), ACalls Tryz.prog F [.imm l[j].iv, .obj 1001 0] [(1001, .cells [.imm x])] (.imm (.lit (.bool (R l[j])))) [(1001, .cells [.imm x])]) :
    ACalls Tryz.prog 44 [.imm (.sl false l.length (Tree.ivs l)), .func F [] [.obj 1001 0]] [(1001, .cells [.imm x])] (.imm (.lit (.bool (l.any R)))) [(1001, .cells [.imm x])] := by
  have hc := mW l F x R hl hf
  have ha := nW R l 0
  generalize findP R l 0 = Q at *
  refine bX [1001] Tryz.func44 rfl rfl (nb rfl) rfl rfl ?_
  repeat' (first | refine aE ?_ | (refine aG ?_;  first | refine aB tabOk rfl rfl rfl (nb rfl) rfl ?_ | (refine aI rfl rfl rfl (nb rfl) rfl rfl rfl (fun hq => ?_) (fun hq => ?_) <;> (first | (simp only [sD, sE, sB, sC, sN, sM, sT, sF] at hq; try (exfalso; omega)) | skip)) | refine bW rfl rfl (nb rfl) rfl rfl rfl rfl hc (by repeat' first | exact trivial | refine ⟨rfl, ?_⟩) rfl (by show ([1001] : List Nat).Nodup; decide) ?_) | (refine aK ?_;  first | refine aF ?_ | refine aM ?_))
  all_goals
    (have e : l.any R = decide (Q ≥ 0) := by
       cases h : l.any R with
       | true => exact (decide_eq_true (ha.2 h)).symm
       | false => exact (decide_eq_false (fun hq => by rw [ha.1 hq] at h; cases h)).symm
     rw [e]
     refine cB (cA (by first | exact .inl rfl | exact .inr rfl) (aW rfl (aA rfl)) rfl (by repeat' first | exact trivial | refine ⟨rfl, ?_⟩) rfl ?_); refine cE ?_; first | exact (decide_eq_true (by assumption)).symm | exact (decide_eq_false (by assumption)).symm)
end Go.Proofs.YtocaohipfiapkaaGreatDoor.Ab
namespace Go.Proofs.YtocaohipfiapkaaGreatDoor.Ab
set_option linter.unusedVariables false
set_option linter.unusedSimpArgs false
attribute [local irreducible] AWP AOps AExit AThen ABlock ANoGoto FeetOk
set_option maxRecDepth 10000 in
theorem qZ (s : ByteArray) : ACalls Tryz.prog 89 [.imm (.lit (.string s))] [] (.imm (.lit (.bool (labelP s)))) [] := by
  refine aH Tryz.func89 rfl rfl (nb rfl) rfl ?_
  repeat' (first | refine aE ?_ | (refine aG ?_;  first | refine aB tabOk rfl rfl rfl (nb rfl) rfl ?_ | refine bL rfl rfl (nb rfl) ?_ | (refine aI rfl rfl rfl (nb rfl) rfl rfl rfl (fun hq => ?_) (fun hq => ?_) <;> (first | (simp only [sD, sE, sB, sC, sN, sM, sT, sF] at hq; try (exfalso; omega)) | skip)) | refine aT tabOk rfl rfl (nb rfl) rfl ?_) | (refine aK ?_;  first | refine aF ?_ | refine aM ?_))
  all_goals (refine aO (by first | exact .inl rfl | exact .inr rfl) (aW rfl (aA rfl)) rfl ?_; refine cE ?_; simp_all [labelP] <;> omega)
def numberP (k n : Int) : Bool :=
  if k = 130 then decide (n ≥ 0) && decide (n ≤ 65536)
  else if k = 131 then decide (n ≥ -1073741824) && decide (n ≤ 1073741824)
  else if k = 132 then (n == 0) || (n == 1)
  else if k = 145 then decide (n ≥ 1) && decide (n ≤ 5)
  else n == 0
set_option maxHeartbeats 4000000 in
set_option maxRecDepth 10000 in
theorem yU (k n : Int) (a b : ByteArray) (kids : List Tree) : ACalls Tryz.prog 90 [.imm (Tree.iv (.node k n a b kids))] [] (.imm (.lit (.bool (numberP k n)))) [] := by
  refine aH Tryz.func90 rfl rfl (nb rfl) rfl ?_
  repeat' (first | refine aE ?_ | (refine aG ?_;  first | refine aB tabOk rfl rfl rfl (nb rfl) rfl ?_ | refine bL rfl rfl (nb rfl) ?_ | (refine aI rfl rfl rfl (nb rfl) rfl rfl rfl (fun hq => ?_) (fun hq => ?_) <;> (first | (simp only [sD, sE, sB, sC, sN, sM, sT, sF] at hq; try (exfalso; omega)) | skip))) | (refine aK ?_;  first | refine aF ?_ | refine aL ?_ | refine aR ?_ | refine aM ?_ | refine aS ?_ | refine aC (b := true) rfl (fun _ => ?_) nTf | refine aC (b := false) rfl nFt (fun _ => ?_)) | (refine aJ ?_;  first | refine aU ?_ | refine aN ?_) | (refine aP ?_;  first | refine bM ?_ | refine aX ?_))
  all_goals (refine aO (by first | exact .inl rfl | exact .inr rfl) (aW rfl (aA rfl)) rfl ?_; refine cE ?_; first | (simp_all [numberP]; done) | (simp_all [numberP]; omega))
def tconP (t : Tree) : Bool := checkP isConP t == 0
def tkindP (t : Tree) : Bool := checkP isKindP t == 0
set_option maxRecDepth 10000 in
theorem aCp (t : Tree) (hs : t.size ≤ 100000000) : ACalls Tryz.prog 92 [.imm t.iv] [] (.imm (.lit (.bool (tconP t)))) [] := by
  refine aH Tryz.func92 rfl rfl (nb rfl) rfl ?_
  repeat' (first | refine aE ?_ | (refine aG ?_;  first | refine aB tabOk rfl rfl rfl (nb rfl) rfl ?_ | (refine aI rfl rfl rfl (nb rfl) rfl rfl rfl (fun hq => ?_) (fun hq => ?_) <;> (first | (simp only [sD, sE, sB, sC, sN, sM, sT, sF] at hq; try (exfalso; omega)) | skip)) | (refine qK rfl rfl rfl (nb rfl) rfl rfl rfl (eA t hs) (fun q hq => ?_))) | (refine aK ?_;  first | refine aF ?_ | refine aM ?_))
  all_goals (refine aO (by first | exact .inl rfl | exact .inr rfl) (aW rfl (aA rfl)) rfl ?_; refine cE ?_; simp_all [tconP])
set_option maxRecDepth 10000 in
theorem aAY (t : Tree) (hs : t.size ≤ 100000000) : ACalls Tryz.prog 93 [.imm t.iv] [] (.imm (.lit (.bool (tkindP t)))) [] := by
  refine aH Tryz.func93 rfl rfl (nb rfl) rfl ?_
  repeat' (first | refine aE ?_ | (refine aG ?_;  first | refine aB tabOk rfl rfl rfl (nb rfl) rfl ?_ | (refine aI rfl rfl rfl (nb rfl) rfl rfl rfl (fun hq => ?_) (fun hq => ?_) <;> (first | (simp only [sD, sE, sB, sC, sN, sM, sT, sF] at hq; try (exfalso; omega)) | skip)) | (refine qK rfl rfl rfl (nb rfl) rfl rfl rfl (qQ t hs) (fun q hq => ?_))) | (refine aK ?_;  first | refine aF ?_ | refine aM ?_))
  all_goals (refine aO (by first | exact .inl rfl | exact .inr rfl) (aW rfl (aA rfl)) rfl ?_; refine cE ?_; simp_all [tkindP])
/-- The first kids are of these forms, one after the other. -/
def formsP : List (FuncId × (Tree → Bool)) → List Tree → Bool
  | p :: ps, t :: ts => p.2 t && formsP ps ts
  | [], _ => true
  | _ :: _, [] => false
theorem lU : ∀ (fs : List (FuncId × (Tree → Bool))) (l : List Tree), fs.length ≤ l.length → (formsP fs l = true ↔ ∀ i (hi : i < fs.length) (hk : i < l.length), fs[i].2 l[i] = true)
  | [], l, _ => by simp [formsP]
  | p :: ps, [], h => by simp at h
  | p :: ps, t :: ts, h => by
    rw [formsP, Bool.and_eq_true, lU ps ts (by simpa using h)]
    constructor
    · rintro ⟨h1, h2⟩ i hi hk
      cases i with
      | zero => exact h1
      | succ i => exact h2 i (by simpa using hi) (by simpa using hk)
    · intro h
      exact ⟨h 0 (by simp) (by simp), fun i hi hk => h (i + 1) (by simpa using hi) (by simpa using hk)⟩
def kidsP (kids : List Tree) (more : Bool) (fs : List (FuncId × (Tree → Bool))) : Bool := decide (fs.length ≤ kids.length) && (more || decide (kids.length ≤ fs.length)) && formsP fs kids
def fsIv (fs : List (FuncId × (Tree → Bool))) : List IV := fs.map fun p => .func p.1 [] []
theorem aCq (fs : List (FuncId × (Tree → Bool))) (i : Nat) (h : i < fs.length) : (fsIv fs)[i * 1]? = some (.func fs[i].1 [] []) := by simp [fsIv, h]
set_option maxHeartbeats 4000000 in
set_option maxRecDepth 10000 in
theorem fJ (k n : Int) (a b : ByteArray) (kids : List Tree) (more : Bool) (fs : List (FuncId × (Tree → Bool))) (hlen : fs.length < 1000) (hl : kids.length < 1000000000)
    (hf : ∀ i (hi : i < fs.length) (hk : i < kids.length), ACalls Tryz.prog fs[i].1 [.imm kids[i].iv] [] (.imm (.lit (.bool (fs[i].2 kids[i])))) []) :
    ACalls Tryz.prog 91 [.imm (Tree.iv (.node k n a b kids)), .imm (.lit (.bool more)), .imm (.sl true fs.length (fsIv fs))] [] (.imm (.lit (.bool (kidsP kids more fs)))) [] := by
  refine aH Tryz.func91 rfl rfl (nb rfl) rfl ?_
  repeat' (first | refine aE ?_ | (refine aG ?_;  first | refine aB tabOk rfl rfl rfl (nb rfl) rfl ?_ | refine bL rfl rfl (nb rfl) ?_ | (refine aI rfl rfl rfl (nb rfl) rfl rfl rfl (fun hq => ?_) (fun hq => ?_) <;> (first | (simp only [sD, sE, sB, sC, sN, sM, sT, sF] at hq; try (exfalso; omega)) | skip)) | refine aT tabOk rfl rfl (nb rfl) rfl ?_ | ((fail_if_success (refine cJ (b := true) rfl rfl rfl ?_)); (fail_if_success (refine cJ (b := false) rfl rfl rfl ?_)); refine dD rfl rfl rfl (fun hq => ?_) (fun hq => ?_) <;> first | subst hq | (first | (simp only [sD, sE, sB, sC, sN, sM, sT, sF] at hq; try (exfalso; omega)) | skip))) | (refine aK ?_;  first | refine aF ?_ | refine aL ?_ | refine aR ?_ | refine aM ?_ | refine aS ?_ | refine aC (b := true) rfl (fun _ => ?_) nTf | refine aC (b := false) rfl nFt (fun _ => ?_)) | (refine aJ ?_;  first | refine aU ?_ | refine aN ?_))
  · refine aO (by first | exact .inl rfl | exact .inr rfl) (aW rfl (aA rfl)) rfl ?_; refine cE ?_; simp_all [kidsP]; omega
  · refine aO (by first | exact .inl rfl | exact .inr rfl) (aW rfl (aA rfl)) rfl ?_; refine cE ?_; simp_all [kidsP]; omega
  all_goals
    have hle : fs.length ≤ kids.length := by omega
    have hmore : (more || decide (kids.length ≤ fs.length)) = true := by simp_all; try omega
    refine bZ (ι := {j : Nat // j ≤ fs.length ∧ ∀ i (hi : i < fs.length) (hk : i < kids.length), i < j → fs[i].2 kids[i] = true}) (fun j => S.f ⟨[(33, .imm (.lit (.int .i64 (j.1 : Int)))), (32, .imm (.lit (.int .i64 (fs.length : Int)))), (31, .imm (.sl true fs.length (fsIv fs))), (0, .imm (Tree.iv (.node k n a b kids)))], []⟩) (fun j => fs.length - j.1) ⟨0, Nat.zero_le _, fun i _ _ hi => absurd hi (Nat.not_lt_zero _)⟩ (bT (by repeat' first | exact trivial | refine ⟨rfl, ?_⟩) (by repeat' first | exact trivial | refine ⟨rfl, ?_⟩)) ?_
    rintro ⟨j, hj, hok⟩
    dsimp only
    by_cases hlt : j < fs.length
    · have hltk : j < kids.length := by omega
      repeat' (first | refine aE ?_ | (refine aG ?_;  first | refine aB tabOk rfl rfl rfl (nb rfl) rfl ?_ | (refine aI rfl rfl rfl (nb rfl) rfl rfl rfl (fun hq => ?_) (fun hq => ?_) <;> (first | (simp only [sD, sE, sB, sC, sN, sM, sT, sF] at hq; try (exfalso; omega)) | skip)) | refine bA tabOk rfl rfl rfl (nb rfl) rfl rfl rfl (aCq fs j hlt) ?_ | (refine bP rfl rfl rfl (nb rfl) rfl rfl rfl (hf j hlt hltk) (fun hq => ?_) (fun hq => ?_)) | refine bO rfl rfl rfl (nb rfl) rfl rfl (by omega) ?_ | refine bB tabOk rfl rfl rfl (nb rfl) rfl rfl rfl rfl (by first | assumption | omega) ?_ | refine bA tabOk rfl rfl rfl (nb rfl) rfl rfl rfl (cC _ _ (by first | assumption | omega)) ?_) | (refine aK ?_;  first | refine aF ?_ | refine aL ?_ | refine bD ?_ | refine aR ?_ | refine aM ?_ | refine aS ?_ | refine aC (b := true) rfl (fun _ => ?_) nTf | refine aC (b := false) rfl nFt (fun _ => ?_)) | (refine aJ ?_;  first | refine aU ?_ | refine aN ?_) | (refine aP ?_;  first | refine bM ?_ | refine aX ?_))
      all_goals first
        | (have hq : fs[j].2 kids[j] = false := by assumption
           refine aO (by first | exact .inl rfl | exact .inr rfl) (aW rfl (aA rfl)) rfl ?_; refine cE ?_; symm; rw [Bool.eq_false_iff]; intro hc
           simp only [kidsP, Bool.and_eq_true] at hc
           have := (lU fs kids hle).1 hc.2 j hlt hltk
           rw [hq] at this; cases this; done)
        | (have hq : fs[j].2 kids[j] = true := by assumption
           exact ⟨⟨j + 1, hlt, fun i hi hk hij => by
             by_cases e : i = j
             · subst e; exact hq
             · exact hok i hi hk (by omega)⟩, (by show fs.length - (j + 1) < fs.length - j; omega), (bT (by repeat' first | exact trivial | refine ⟨rfl, ?_⟩) (by repeat' first | exact trivial | refine ⟨rfl, ?_⟩))⟩)
    · repeat' (first | refine aE ?_ | (refine aG ?_;  first | refine aB tabOk rfl rfl rfl (nb rfl) rfl ?_ | (refine aI rfl rfl rfl (nb rfl) rfl rfl rfl (fun hq => ?_) (fun hq => ?_) <;> (first | (simp only [sD, sE, sB, sC, sN, sM, sT, sF] at hq; try (exfalso; omega)) | skip))) | (refine aK ?_;  first | refine aF ?_ | refine aL ?_ | refine aM ?_ | refine bQ ?_ | refine aC (b := false) rfl nFt (fun _ => ?_)) | (refine aJ ?_;  first | refine aU ?_ | refine bH ?_) | (refine aP ?_;  first | refine bE ?_))
      all_goals (refine aO (by first | exact .inl rfl | exact .inr rfl) (aW rfl (aA rfl)) rfl ?_; refine cE ?_; simp only [kidsP, hmore, Bool.and_true]; rw [(lU fs kids hle).2 (fun i hi hk => hok i hi hk (by omega))]; simp [hle])
end Go.Proofs.YtocaohipfiapkaaGreatDoor.Ab
namespace Go.Proofs.YtocaohipfiapkaaGreatDoor.Ab
set_option linter.unusedVariables false
set_option linter.unusedSimpArgs false
/-- No name is ahead of the one before it. -/
def steadyP : List Tree → Bool
  | t :: u :: r => !(ltB u.name t.name) && steadyP (u :: r)
  | _ => true
theorem jT : ∀ (l : List Tree), steadyP l = true ↔ ∀ i (hi : i + 1 < l.length), ltB l[i + 1].name (l[i]'(by omega)).name = false
  | [] => by simp [steadyP]
  | [x] => by simp [steadyP]
  | t :: u :: r => by
    rw [steadyP, Bool.and_eq_true, jT (u :: r), Bool.not_eq_true']
    constructor
    · rintro ⟨h1, h2⟩ i hi
      cases i with
      | zero => simpa using h1
      | succ i => exact h2 i (by simpa using hi)
    · intro h
      exact ⟨h 0 (by simp), fun i hi => h (i + 1) (by simpa using hi)⟩
def namedK (k : Int) : Bool := k == 138 || k == 146
def headP (k n : Int) (a b : ByteArray) : Bool := eqB b emptyB && (namedK k == !(eqB a emptyB)) && (!(namedK k) || labelP a) && numberP k n
mutual
def isTermP : Tree → Bool
  | .nil => false
  | .node k n a b kids => headP k n a b &&
    (if k = 130 ∨ k = 131 ∨ k = 132 ∨ k = 133 then kids.isEmpty
     else if k = 134 then isT_ct kids
     else if k = 139 then isT_kt kids
     else if k = 135 ∨ k = 142 ∨ k = 143 ∨ k = 145 then isT_tt kids
     else if k = 136 then fieldsP kids 137 && distinctP kids && steadyP kids
     else if k = 138 then isT_t kids
     else if k = 140 then isT_tc kids
     else if k = 141 then isT_ctc kids
     else if k = 144 then isT_ttt kids
     else if k = 146 then isT_ct kids
     else if k = 147 then isT_ta kids
     else if k = 148 then isT_tca kids
     else false)
def isT_t : List Tree → Bool
  | [x] => isTermP x
  | _ => false
def isT_ct : List Tree → Bool
  | [x, y] => tconP x && isTermP y
  | _ => false
def isT_kt : List Tree → Bool
  | [x, y] => tkindP x && isTermP y
  | _ => false
def isT_tt : List Tree → Bool
  | [x, y] => isTermP x && isTermP y
  | _ => false
def isT_tc : List Tree → Bool
  | [x, y] => isTermP x && tconP y
  | _ => false
def isT_ctc : List Tree → Bool
  | [x, y, z] => tconP x && isTermP y && tconP z
  | _ => false
def isT_ttt : List Tree → Bool
  | [x, y, z] => isTermP x && isTermP y && isTermP z
  | _ => false
def isT_ta : List Tree → Bool
  | x :: y :: r => isTermP x && (fieldsP (y :: r) 149 && distinctP (y :: r))
  | _ => false
def isT_tca : List Tree → Bool
  | x :: y :: z :: r => isTermP x && tconP y && (fieldsP (z :: r) 149 && distinctP (z :: r))
  | _ => false
def fieldsP : List Tree → Int → Bool
  | [], _ => true
  | .nil :: _, _ => false
  | .node k n a b ks :: ts, kind => (k == kind && n == 0 && eqB b emptyB && labelP a && isT_t ks) && fieldsP ts kind
end
/-- One field, one arm. -/
def okField (kind : Int) : Tree → Bool
  | .nil => false
  | .node k n a b ks => k == kind && n == 0 && eqB b emptyB && labelP a && isT_t ks
theorem jU (kind : Int) (l : List Tree) : fieldsP l kind = l.all (okField kind) := by
  induction l with
  | nil => simp [fieldsP]
  | cons t ts ih => cases t <;> simp [fieldsP, okField, ih]
end Go.Proofs.YtocaohipfiapkaaGreatDoor.Ab
