/- Words, walks and laws under the claim's statement: what it uses of them. No condition of its own. -/
import Derived.Test.YtdajnmffoopcaaaGreatDoorWzL0
import Derived.Sort.Walk0
import Derived.Test.YtdajnmffoopcaaaGreatDoorWzAb1
import Derived.Test.YtdajnmffoopcaaaGreatDoorWzAb0
namespace Go.Proofs.YtdajnmffoopcaaaGreatDoor.Ab
set_option linter.unusedVariables false
set_option linter.unusedSimpArgs false
open Go.RowKit
attribute [local irreducible] AWP AOps AExit AThen ABlock ANoGoto FeetOk
set_option maxHeartbeats 4000000 in
set_option maxRecDepth 10000 in
theorem oM (k n : Int) (a b : ByteArray) (kids : List Tree) (nm : Bool) : ACalls Tryz.prog 78 [.imm (Tree.iv (.node k n a b kids)), .imm (.lit (.bool nm))] [] (.imm (.lit (.bool (bareP n a b nm false)))) [] := by
  cases nm <;>
  (refine aJ Tryz.func78 rfl rfl (nb rfl) rfl ?_
   repeat' (first | refine aG ?_ | (refine aI ?_;  first | refine aD tabOk rfl rfl rfl (nb rfl) rfl ?_ | refine bE rfl rfl (nb rfl) ?_ | (refine aM rfl rfl rfl (nb rfl) rfl rfl rfl (fun hq => ?_) (fun hq => ?_) <;> (first | (simp only [sD, sE, sB, sC, sN, sM, sT, sF] at hq; try (exfalso; omega)) | skip))) | (refine aN ?_;  first | refine aH ?_ | refine aT ?_))
   all_goals (refine aV (by first | exact .inl rfl | exact .inr rfl) (aZ rfl (aC rfl)) rfl ?_; refine cO ?_; simp_all [bareP, eqB, emptyB]))
set_option maxHeartbeats 4000000 in
set_option maxRecDepth 10000 in
theorem aBS (t : Tree) (h : t.whole = true) : ACalls Tryz.prog 80 [.imm t.iv] [] (.imm (.lit (.bool (isKindP t)))) [] := by
  induction t using Tree.ind with
  | h1 => simp [Tree.whole] at h
  | h2 k n a b kids ih =>
    refine aJ Tryz.func80 rfl rfl (nb rfl) rfl ?_
    repeat' (first | refine aG ?_ | (refine aI ?_;  first | refine aD tabOk rfl rfl rfl (nb rfl) rfl ?_ | refine bE rfl rfl (nb rfl) ?_ | (refine aM rfl rfl rfl (nb rfl) rfl rfl rfl (fun hq => ?_) (fun hq => ?_) <;> (first | (simp only [sD, sE, sB, sC, sN, sM, sT, sF] at hq; try (exfalso; omega)) | skip)) | (refine bT rfl rfl rfl (nb rfl) rfl rfl rfl (oM _ _ _ _ _ _) (fun hq => ?_) (fun hq => ?_)) | (refine bT rfl rfl rfl (nb rfl) rfl rfl rfl (ih _ (List.getElem_mem _) (bS h (List.getElem_mem _))) (fun hq => ?_) (fun hq => ?_)) | refine bB tabOk rfl rfl (nb rfl) rfl ?_ | refine bN tabOk rfl rfl rfl (nb rfl) rfl rfl rfl rfl (by first | rfl | omega) (by first | omega | simp) ?_ | refine bC tabOk rfl rfl rfl (nb rfl) rfl rfl rfl (bX _ _ (by first | assumption | omega)) ?_) | (refine aN ?_;  first | refine aH ?_ | refine aQ ?_ | refine aT ?_ | refine aU ?_ | refine aA (b := true) rfl (fun _ => ?_) nTf | refine aA (b := false) rfl nFt (fun _ => ?_)) | (refine aK ?_;  first | refine aX ?_ | refine aR ?_))
    all_goals (refine aV (by first | exact .inl rfl | exact .inr rfl) (aZ rfl (aC rfl)) rfl ?_; refine cO ?_; by_cases h2 : kids.length = 2 <;> first | (obtain ⟨x, y, rfl⟩ := two h2; simp_all [isKindP, isKindPs]; done) | (simp_all [isKindP]; done) | (simp_all [isKindP]; omega))
theorem tP (l : List UInt8) : ¬ l < l := List.lt_irrefl l
def gtB (u v : ByteArray) : Bool := !(ltB u v || eqB u v)
def okPair (rise : Bool) (u v : ByteArray) : Bool := !(eqB u v) && (!rise || !(gtB u v))
theorem aCu {u v : ByteArray} (h : ltB u v = true) : eqB u v = false := by
  unfold ltB at h
  rw [bytesLess_eq, decide_eq_true_eq] at h
  unfold eqB
  refine beq_eq_false_iff_ne.2 fun e => ?_
  rw [e] at h
  exact tP _ h
theorem yV {u v x : ByteArray} (h : ltB u v = true) (h2 : ltB v x = true) : ltB u x = true := by
  unfold ltB at *
  rw [bytesLess_eq, decide_eq_true_eq] at *
  exact List.lt_trans h h2
theorem mL (u v : ByteArray) : okPair true u v = ltB u v := by
  unfold okPair gtB
  cases h : ltB u v with
  | true => rw [aCu h]; rfl
  | false => cases eqB u v <;> rfl
theorem oN (u v : ByteArray) : okPair false u v = !(eqB u v) := by unfold okPair; simp
theorem tQ (u v : ByteArray) : eqB u v = eqB v u := by
  unfold eqB
  rw [Bool.eq_iff_iff, beq_iff_eq, beq_iff_eq]
  exact ⟨Eq.symm, Eq.symm⟩
def pairsP (rise : Bool) (l : List Tree) : Bool := if rise = true then risingP l else distinctP l
theorem oO {l : List Tree} (h : risingP l = true) : ∀ (d i : Nat) (hi : i + d + 1 < l.length), ltB (l[i]'(by omega)).name l[i + d + 1].name = true
  | 0, i, hi => (dR l).1 h i hi
  | d + 1, i, hi => yV (oO h d i (by omega)) ((dR l).1 h (i + d + 1) (by omega))
theorem vQ (rise : Bool) (l : List Tree) : pairsP rise l = true ↔ ∀ i j (hij : i < j) (hj : j < l.length), okPair rise (l[i]'(by omega)).name l[j].name = true := by
  unfold pairsP
  cases rise with
  | true =>
    rw [if_pos rfl]
    constructor
    · intro h i j hij hj
      rw [mL]
      have e : j = i + (j - i - 1) + 1 := by omega
      have := oO h (j - i - 1) i (by omega)
      have e2 : l[j] = l[i + (j - i - 1) + 1]'(by omega) := by congr 1
      rw [e2]
      exact this
    · intro h
      rw [dR]
      intro i hi
      have := h i (i + 1) (by omega) hi
      rw [mL] at this
      exact this
  | false =>
    rw [if_neg (by simp), fD]
    constructor
    · intro h i j hij hj
      rw [oN, tQ, h i j hij hj]
      rfl
    · intro h i j hij hj
      have := h i j hij hj
      rw [oN, tQ] at this
      simpa using this
def labelsB (l : List Tree) (kind : Int) (rise : Bool) : Bool := namedPs l kind && pairsP rise l
theorem jB (l : List Tree) (kind : Int) (rise : Bool) : labelsB l kind rise = true ↔ (∀ q (hq : q < l.length), okNamed kind l[q] = true) ∧ ∀ i j (hij : i < j) (hj : j < l.length), okPair rise (l[i]'(by omega)).name l[j].name = true := by
  unfold labelsB
  rw [Bool.and_eq_true, vQ, dV]
  constructor
  · rintro ⟨h1, h2⟩
    exact ⟨fun q hq => List.all_eq_true.1 h1 _ (List.getElem_mem hq), h2⟩
  · rintro ⟨h1, h2⟩
    exact ⟨iE h1, h2⟩
end Go.Proofs.YtdajnmffoopcaaaGreatDoor.Ab
namespace Go.Proofs.YtdajnmffoopcaaaGreatDoor.Ab
set_option linter.unusedVariables false
set_option linter.unusedSimpArgs false
attribute [local irreducible] AWP AOps AExit AThen ABlock ANoGoto FeetOk
theorem yW {t : Tree} (h : isExP t = true) : t.kind = 164 := by
  unfold isExP at h
  split at h
  · simp only [Bool.and_eq_true, beq_iff_eq] at h; exact h.1.1
  · cases h
theorem vR {t : Tree} (h : isFunP t = true) : t.kind = 165 := by
  unfold isFunP at h
  split at h
  · simp only [Bool.and_eq_true, beq_iff_eq] at h; exact h.1.1
  · cases h
end Go.Proofs.YtdajnmffoopcaaaGreatDoor.Ab
namespace Go.Proofs.YtdajnmffoopcaaaGreatDoor.Ab
set_option linter.unusedVariables false
set_option linter.unusedSimpArgs false
open Go.RowKit
attribute [local irreducible] AWP AOps AExit AThen ABlock ANoGoto FeetOk
structure CellD where
  f : Bool
  k : Int
  n : Int
  a : ByteArray
  b : ByteArray
  kids : List Int
def intIVs (l : List Int) : List IV := l.map fun x => .lit (.int .i64 x)
def cellIV (c : CellD) : List IV := [.lit (.int .i64 c.k), .lit (.int .i64 c.n), .lit (.string c.a), .lit (.string c.b), .sl c.f c.kids.length (intIVs c.kids)]
def cellIVs : List CellD → List IV
  | [] => []
  | c :: l => cellIV c ++ cellIVs l
theorem oP (l : List Int) (j : Nat) (h : j < l.length) : (intIVs l)[j * 1]? = some (.lit (.int .i64 l[j])) := by unfold intIVs; simp [h]
theorem vS (l : List Int) : (intIVs l).length = l.length := by unfold intIVs; simp
theorem mM : ∀ l m : List CellD, cellIVs (l ++ m) = cellIVs l ++ cellIVs m
  | [], m => rfl
  | c :: l, m => by rw [List.cons_append, cellIVs, cellIVs, mM l m, List.append_assoc]
theorem gF : ∀ (l : List CellD) (j : Nat) (h : j < l.length), ((cellIVs l).drop (j * 5)).take 5 = cellIV l[j]
  | c :: l, 0, h => by rw [Nat.zero_mul, List.drop_zero, cellIVs, List.take_append_of_le_length (by simp [cellIV])]; rfl
  | c :: l, j + 1, h => by
    have e : (j + 1) * 5 = 5 + j * 5 := by omega
    have e5 : (cellIV c).length = 5 := rfl
    rw [e, ← List.drop_drop, cellIVs]
    conv => lhs; rw [← e5, List.drop_left]
    rw [e5, gF l j (by simpa using h)]
    rfl
theorem vT (l : List CellD) (j i : Nat) (h : j < l.length) (hi : i < 5) : (cellIVs l)[j * 5 + i]? = (cellIV l[j])[i]? := by
  rw [← gF l j h, List.getElem?_take, if_pos hi, List.getElem?_drop]
/-- The tree at a cell. -/
def growT (l : List CellD) : Nat → Nat → Tree
  | 0, _ => .nil
  | f + 1, i => match l[i]? with
    | none => .nil
    | some c => .node c.k c.n c.a c.b (c.kids.map fun x => growT l f x.toNat)
def below (l : List CellD) : Prop := ∀ i (h : i < l.length), ∀ x ∈ l[i].kids, 0 ≤ x ∧ x < (i : Int)
theorem yX (l : List CellD) (f i : Nat) (h : i < f) (hi : i < l.length) : ∃ cs, (growT l f i).iv = .ptr cs 0 := by
  cases f with
  | zero => omega
  | succ f => rw [growT, List.getElem?_eq_getElem hi]; exact ⟨_, rfl⟩
theorem aAE (l : List Tree) (t : Tree) : Tree.ivs (l ++ [t]) = Tree.ivs l ++ [t.iv] := by rw [dL, dL, List.map_append]; rfl
set_option maxHeartbeats 16000000 in
set_option maxRecDepth 10000 in
theorem aCv (l : List CellD) (hb : below l) (hlen : l.length ≤ 8192) (hk : ∀ c ∈ l, c.kids.length ≤ 8192) : ∀ (f i : Nat), i < f → i < l.length →
    ACalls Tryz.prog 36 [.imm (.agg [.sl false l.length (cellIVs l)]), .imm (.lit (.int .i64 (i : Int)))] [] (.imm (growT l f i).iv) [] := by
  intro f
  induction f with
  | zero => intro i h; omega
  | succ f ih =>
    intro i hif hil
    have hT : growT l (f + 1) i = .node l[i].k l[i].n l[i].a l[i].b (l[i].kids.map fun x => growT l f x.toNat) := by
      rw [growT, List.getElem?_eq_getElem hil]
    rw [hT]
    have hrow := gF l i hil
    have hbi := hb i hil
    have hki := hk l[i] (List.getElem_mem hil)
    generalize hc : l[i] = c at *
    change _ = [IV.lit (.int .i64 c.k), .lit (.int .i64 c.n), .lit (.string c.a), .lit (.string c.b), .sl c.f c.kids.length (intIVs c.kids)] at hrow
    refine cZ Tryz.func36 rfl rfl (nb rfl) rfl ?_
    repeat' (first | refine aG ?_ | (refine aI ?_;  first | refine aD tabOk rfl rfl rfl (nb rfl) rfl ?_ | refine kJ tabOk rfl rfl rfl (nb rfl) rfl rfl rfl hrow rfl ?_ | refine dQ tabOk rfl rfl rfl (nb rfl) rfl rfl rfl rfl rfl ?_ | refine qD (t := 49) rfl rfl rfl (nb rfl) rfl rfl rfl rfl rfl rfl rfl ?_ | refine bB tabOk rfl rfl (nb rfl) rfl ?_ | refine cJ tabOk rfl rfl rfl (nb rfl) rfl rfl rfl rfl rfl rfl ?_ | refine bO tabOk rfl rfl rfl (nb rfl) rfl rfl rfl rfl ?_ | refine bJ tabOk rfl rfl rfl rfl rfl rfl rfl rfl rfl rfl rfl ?_ | refine bG tabOk rfl rfl rfl (nb rfl) rfl rfl rfl rfl (by first | assumption | omega) ?_) | (refine aN ?_;  first | refine aH ?_ | refine aQ ?_ | refine aY ?_))
    have hTs : ∀ j (hj : j < c.kids.length), Tree.ivs ((c.kids.take (j + 1)).map fun x => growT l f x.toNat) = Tree.ivs ((c.kids.take j).map fun x => growT l f x.toNat) ++ [(growT l f (c.kids[j]).toNat).iv] := fun j hj => by
      rw [List.take_succ_eq_append_getElem hj, List.map_append, List.map_singleton, aAE]
    refine dH (dU (h0 := 22) (k0 := 4) 500 25 1 rfl rfl (by simp) rfl rfl) ?_
    refine cI (ι := {j : Nat // j ≤ c.kids.length}) (fun j => S.f ⟨[(7, .imm (.lit (.int .i64 (j.1 : Int)))), (6, .obj 22 0), (5, .obj 5 0), (2, .imm (.ptr [.sl false l.length (cellIVs l)] 0))], [(500, .arr 25 1 j.1 (Tree.ivs ((c.kids.take j.1).map fun x => growT l f x.toNat))), (22, .cells [.imm (.lit (.int .i64 c.k)), .imm (.lit (.int .i64 c.n)), .imm (.lit (.string c.a)), .imm (.lit (.string c.b)), .ref 500 j.1]), (5, .cells [.imm (.lit (.int .i64 c.k)), .imm (.lit (.int .i64 c.n)), .imm (.lit (.string c.a)), .imm (.lit (.string c.b)), .imm (.sl c.f c.kids.length (intIVs c.kids))])]⟩) (fun j => c.kids.length - j.1) ⟨0, Nat.zero_le _⟩ (cA (by repeat' first | exact trivial | refine ⟨rfl, ?_⟩) (by repeat' first | exact trivial | refine ⟨rfl, ?_⟩)) ?_
    rintro ⟨j, hj⟩
    dsimp only
    by_cases hlt : j < c.kids.length
    · have hx := hbi c.kids[j] (List.getElem_mem hlt)
      have hcall := ih (c.kids[j]).toNat (by omega) (by omega)
      have hxe : ((c.kids[j]).toNat : Int) = c.kids[j] := Int.toNat_of_nonneg hx.1
      rw [hxe] at hcall
      obtain ⟨pc, hpc⟩ := yX l f (c.kids[j]).toNat (by omega) (by omega)
      have hTj := hTs j hlt
      rw [hpc] at hcall hTj
      repeat' (first | refine aG ?_ | (refine aI ?_;  first | refine aD tabOk rfl rfl rfl (nb rfl) rfl ?_ | (refine aM rfl rfl rfl (nb rfl) rfl rfl rfl (fun hq => ?_) (fun hq => ?_) <;> (first | (simp only [sD, sE, sB, sC, sN, sM, sT, sF] at hq; try (exfalso; omega)) | skip)) | refine aE rfl rfl (nb rfl) rfl rfl rfl rfl (hcall) ?_ | refine bC tabOk rfl rfl rfl (nb rfl) rfl rfl rfl (oP _ _ hlt) ?_ | refine dF tabOk rfl rfl rfl (nb rfl) rfl rfl rfl rfl rfl rfl rfl (by first | omega | decide) rfl (by first | omega | (dsimp only; omega)) (by first | omega | (dsimp only; omega)) ?_ | refine bP rfl rfl rfl (nb rfl) rfl rfl (by omega) ?_ | refine cH tabOk rfl rfl rfl (nb rfl) rfl rfl rfl rfl rfl rfl rfl rfl rfl ?_ | refine bB tabOk rfl rfl (nb rfl) rfl ?_ | refine bO tabOk rfl rfl rfl (nb rfl) rfl rfl rfl rfl ?_ | refine bJ tabOk rfl rfl rfl rfl rfl rfl rfl rfl rfl rfl rfl ?_ | refine bG tabOk rfl rfl rfl (nb rfl) rfl rfl rfl rfl (by first | assumption | omega) ?_) | (refine aN ?_;  first | refine aH ?_ | refine aQ ?_ | refine bH ?_ | refine aY ?_ | refine aU ?_ | refine aA (b := true) rfl (fun _ => ?_) nTf | refine aW mixed (by kernel_rfl) ?_) | (refine aK ?_;  first | refine aX ?_) | (refine bA ?_;  first | refine bU ?_) | refine bQ (bL (by kernel_rfl)) ?_)
      refine ⟨⟨j + 1, hlt⟩, (by show c.kids.length - (j + 1) < c.kids.length - j; omega), ?_⟩
      dsimp only
      rw [hTj]
      exact (cA (by repeat' first | exact trivial | refine ⟨rfl, ?_⟩) (by repeat' first | exact trivial | refine ⟨rfl, ?_⟩))
    · have ej : j = c.kids.length := by omega
      subst ej
      repeat' (first | refine aG ?_ | (refine aI ?_;  first | refine aD tabOk rfl rfl rfl (nb rfl) rfl ?_ | (refine aM rfl rfl rfl (nb rfl) rfl rfl rfl (fun hq => ?_) (fun hq => ?_) <;> (first | (simp only [sD, sE, sB, sC, sN, sM, sT, sF] at hq; try (exfalso; omega)) | skip)) | refine bB tabOk rfl rfl (nb rfl) rfl ?_ | refine bO tabOk rfl rfl rfl (nb rfl) rfl rfl rfl rfl ?_) | (refine aN ?_;  first | refine aH ?_ | refine aQ ?_ | refine aT ?_ | refine bW ?_ | refine aA (b := false) rfl nFt (fun _ => ?_)) | (refine aK ?_;  first | refine aX ?_ | refine bM ?_) | (refine bA ?_;  first | refine bI ?_))
      have hlen : (c.kids.map fun x => growT l f x.toNat).length = c.kids.length := by simp
      rw [List.take_length]
      refine eH ((Imp.of_le (σ' := S.f ⟨[(4, .obj 22 0)], [(500, .arr 25 1 c.kids.length (Tree.ivs (c.kids.map fun x => growT l f x.toNat))), (22, .cells [.imm (.lit (.int .i64 c.k)), .imm (.lit (.int .i64 c.n)), .imm (.lit (.string c.a)), .imm (.lit (.string c.b)), .ref 500 c.kids.length])]⟩) (cA (by repeat' first | exact trivial | refine ⟨rfl, ?_⟩) (by repeat' first | exact trivial | refine ⟨rfl, ?_⟩))).trans ((dC (g := 500) rfl (by repeat' first | exact trivial | exact fun _ => rfl | refine ⟨?_, ?_⟩) (by repeat' first | exact trivial | exact fun _ => rfl | refine ⟨?_, ?_⟩)).trans (dI (g := 22) rfl rfl))) ?_
      refine aV (by first | exact .inl rfl | exact .inr rfl) (aZ rfl (aC rfl)) rfl ?_
      show AV.imm _ = AV.imm _
      rw [Tree.iv, hlen]
      rfl
end Go.Proofs.YtdajnmffoopcaaaGreatDoor.Ab
namespace Go.Proofs.YtdajnmffoopcaaaGreatDoor.Ab
set_option linter.unusedVariables false
set_option linter.unusedSimpArgs false
open Go.RowKit
attribute [local irreducible] AWP AOps AExit AThen ABlock ANoGoto FeetOk
def allK : List CellD → List Int
  | [] => []
  | c :: l => c.kids ++ allK l
theorem tR : ∀ l m : List CellD, allK (l ++ m) = allK l ++ allK m
  | [], m => rfl
  | c :: l, m => by rw [List.cons_append, allK, allK, tR l m, List.append_assoc]
theorem qI (l : List CellD) (i : Nat) (h : i < l.length) : allK (l.take (i + 1)) = allK (l.take i) ++ l[i].kids := by
  rw [List.take_succ_eq_append_getElem h, tR]
  simp [allK]
theorem tS (K : Nat) : ∀ l : List CellD, (∀ c ∈ l, c.kids.length ≤ K) → (allK l).length ≤ l.length * K
  | [], _ => by simp [allK]
  | c :: l, h => by
    have h1 := h c List.mem_cons_self
    have h2 := tS K l (fun d hd => h d (List.mem_cons_of_mem _ hd))
    rw [allK, List.length_append, List.length_cons, Nat.add_mul]
    omega
def cntIVs (n : Nat) (l : List Int) : List IV := (List.range n).map fun (j : Nat) => .lit (.int .i64 ((l.count (j : Int) : Nat) : Int))
theorem aAF (n : Nat) : List.replicate n (IV.lit (.int .i64 0)) = cntIVs n [] := by
  apply List.ext_getElem
  · simp [cntIVs]
  · intro i h1 h2
    simp [cntIVs]
theorem xK (n : Nat) (l : List Int) (x : Int) (h0 : 0 ≤ x) (h : x < (n : Int)) : (cntIVs n l)[x.toNat * 1]? = some (.lit (.int .i64 ((l.count x : Nat) : Int))) := by
  unfold cntIVs
  rw [Nat.mul_one, List.getElem?_map, List.getElem?_range (by omega)]
  rw [Option.map_some, Int.toNat_of_nonneg h0]
theorem aBT (n : Nat) (l : List Int) (x : Int) (h0 : 0 ≤ x) (h : x < (n : Int)) : (cntIVs n l).set (x.toNat * 1) (.lit (.int .i64 ((l.count x + 1 : Nat) : Int))) = cntIVs n (l ++ [x]) := by
  rw [Nat.mul_one]
  apply List.ext_getElem
  · simp [cntIVs]
  · intro i h1 h2
    rw [List.getElem_set]
    by_cases e : x.toNat = i
    · rw [if_pos e]
      have ex : x = (i : Int) := by omega
      subst ex
      simp [cntIVs, List.count_append]
    · rw [if_neg e]
      have ne : ¬ x = (i : Int) := by omega
      simp [cntIVs, List.count_append, List.count_singleton, ne]
def once (l : List CellD) : Prop := ∀ j : Nat, j < l.length - 1 → (allK l).count (j : Int) = 1
open Classical in
/-- What is made of a row of cells; what is told of it. -/
noncomputable def openR (l : List CellD) : Tree × Int :=
  if l.length = 0 then (.nil, 1) else if 8192 < l.length then (.nil, 3) else if below l ∧ once l then (growT l l.length (l.length - 1), 0) else (.nil, 16)
theorem aBU {l : List CellD} {i k : Nat} (hi : i < l.length) (hk : k < l[i].kids.length) (h : l[i].kids[k] < 0 ∨ (i : Int) ≤ l[i].kids[k]) : ¬ below l := fun hb => by
  have := hb i hi _ (List.getElem_mem hk)
  omega
theorem yY {l : List CellD} {i : Nat} (hi : i < l.length) : (cellIVs l)[i * 5 + 4]? = some (.sl l[i].f l[i].kids.length (intIVs l[i].kids)) := by
  rw [vT l i 4 hi (by omega)]; rfl
set_option maxHeartbeats 16000000 in
set_option maxRecDepth 10000 in
theorem aCw (l : List CellD) (hk : ∀ c ∈ l, c.kids.length ≤ 8192) :
    ACalls Tryz.prog 15 [.imm (.agg [.sl false l.length (cellIVs l)])] [] (.imm (.tup [(openR l).1.iv, .lit (.int .i64 (openR l).2)])) [] := by
  have hR : openR l = openR l := rfl
  conv at hR => rhs; unfold openR
  generalize openR l = R at *
  by_cases h0 : l.length = 0
  · rw [if_pos h0] at hR
    subst hR
    refine aJ Tryz.func15 rfl rfl (nb rfl) rfl ?_
    repeat' (first | refine aG ?_ | (refine aI ?_;  first | refine aD tabOk rfl rfl rfl (nb rfl) rfl ?_ | (refine aM rfl rfl rfl (nb rfl) rfl rfl rfl (fun hq => ?_) (fun hq => ?_) <;> (first | (simp only [sD, sE, sB, sC, sN, sM, sT, sF] at hq; try (exfalso; omega)) | skip)) | refine bB tabOk rfl rfl (nb rfl) rfl ?_) | (refine aN ?_;  first | refine aH ?_ | refine aQ ?_ | refine aT ?_ | refine aA (b := true) rfl (fun _ => ?_) nTf) | (refine aK ?_;  first | refine aR ?_))
    all_goals first
      | (exfalso; omega)
      | (refine aV (by first | exact .inl rfl | exact .inr rfl) (bD rfl (aC rfl) (aC rfl)) rfl ?_; rfl)
  · rw [if_neg h0] at hR
    by_cases h1 : 8192 < l.length
    · rw [if_pos h1] at hR
      subst hR
      refine aJ Tryz.func15 rfl rfl (nb rfl) rfl ?_
      repeat' (first | refine aG ?_ | (refine aI ?_;  first | refine aD tabOk rfl rfl rfl (nb rfl) rfl ?_ | (refine aM rfl rfl rfl (nb rfl) rfl rfl rfl (fun hq => ?_) (fun hq => ?_) <;> (first | (simp only [sD, sE, sB, sC, sN, sM, sT, sF] at hq; try (exfalso; omega)) | skip)) | refine bB tabOk rfl rfl (nb rfl) rfl ?_) | (refine aN ?_;  first | refine aH ?_ | refine aQ ?_ | refine aT ?_ | refine aU ?_ | refine aA (b := true) rfl (fun _ => ?_) nTf | refine aA (b := false) rfl nFt (fun _ => ?_)) | (refine aK ?_;  first | refine aX ?_ | refine aR ?_))
      all_goals first
        | (exfalso; omega)
        | (refine aV (by first | exact .inl rfl | exact .inr rfl) (bD rfl (aC rfl) (aC rfl)) rfl ?_; rfl)
    · rw [if_neg h1] at hR
      have hbad : ¬ (below l ∧ once l) → R = (.nil, 16) := fun h => by rw [hR, if_neg h]
      have hgood : below l ∧ once l → R = (growT l l.length (l.length - 1), 0) := fun h => by rw [hR, if_pos h]
      clear hR
      have hcz := aAF l.length
      have hlimit : ∀ m : List Int, m.length ≤ 67108864 → ∀ x, m.count x < 9223372036854775807 := fun m hm x => by
        have := List.count_le_length (l := m) (a := x)
        omega
      have hpre : ∀ i, (allK (l.take i)).length ≤ l.length * 8192 := fun i => Nat.le_trans (tS 8192 _ (fun c hc => hk c (List.mem_of_mem_take hc))) (Nat.mul_le_mul_right _ (by rw [List.length_take]; omega))
      refine aJ Tryz.func15 rfl rfl (nb rfl) rfl ?_
      repeat' (first | refine aG ?_ | (refine aI ?_;  first | refine aD tabOk rfl rfl rfl (nb rfl) rfl ?_ | (refine aM rfl rfl rfl (nb rfl) rfl rfl rfl (fun hq => ?_) (fun hq => ?_) <;> (first | (simp only [sD, sE, sB, sC, sN, sM, sT, sF] at hq; try (exfalso; omega)) | skip)) | refine oG 600 tabOk rfl rfl rfl (nb rfl) rfl rfl rfl rfl rfl rfl rfl (by simp only [slMax]; omega) (by dsimp only; omega) (by simp) rfl rfl ?_ | refine bB tabOk rfl rfl (nb rfl) rfl ?_) | (refine aN ?_;  first | refine aH ?_ | refine aQ ?_ | refine aY ?_ | refine aU ?_ | refine aA (b := false) rfl nFt (fun _ => ?_)) | (refine aK ?_;  first | refine aX ?_))
      all_goals first | (exfalso; omega) | skip
      rw [hcz]
      refine cI (ι := {i : Nat // i ≤ l.length ∧ ∀ j (h : j < l.length), j < i → ∀ x ∈ l[j].kids, 0 ≤ x ∧ x < (j : Int)}) (fun i => S.f ⟨[(6, .imm (.lit (.int .i64 (i.1 : Int)))), (5, .ref 600 l.length), (4, .imm (.lit (.int .i64 (l.length : Int)))), (1, .imm (.ptr [.sl false l.length (cellIVs l)] 0))], [(600, .arr 3 1 l.length (cntIVs l.length (allK (l.take i.1))))]⟩) (fun i => l.length - i.1) ⟨0, Nat.zero_le _, fun j h h2 => by omega⟩ (cA (by repeat' first | exact trivial | refine ⟨rfl, ?_⟩) (by repeat' first | exact trivial | refine ⟨rfl, ?_⟩)) ?_
      rintro ⟨i, hi, hpr⟩
      dsimp only
      by_cases hil : i < l.length
      · have hck := yY hil
        have hki := hk _ (List.getElem_mem hil)
        have hstep := qI l i hil
        repeat' (first | refine aG ?_ | (refine aI ?_;  first | refine aD tabOk rfl rfl rfl (nb rfl) rfl ?_ | (refine aM rfl rfl rfl (nb rfl) rfl rfl rfl (fun hq => ?_) (fun hq => ?_) <;> (first | (simp only [sD, sE, sB, sC, sN, sM, sT, sF] at hq; try (exfalso; omega)) | skip))) | (refine aN ?_;  first | refine aH ?_ | refine aQ ?_ | refine aY ?_ | refine aU ?_ | refine aA (b := true) rfl (fun _ => ?_) nTf) | (refine aK ?_;  first | refine aX ?_))
        have e0 : cntIVs l.length (allK (l.take i)) = cntIVs l.length (allK (l.take i) ++ l[i].kids.take 0) := by rw [List.take_zero, List.append_nil]
        rw [e0]
        refine cI (ι := {k : Nat // k ≤ l[i].kids.length ∧ ∀ x ∈ l[i].kids.take k, 0 ≤ x ∧ x < (i : Int)}) (fun k => S.f ⟨[(7, .imm (.lit (.int .i64 (k.1 : Int)))), (6, .imm (.lit (.int .i64 (i : Int)))), (5, .ref 600 l.length), (4, .imm (.lit (.int .i64 (l.length : Int)))), (1, .imm (.ptr [.sl false l.length (cellIVs l)] 0))], [(600, .arr 3 1 l.length (cntIVs l.length (allK (l.take i) ++ l[i].kids.take k.1)))]⟩) (fun k => l[i].kids.length - k.1) ⟨0, Nat.zero_le _, fun x hx => by rw [List.take_zero] at hx; cases hx⟩ (cA (by repeat' first | exact trivial | refine ⟨rfl, ?_⟩) (by repeat' first | exact trivial | refine ⟨rfl, ?_⟩)) ?_
        rintro ⟨k, hkk, hkr⟩
        dsimp only
        by_cases hkl : k < l[i].kids.length
        · have hix := oP l[i].kids k hkl
          have hbk := @aBU l i k hil hkl
          have hnx : l[i].kids.take (k + 1) = l[i].kids.take k ++ [l[i].kids[k]] := List.take_succ_eq_append_getElem hkl
          have hpk : (allK (l.take i) ++ l[i].kids.take k).length ≤ 67108864 := by
            have := hpre i
            have h2 : l.length * 8192 ≤ 8192 * 8192 := Nat.mul_le_mul_right _ (by omega)
            have h3 : allK (l.take (i + 1)) = allK (l.take i) ++ l[i].kids := hstep
            have h4 := hpre (i + 1)
            rw [h3, List.length_append] at h4
            rw [List.length_append, List.length_take]
            omega
          have hcl := hlimit _ hpk l[i].kids[k]
          by_cases hx : 0 ≤ l[i].kids[k] ∧ l[i].kids[k] < (i : Int)
          · have hg1 := xK l.length (allK (l.take i) ++ l[i].kids.take k) l[i].kids[k] hx.1 (by omega)
            have hs1 := aBT l.length (allK (l.take i) ++ l[i].kids.take k) l[i].kids[k] hx.1 (by omega)
            have hxe : l[i].kids[k] = ((l[i].kids[k]).toNat : Int) := (Int.toNat_of_nonneg hx.1).symm
            have hxl : (l[i].kids[k]).toNat < l.length := by omega
            have hkr2 : ∀ x ∈ l[i].kids.take (k + 1), 0 ≤ x ∧ x < (i : Int) := fun x hm => by
              rw [hnx, List.mem_append] at hm
              rcases hm with hm | hm
              · exact hkr x hm
              · rw [List.mem_singleton.1 hm]; exact hx
            rw [List.append_assoc, ← hnx] at hs1
            generalize (allK (l.take i) ++ l[i].kids.take k).count l[i].kids[k] = cn at *
            repeat' (first | refine aG ?_ | (refine aI ?_;  first | refine aD tabOk rfl rfl rfl (nb rfl) rfl ?_ | (refine aM rfl rfl rfl (nb rfl) rfl rfl rfl (fun hq => ?_) (fun hq => ?_) <;> (first | (simp only [sD, sE, sB, sC, sN, sM, sT, sF] at hq; try (exfalso; omega)) | skip)) | refine bC tabOk rfl rfl rfl (nb rfl) rfl rfl rfl hck ?_ | refine bC tabOk rfl rfl rfl (nb rfl) rfl rfl rfl hix ?_ | refine gL tabOk rfl rfl rfl (nb rfl) rfl rfl rfl rfl rfl rfl hxe hxl ?_ | refine iV tabOk rfl rfl rfl (nb rfl) rfl rfl rfl rfl (by omega) hg1 ?_ | refine bP rfl rfl rfl (nb rfl) rfl rfl hcl ?_ | refine rJ tabOk rfl rfl rfl rfl rfl rfl rfl rfl rfl rfl (by omega) (by show (l[i].kids[k]).toNat * 1 < l.length * 1; omega) ?_ | refine bP rfl rfl rfl (nb rfl) rfl rfl (by omega) ?_ | refine bB tabOk rfl rfl (nb rfl) rfl ?_ | refine bG tabOk rfl rfl rfl (nb rfl) rfl rfl rfl rfl (by first | assumption | omega) ?_) | (refine aN ?_;  first | refine aH ?_ | refine aQ ?_ | refine bH ?_ | refine aY ?_ | refine aU ?_ | refine aA (b := true) rfl (fun _ => ?_) nTf | refine aA (b := false) rfl nFt (fun _ => ?_)) | (refine aK ?_;  first | refine aX ?_) | (refine bA ?_;  first | refine bU ?_))
            all_goals first | (exfalso; omega) | skip
            refine ⟨⟨k + 1, hkl, hkr2⟩, (by show l[i].kids.length - (k + 1) < l[i].kids.length - k; omega), ?_⟩
            dsimp only
            rw [← hs1]
            exact (cA (by repeat' first | exact trivial | refine ⟨rfl, ?_⟩) (by repeat' first | exact trivial | refine ⟨rfl, ?_⟩))
          · have e := hbad (fun h => hbk (by omega) h.1)
            subst e
            repeat' (first | refine aG ?_ | (refine aI ?_;  first | refine aD tabOk rfl rfl rfl (nb rfl) rfl ?_ | refine bE rfl rfl (nb rfl) ?_ | (refine aM rfl rfl rfl (nb rfl) rfl rfl rfl (fun hq => ?_) (fun hq => ?_) <;> (first | (simp only [sD, sE, sB, sC, sN, sM, sT, sF] at hq; try (exfalso; omega)) | skip)) | refine bC tabOk rfl rfl rfl (nb rfl) rfl rfl rfl hck ?_ | refine bC tabOk rfl rfl rfl (nb rfl) rfl rfl rfl hix ?_ | refine bB tabOk rfl rfl (nb rfl) rfl ?_ | refine bG tabOk rfl rfl rfl (nb rfl) rfl rfl rfl rfl (by first | assumption | omega) ?_) | (refine aN ?_;  first | refine aH ?_ | refine aQ ?_ | refine aY ?_ | refine aT ?_ | refine aU ?_ | refine aA (b := true) rfl (fun _ => ?_) nTf) | (refine aK ?_;  first | refine aX ?_ | refine aR ?_) | (refine bA ?_;  first | refine bF ?_))
            all_goals first
              | (exfalso; omega)
              | (refine aV (by first | exact .inl rfl | exact .inr rfl) (bD rfl (aC rfl) (aC rfl)) rfl ?_; rfl)
        · have ek : k = l[i].kids.length := by omega
          subst ek
          rw [List.take_length] at *
          rw [← hstep]
          have hpr2 : ∀ j (h : j < l.length), j < i + 1 → ∀ x ∈ l[j].kids, 0 ≤ x ∧ x < (j : Int) := fun j h hj x hx => by
            rcases Nat.lt_or_ge j i with h2 | h2
            · exact hpr j h h2 x hx
            · have e : j = i := by omega
              subst e
              exact hkr x hx
          repeat' (first | refine aG ?_ | (refine aI ?_;  first | refine aD tabOk rfl rfl rfl (nb rfl) rfl ?_ | (refine aM rfl rfl rfl (nb rfl) rfl rfl rfl (fun hq => ?_) (fun hq => ?_) <;> (first | (simp only [sD, sE, sB, sC, sN, sM, sT, sF] at hq; try (exfalso; omega)) | skip)) | refine bC tabOk rfl rfl rfl (nb rfl) rfl rfl rfl hck ?_ | refine bP rfl rfl rfl (nb rfl) rfl rfl (by omega) ?_ | refine bB tabOk rfl rfl (nb rfl) rfl ?_ | refine bG tabOk rfl rfl rfl (nb rfl) rfl rfl rfl rfl (by first | assumption | omega) ?_) | (refine aN ?_;  first | refine aH ?_ | refine aQ ?_ | refine bH ?_ | refine bW ?_ | refine aA (b := false) rfl nFt (fun _ => ?_)) | (refine aK ?_;  first | refine aX ?_ | refine bM ?_) | (refine bA ?_;  first | refine bU ?_ | refine bI ?_))
          all_goals first
            | (exfalso; omega)
            | exact ⟨⟨i + 1, hil, hpr2⟩, (by show l.length - (i + 1) < l.length - i; omega), (cA (by repeat' first | exact trivial | refine ⟨rfl, ?_⟩) (by repeat' first | exact trivial | refine ⟨rfl, ?_⟩))⟩
      · have ei : i = l.length := by omega
        subst ei
        have hbl : below l := fun j h x hx => hpr j h h x hx
        rw [List.take_length]
        repeat' (first | refine aG ?_ | (refine aI ?_;  first | refine aD tabOk rfl rfl rfl (nb rfl) rfl ?_ | (refine aM rfl rfl rfl (nb rfl) rfl rfl rfl (fun hq => ?_) (fun hq => ?_) <;> (first | (simp only [sD, sE, sB, sC, sN, sM, sT, sF] at hq; try (exfalso; omega)) | skip))) | (refine aN ?_;  first | refine aH ?_ | refine aQ ?_ | refine aY ?_ | refine bW ?_ | refine aA (b := false) rfl nFt (fun _ => ?_)) | (refine aK ?_;  first | refine aX ?_ | refine bM ?_) | (refine bA ?_;  first | refine bI ?_))
        refine cI (ι := {j : Nat // j ≤ l.length - 1 ∧ ∀ q : Nat, q < j → (allK l).count (q : Int) = 1}) (fun j => S.f ⟨[(9, .imm (.lit (.int .i64 (j.1 : Int)))), (5, .ref 600 l.length), (4, .imm (.lit (.int .i64 (l.length : Int)))), (1, .imm (.ptr [.sl false l.length (cellIVs l)] 0))], [(600, .arr 3 1 l.length (cntIVs l.length (allK l)))]⟩) (fun j => l.length - j.1) ⟨0, Nat.zero_le _, fun q h => by omega⟩ (cA (by repeat' first | exact trivial | refine ⟨rfl, ?_⟩) (by repeat' first | exact trivial | refine ⟨rfl, ?_⟩)) ?_
        rintro ⟨j, hj, hone⟩
        dsimp only
        by_cases hjl : j < l.length - 1
        · have hg1 : (cntIVs l.length (allK l))[j * 1]? = some (.lit (.int .i64 (((allK l).count (j : Int) : Nat) : Int))) := xK l.length (allK l) (j : Int) (by omega) (by omega)
          by_cases hc1 : (allK l).count (j : Int) = 1
          · rw [hc1] at hg1
            have hone2 : ∀ q : Nat, q < j + 1 → (allK l).count (q : Int) = 1 := fun q hq => by
              rcases Nat.lt_or_ge q j with h2 | h2
              · exact hone q h2
              · have e : q = j := by omega
                subst e
                exact hc1
            repeat' (first | refine aG ?_ | (refine aI ?_;  first | refine aD tabOk rfl rfl rfl (nb rfl) rfl ?_ | (refine aM rfl rfl rfl (nb rfl) rfl rfl rfl (fun hq => ?_) (fun hq => ?_) <;> (first | (simp only [sD, sE, sB, sC, sN, sM, sT, sF] at hq; try (exfalso; omega)) | skip)) | refine gL tabOk rfl rfl rfl (nb rfl) rfl rfl rfl rfl rfl rfl rfl (by omega) ?_ | refine iV tabOk rfl rfl rfl (nb rfl) rfl rfl rfl rfl (by omega) hg1 ?_ | refine bP rfl rfl rfl (nb rfl) rfl rfl (by omega) ?_ | refine bV rfl rfl rfl (nb rfl) rfl rfl rfl (by omega) (by omega) ?_) | (refine aN ?_;  first | refine aH ?_ | refine aQ ?_ | refine bH ?_ | refine aY ?_ | refine aU ?_ | refine aA (b := true) rfl (fun _ => ?_) nTf | refine aA (b := false) rfl nFt (fun _ => ?_)) | (refine aK ?_;  first | refine aX ?_) | (refine bA ?_;  first | refine bU ?_))
            all_goals first
              | (exfalso; omega)
              | exact absurd rfl (by assumption)
              | exact ⟨⟨j + 1, hjl, hone2⟩, (by show l.length - (j + 1) < l.length - j; omega), (cA (by repeat' first | exact trivial | refine ⟨rfl, ?_⟩) (by repeat' first | exact trivial | refine ⟨rfl, ?_⟩))⟩
          · have e := hbad (fun h => hc1 (h.2 j hjl))
            subst e
            repeat' (first | refine aG ?_ | (refine aI ?_;  first | refine aD tabOk rfl rfl rfl (nb rfl) rfl ?_ | (refine aM rfl rfl rfl (nb rfl) rfl rfl rfl (fun hq => ?_) (fun hq => ?_) <;> (first | (simp only [sD, sE, sB, sC, sN, sM, sT, sF] at hq; try (exfalso; omega)) | skip)) | refine gL tabOk rfl rfl rfl (nb rfl) rfl rfl rfl rfl rfl rfl rfl (by omega) ?_ | refine iV tabOk rfl rfl rfl (nb rfl) rfl rfl rfl rfl (by omega) hg1 ?_ | refine bV rfl rfl rfl (nb rfl) rfl rfl rfl (by omega) (by omega) ?_) | (refine aN ?_;  first | refine aH ?_ | refine aQ ?_ | refine aY ?_ | refine aT ?_ | refine aU ?_ | refine aA (b := true) rfl (fun _ => ?_) nTf) | (refine aK ?_;  first | refine aX ?_ | refine aR ?_) | (refine bA ?_;  first | refine bF ?_))
            all_goals first
              | (exfalso; omega)
              | (refine aV (by first | exact .inl rfl | exact .inr rfl) (bD rfl (aC rfl) (aC rfl)) rfl ?_; rfl)
        · have ej : j = l.length - 1 := by omega
          subst ej
          have e := hgood ⟨hbl, hone⟩
          subst e
          have hcall := aCv l hbl (by omega) hk l.length (l.length - 1) (by omega) (by omega)
          repeat' (first | refine aG ?_ | (refine aI ?_;  first | refine aD tabOk rfl rfl rfl (nb rfl) rfl ?_ | (refine aM rfl rfl rfl (nb rfl) rfl rfl rfl (fun hq => ?_) (fun hq => ?_) <;> (first | (simp only [sD, sE, sB, sC, sN, sM, sT, sF] at hq; try (exfalso; omega)) | skip)) | refine bV (z := ((l.length - 1 : Nat) : Int)) rfl rfl rfl (nb rfl) rfl rfl (by omega) (by omega) (by omega) ?_ | refine aE rfl rfl (nb rfl) rfl rfl rfl rfl (hcall) ?_) | (refine aN ?_;  first | refine aH ?_ | refine aQ ?_ | refine aT ?_ | refine bW ?_ | refine aA (b := false) rfl nFt (fun _ => ?_)) | (refine aK ?_;  first | refine aX ?_ | refine bM ?_) | (refine bA ?_;  first | refine bI ?_))
          all_goals first
            | (exfalso; omega)
            | (refine aV (by first | exact .inl rfl | exact .inr rfl) (bD rfl (aC rfl) (aC rfl)) rfl ?_; rfl)
end Go.Proofs.YtdajnmffoopcaaaGreatDoor.Ab
namespace Go.Proofs.YtdajnmffoopcaaaGreatDoor.Ab
set_option linter.unusedVariables false
set_option linter.unusedSimpArgs false
open Go.RowKit
attribute [local irreducible] AWP AOps AExit AThen ABlock ANoGoto FeetOk
theorem jC (n K : Nat) : (if (K : Int) < (n : Int) then (K : Int) else (n : Int)) = ((min n K : Nat) : Int) := by split <;> omega
def cutB (K : Nat) (s : ByteArray) : ByteArray := s.extract 0 (min s.size K)
theorem qJ (K : Nat) (s : ByteArray) : (cutB K s).size ≤ K := by unfold cutB; rw [ByteArray.size_extract]; omega
def fewCell (c : CellD) : CellD := ⟨decide (c.kids.length = 0), c.k, c.n, cutB 165 c.a, cutB 20 c.b, c.kids.take 12⟩
theorem aAG (l : List Int) : IV.sl false (min l.length 12 - 0) (((intIVs l).drop (0 * 1)).take ((min l.length 12 - 0) * 1)) = .sl false (l.take 12).length (intIVs (l.take 12)) := by
  unfold intIVs
  rw [Nat.zero_mul, List.drop_zero, Nat.sub_zero, Nat.mul_one, List.length_take, List.map_take, Nat.min_comm]
  congr 1
  conv => rhs; rw [List.take_eq_take_min, List.length_map]
theorem rS (l : List CellD) (c : CellD) : cellIVs (l ++ [c]) = cellIVs l ++ cellIV c := by
  rw [mM]
  show _ ++ (cellIV c ++ []) = _
  rw [List.append_nil]
def fewCells10 (l : List CellD) : List CellD := (l.take 60).map fewCell
set_option maxHeartbeats 16000000 in
set_option maxRecDepth 10000 in
theorem tT (l : List CellD) (hff : ∀ c ∈ l, c.f = false) : ACalls Tryz.prog 5 [.imm (.agg [.sl false l.length (cellIVs l)])] [] (.imm (openR (fewCells10 l)).1.iv) [] := by
  have hkids : ∀ c ∈ fewCells10 l, c.kids.length ≤ 8192 := fun c hc => by
    unfold fewCells10 at hc
    obtain ⟨d, _, rfl⟩ := List.mem_map.1 hc
    show (d.kids.take 12).length ≤ 8192
    rw [List.length_take]; omega
  have hopen := aCw (fewCells10 l) hkids
  refine aJ Tryz.func5 rfl rfl (nb rfl) rfl ?_
  repeat' (first | refine aG ?_ | (refine aI ?_;  first | refine aD tabOk rfl rfl rfl (nb rfl) rfl ?_ | refine bB tabOk rfl rfl (nb rfl) rfl ?_ | refine cJ tabOk rfl rfl rfl (nb rfl) rfl rfl rfl rfl rfl rfl ?_) | (refine aN ?_;  first | refine aH ?_ | refine aQ ?_ | refine aY ?_))
  refine dH (dU (h0 := 3) (k0 := 0) 500 44 5 rfl rfl (by simp) rfl rfl) ?_
  refine cI (ι := {i : Nat // i ≤ l.length ∧ i ≤ 60}) (fun i => S.f ⟨[(4, .imm (.lit (.int .i64 (i.1 : Int)))), (3, .obj 3 0), (1, .imm (.ptr [.sl false l.length (cellIVs l)] 0))], [(500, .arr 44 5 i.1 (cellIVs ((l.take i.1).map fewCell))), (3, .cells [.ref 500 i.1])]⟩) (fun i => l.length - i.1) ⟨0, Nat.zero_le _, Nat.zero_le _⟩ (cA (by repeat' first | exact trivial | refine ⟨rfl, ?_⟩) (by repeat' first | exact trivial | refine ⟨rfl, ?_⟩)) ?_
  rintro ⟨i, hi, hiK⟩
  dsimp only
  by_cases hgo : i < l.length ∧ i < 60
  · obtain ⟨hil, hik⟩ := hgo
    have hrow := gF l i hil
    have hcf := hff l[i] (List.getElem_mem hil)
    have hnx : cellIVs ((l.take (i + 1)).map fewCell) = cellIVs ((l.take i).map fewCell) ++ cellIV (fewCell l[i]) := by
      rw [List.take_succ_eq_append_getElem hil, List.map_append, List.map_singleton, rS]
    generalize l[i] = c at *
    change _ = [IV.lit (.int .i64 c.k), .lit (.int .i64 c.n), .lit (.string c.a), .lit (.string c.b), .sl c.f c.kids.length (intIVs c.kids)] at hrow
    rw [hcf] at hrow
    have hkc := aAG c.kids
    by_cases hz : c.kids.length = 0
    · have hk0 : c.kids = [] := List.eq_nil_of_length_eq_zero hz
      have hfc : cellIV (fewCell c) = [IV.lit (.int .i64 c.k), .lit (.int .i64 c.n), .lit (.string (cutB 165 c.a)), .lit (.string (cutB 20 c.b)), .sl true 0 []] := by
        unfold fewCell cellIV
        rw [hk0]
        rfl
      rw [hk0] at hrow hkc
      rw [hfc] at hnx
      repeat' (first | refine aG ?_ | (refine aI ?_;  first | refine aD tabOk rfl rfl rfl (nb rfl) rfl ?_ | (refine aM rfl rfl rfl (nb rfl) rfl rfl rfl (fun hq => ?_) (fun hq => ?_) <;> (first | (simp only [sD, sE, sB, sC, sN, sM, sT, sF] at hq; try (exfalso; omega)) | skip)) | refine kJ tabOk rfl rfl rfl (nb rfl) rfl rfl rfl hrow rfl ?_ | refine fW rfl rfl rfl (nb rfl) rfl rfl (jC c.a.size 165) ?_ | refine fW rfl rfl rfl (nb rfl) rfl rfl (jC c.b.size 20) ?_ | refine fW (r := 0) rfl rfl rfl (nb rfl) rfl rfl rfl ?_ | refine fV (l := 0) (h := min c.a.size 165) (r := cutB 165 c.a) tabOk rfl rfl rfl (nb rfl) rfl rfl rfl rfl (by omega) (by omega) rfl ?_ | refine fV (l := 0) (h := min c.b.size 20) (r := cutB 20 c.b) tabOk rfl rfl rfl (nb rfl) rfl rfl rfl rfl (by omega) (by omega) rfl ?_ | refine oD (l := 0) (h := 0) tabOk rfl rfl rfl (nb rfl) rfl rfl rfl rfl rfl (Nat.le_refl _) (Nat.zero_le _) rfl ?_ | refine rI tabOk rfl rfl rfl (nb rfl) rfl rfl rfl rfl ?_ | refine dF tabOk rfl rfl rfl (nb rfl) rfl rfl rfl rfl rfl rfl rfl (by first | omega | decide) rfl (by first | omega | (dsimp only; omega)) (by first | omega | (dsimp only; omega)) ?_ | refine bP rfl rfl rfl (nb rfl) rfl rfl (by omega) ?_ | refine cH tabOk rfl rfl rfl (nb rfl) rfl rfl rfl rfl rfl rfl rfl rfl rfl ?_ | refine bB tabOk rfl rfl (nb rfl) rfl ?_ | refine cJ tabOk rfl rfl rfl (nb rfl) rfl rfl rfl rfl rfl rfl ?_ | refine bO tabOk rfl rfl rfl (nb rfl) rfl rfl rfl rfl ?_ | refine bJ tabOk rfl rfl rfl rfl rfl rfl rfl rfl rfl rfl rfl ?_ | refine bG tabOk rfl rfl rfl (nb rfl) rfl rfl rfl rfl (by first | assumption | omega) ?_) | (refine aN ?_;  first | refine aH ?_ | refine aQ ?_ | refine bH ?_ | refine aY ?_ | refine aU ?_ | refine aA (b := true) rfl (fun _ => ?_) nTf | refine aW mixed (by kernel_rfl) ?_) | (refine aK ?_;  first | refine aX ?_) | (refine bA ?_;  first | refine bU ?_) | refine bQ (bL (by kernel_rfl)) ?_)
      refine ⟨⟨i + 1, hil, hik⟩, (by show l.length - (i + 1) < l.length - i; omega), ?_⟩
      dsimp only
      rw [hnx]
      exact (cA (by repeat' first | exact trivial | refine ⟨rfl, ?_⟩) (by repeat' first | exact trivial | refine ⟨rfl, ?_⟩))
    · have hfc : cellIV (fewCell c) = [IV.lit (.int .i64 c.k), .lit (.int .i64 c.n), .lit (.string (cutB 165 c.a)), .lit (.string (cutB 20 c.b)), .sl false (0 + (c.kids.take 12).length) (intIVs (c.kids.take 12))] := by
        unfold fewCell cellIV
        dsimp only
        rw [decide_eq_false hz, Nat.zero_add]
      have hkl : 0 < (c.kids.take 12).length := by rw [List.length_take]; omega
      have hkl2 : (c.kids.take 12).length ≤ 12 := by rw [List.length_take]; omega
      have hil2 := vS (c.kids.take 12)
      rw [hfc] at hnx
      repeat' (first | refine aG ?_ | (refine aI ?_;  first | refine aD tabOk rfl rfl rfl (nb rfl) rfl ?_ | (refine aM rfl rfl rfl (nb rfl) rfl rfl rfl (fun hq => ?_) (fun hq => ?_) <;> (first | (simp only [sD, sE, sB, sC, sN, sM, sT, sF] at hq; try (exfalso; omega)) | skip)) | refine kJ tabOk rfl rfl rfl (nb rfl) rfl rfl rfl hrow rfl ?_ | refine fW rfl rfl rfl (nb rfl) rfl rfl (jC c.a.size 165) ?_ | refine fW rfl rfl rfl (nb rfl) rfl rfl (jC c.b.size 20) ?_ | refine fV (l := 0) (h := min c.a.size 165) (r := cutB 165 c.a) tabOk rfl rfl rfl (nb rfl) rfl rfl rfl rfl (by omega) (by omega) rfl ?_ | refine fV (l := 0) (h := min c.b.size 20) (r := cutB 20 c.b) tabOk rfl rfl rfl (nb rfl) rfl rfl rfl rfl (by omega) (by omega) rfl ?_ | refine fW rfl rfl rfl (nb rfl) rfl rfl (jC c.kids.length 12) ?_ | refine oD (l := 0) (h := min c.kids.length 12) tabOk rfl rfl rfl (nb rfl) rfl rfl rfl rfl rfl (Nat.zero_le _) (by omega) hkc ?_ | refine nA (zs := intIVs (c.kids.take 12)) tabOk rfl rfl rfl (nb rfl) rfl rfl rfl rfl (.inl rfl) rfl rfl hkl (by rw [hil2]; exact (Nat.mul_one _).symm) (by omega) (by dsimp only; omega) rfl ?_ | refine dF tabOk rfl rfl rfl (nb rfl) rfl rfl rfl rfl rfl rfl rfl (by first | omega | decide) rfl (by first | omega | (dsimp only; omega)) (by first | omega | (dsimp only; omega)) ?_ | refine bP rfl rfl rfl (nb rfl) rfl rfl (by omega) ?_ | refine cH tabOk rfl rfl rfl (nb rfl) rfl rfl rfl rfl rfl rfl rfl rfl rfl ?_ | refine bB tabOk rfl rfl (nb rfl) rfl ?_ | refine cJ tabOk rfl rfl rfl (nb rfl) rfl rfl rfl rfl rfl rfl ?_ | refine bO tabOk rfl rfl rfl (nb rfl) rfl rfl rfl rfl ?_ | refine bJ tabOk rfl rfl rfl rfl rfl rfl rfl rfl rfl rfl rfl ?_ | refine bG tabOk rfl rfl rfl (nb rfl) rfl rfl rfl rfl (by first | assumption | omega) ?_) | (refine aN ?_;  first | refine aH ?_ | refine aQ ?_ | refine bH ?_ | refine aY ?_ | refine aU ?_ | refine aA (b := true) rfl (fun _ => ?_) nTf | refine aW mixed (by kernel_rfl) ?_) | (refine aK ?_;  first | refine aX ?_) | (refine bA ?_;  first | refine bU ?_) | refine bQ (bL (by kernel_rfl)) ?_)
      refine ⟨⟨i + 1, hil, hik⟩, (by show l.length - (i + 1) < l.length - i; omega), ?_⟩
      dsimp only
      rw [hnx]
      exact (cA (by repeat' first | exact trivial | refine ⟨rfl, ?_⟩) (by repeat' first | exact trivial | refine ⟨rfl, ?_⟩))
  · have htk : (l.take i).map fewCell = fewCells10 l := by
      unfold fewCells10
      congr 1
      by_cases hK : i = 60
      · rw [hK]
      · rw [List.take_of_length_le (by omega), List.take_of_length_le (by omega)]
    have hfl : i = (fewCells10 l).length := by rw [← htk, List.length_map, List.length_take]; omega
    rw [htk]
    refine dH ((Imp.of_le (σ' := S.f ⟨[(4, .imm (.lit (.int .i64 (i : Int)))), (3, .obj 3 0), (1, .imm (.ptr [.sl false l.length (cellIVs l)] 0))], [(500, .arr 44 5 (fewCells10 l).length (cellIVs (fewCells10 l))), (3, .cells [.ref 500 (fewCells10 l).length])]⟩) (by rw [← hfl]; exact (cA (by repeat' first | exact trivial | refine ⟨rfl, ?_⟩) (by repeat' first | exact trivial | refine ⟨rfl, ?_⟩)))).trans (dC (g := 500) rfl (by repeat' first | exact trivial | exact fun _ => rfl | refine ⟨?_, ?_⟩) (by repeat' first | exact trivial | exact fun _ => rfl | refine ⟨?_, ?_⟩))) ?_
    generalize fewCells10 l = L at *
    generalize openR L = R at *
    obtain ⟨R1, R2⟩ := R
    dsimp only at *
    repeat' (first | refine aG ?_ | (refine aI ?_;  first | refine aD tabOk rfl rfl rfl (nb rfl) rfl ?_ | refine bE rfl rfl (nb rfl) ?_ | (refine aM rfl rfl rfl (nb rfl) rfl rfl rfl (fun hq => ?_) (fun hq => ?_) <;> (first | (simp only [sD, sE, sB, sC, sN, sM, sT, sF] at hq; try (exfalso; omega)) | skip)) | refine aE rfl rfl (nb rfl) rfl rfl rfl rfl (hopen) ?_ | refine bB tabOk rfl rfl (nb rfl) rfl ?_ | refine bO tabOk rfl rfl rfl (nb rfl) rfl rfl rfl rfl ?_) | (refine aN ?_;  first | refine aH ?_ | refine aQ ?_ | refine aT ?_ | refine bW ?_ | refine aA (b := false) rfl nFt (fun _ => ?_)) | (refine aK ?_;  first | refine aX ?_ | refine bM ?_) | (refine bA ?_;  first | refine bI ?_))
    all_goals first
      | exact cL (by first | exact .inl rfl | exact .inr rfl) (aZ rfl (aC rfl)) rfl
      | (exfalso; omega)
end Go.Proofs.YtdajnmffoopcaaaGreatDoor.Ab
namespace Go.Proofs.YtdajnmffoopcaaaGreatDoor.Ab
set_option linter.unusedVariables false
set_option linter.unusedSimpArgs false
open Go.RowKit
theorem oQ (l : List CellD) (hb : below l) : ∀ (f f' i : Nat), i < f → i < f' → i < l.length → growT l f i = growT l f' i
  | 0, _, _, h, _, _ => by omega
  | f + 1, 0, _, _, h, _ => by omega
  | f + 1, f' + 1, i, h, h', hi => by
    rw [growT, growT, List.getElem?_eq_getElem hi]
    dsimp only
    congr 1
    refine List.map_congr_left fun x hx => ?_
    have := hb i hi x hx
    exact oQ l hb f f' x.toNat (by omega) (by omega) (by omega)
theorem mN (l : List CellD) (hb : below l) : ∀ (f i : Nat), i < f → i < l.length → (growT l f i).whole = true
  | 0, _, h, _ => by omega
  | f + 1, i, h, hi => by
    rw [growT, List.getElem?_eq_getElem hi]
    show Tree.wholes (List.map _ _) = true
    have key : ∀ ks : List Int, (∀ x ∈ ks, 0 ≤ x ∧ x < (i : Int)) → Tree.wholes (ks.map fun x => growT l f x.toNat) = true := by
      intro ks
      induction ks with
      | nil => intro _; rfl
      | cons x ks ih =>
        intro hk
        have hx := hk x List.mem_cons_self
        rw [List.map_cons, Tree.wholes, mN l hb f x.toNat (by omega) (by omega), ih (fun y hy => hk y (List.mem_cons_of_mem _ hy))]
        rfl
    exact key _ (hb i hi)
theorem qK : ∀ ts : List Tree, Tree.sizes ts = (ts.map Tree.size).sum
  | [] => rfl
  | t :: ts => by rw [Tree.sizes, qK ts]; simp
theorem vU (l : List CellD) (hb : below l) (i : Nat) (hi : i < l.length) : (growT l l.length i).size = 1 + (l[i].kids.map fun x => (growT l l.length x.toNat).size).sum := by
  obtain ⟨f, hf⟩ : ∃ f, l.length = f + 1 := ⟨l.length - 1, by omega⟩
  conv => lhs; rw [hf]
  rw [growT, List.getElem?_eq_getElem hi]
  show 1 + Tree.sizes (List.map _ _) = _
  rw [qK, List.map_map]
  congr 2
  refine List.map_congr_left fun x hx => ?_
  have := hb i hi x hx
  show (growT l f x.toNat).size = _
  rw [oQ l hb f l.length x.toNat (by omega) (by omega) (by omega)]
theorem xL (l : List CellD) (hb : below l) : ∀ n, n ≤ l.length → ((List.range n).map fun i => (growT l l.length i).size).sum = n + ((allK (l.take n)).map fun x => (growT l l.length x.toNat).size).sum
  | 0, _ => by simp [allK]
  | n + 1, h => by
    rw [List.range_succ, List.map_append, List.sum_append, xL l hb n (by omega), qI l n (by omega), List.map_append, List.sum_append, List.map_singleton, List.sum_singleton, vU l hb n (by omega)]
    omega
theorem aAH (l : List CellD) (x : Int) (h : x ∈ allK l) : ∃ i, ∃ hi : i < l.length, x ∈ l[i].kids := by
  induction l with
  | nil => cases h
  | cons c l ih =>
    rw [allK, List.mem_append] at h
    rcases h with h | h
    · exact ⟨0, by simp, h⟩
    · obtain ⟨i, hi, hx⟩ := ih h
      exact ⟨i + 1, by simpa using hi, by simpa using hx⟩
theorem yZ (l : List CellD) (hb : below l) (ho : once l) : List.Perm (allK l) ((List.range (l.length - 1)).map fun (j : Nat) => (j : Int)) := by
  rw [List.perm_iff_count]
  intro a
  by_cases h : 0 ≤ a ∧ a < ((l.length - 1 : Nat) : Int)
  · obtain ⟨j, rfl⟩ : ∃ j : Nat, a = (j : Int) := ⟨a.toNat, by omega⟩
    rw [ho j (by omega)]
    have hn : ((List.range (l.length - 1)).map fun (j : Nat) => (j : Int)).Nodup := by
      rw [List.nodup_iff_pairwise_ne, List.pairwise_map]
      exact List.nodup_range.imp (fun h1 h2 => h1 (by omega))
    rw [hn.count, if_pos]
    exact List.mem_map.2 ⟨j, List.mem_range.2 (by omega), rfl⟩
  · rw [List.count_eq_zero.2, List.count_eq_zero.2]
    · intro hm
      obtain ⟨j, hj, rfl⟩ := List.mem_map.1 hm
      rw [List.mem_range] at hj
      exact h ⟨by omega, by omega⟩
    · intro hm
      obtain ⟨i, hi, hx⟩ := aAH l a hm
      have := hb i hi a hx
      exact h ⟨this.1, by omega⟩
theorem zA (l : List CellD) (hb : below l) (ho : once l) (h0 : 0 < l.length) : (growT l l.length (l.length - 1)).size = l.length := by
  have h1 := xL l hb l.length (Nat.le_refl _)
  rw [List.take_length] at h1
  have h2 := ((yZ l hb ho).map (fun x => (growT l l.length x.toNat).size)).sum_nat
  rw [h2, List.map_map] at h1
  obtain ⟨n, hn⟩ : ∃ n, l.length = n + 1 := ⟨l.length - 1, by omega⟩
  have e : l.length - 1 = n := by omega
  rw [e] at h1 ⊢
  have h3 : (List.range l.length) = List.range n ++ [n] := by rw [hn, List.range_succ]
  rw [h3, List.map_append, List.sum_append, List.map_singleton, List.sum_singleton] at h1
  have h4 : ((fun x : Int => (growT l l.length x.toNat).size) ∘ fun (j : Nat) => (j : Int)) = fun i => (growT l l.length i).size := rfl
  rw [h4] at h1
  omega
theorem tU (l : List CellD) (A B : Nat) (hb : below l) (hc : ∀ c ∈ l, c.a.size ≤ A ∧ c.b.size ≤ B) : ∀ (f i : Nat), i < f → i < l.length → (growT l f i).wt ≤ (1 + A + B) * (growT l f i).size
  | 0, _, h, _ => by omega
  | f + 1, i, h, hi => by
    rw [growT, List.getElem?_eq_getElem hi]
    dsimp only
    have h1 := hc l[i] (List.getElem_mem hi)
    have key : ∀ ks : List Int, (∀ x ∈ ks, 0 ≤ x ∧ x < (i : Int)) → Tree.wts (ks.map fun x => growT l f x.toNat) ≤ (1 + A + B) * Tree.sizes (ks.map fun x => growT l f x.toNat) := by
      intro ks
      induction ks with
      | nil => intro _; exact Nat.zero_le _
      | cons x ks ih =>
        intro hk
        have hx := hk x List.mem_cons_self
        have h2 := tU l A B hb hc f x.toNat (by omega) (by omega)
        have h3 := ih (fun y hy => hk y (List.mem_cons_of_mem _ hy))
        rw [List.map_cons, Tree.wts, Tree.sizes, Nat.mul_add]
        omega
    have h4 := key _ (hb i hi)
    rw [Tree.wt, Tree.size, Nat.mul_add]
    omega
theorem vV (L : List CellD) (A B : Nat) (hc : ∀ c ∈ L, c.a.size ≤ A ∧ c.b.size ≤ B) : (openR L).1 = .nil ∨ ((openR L).1.whole = true ∧ (openR L).1.size ≤ L.length ∧ (openR L).1.wt ≤ (1 + A + B) * L.length) := by
  unfold openR
  split
  · exact .inl rfl
  · split
    · exact .inl rfl
    · split
      · rename_i h0 h1 h
        obtain ⟨hb, ho⟩ := h
        have hs := zA L hb ho (by omega)
        have hw := tU L A B hb hc L.length (L.length - 1) (by omega) (by omega)
        rw [hs] at hw
        exact .inr ⟨mN L hb _ _ (by omega) (by omega), by rw [hs]; exact Nat.le_refl _, hw⟩
      · exact .inl rfl
theorem aAI (K : Nat) (l : List CellD) : ∀ c ∈ (l.take K).map fewCell, c.a.size ≤ 165 ∧ c.b.size ≤ 20 := fun c hc => by
  obtain ⟨d, _, rfl⟩ := List.mem_map.1 hc
  exact ⟨qJ _ _, qJ _ _⟩
theorem vW (l : List CellD) (hff : ∀ c ∈ l, c.f = false) : ∃ t : Tree, (t = .nil ∨ (t.whole = true ∧ t.size ≤ 60 ∧ t.wt ≤ 11160)) ∧ ACalls Tryz.prog 5 [.imm (.agg [.sl false l.length (cellIVs l)])] [] (.imm t.iv) [] := by
  refine ⟨_, ?_, tT l hff⟩
  rcases vV (fewCells10 l) 165 20 (aAI 60 l) with h | ⟨h1, h2, h3⟩
  · exact .inl h
  · have hl : (fewCells10 l).length ≤ 60 := by unfold fewCells10; rw [List.length_map, List.length_take]; omega
    exact .inr ⟨h1, by omega, by omega⟩
abbrev tyCell : Ty := .struct [.int .i64, .int .i64, .string, .string, .slice (.int .i64)]
abbrev tyTree : Ty := .struct [.slice tyCell]
theorem qL : ∀ (xs : List (List IV)), (∀ x ∈ xs, Fits (.int .i64) x) → ∃ l : List Int, l.length = xs.length ∧ xs.flatten = intIVs l
  | [], h => ⟨[], rfl, rfl⟩
  | x :: xs, h => by
    obtain ⟨l, h1, h2⟩ := qL xs (fun y hy => h y (List.mem_cons_of_mem _ hy))
    cases h x List.mem_cons_self with
    | int k n hn => exact ⟨n :: l, by simp [h1], by rw [List.flatten_cons, h2]; rfl⟩
theorem zB {x : List IV} (h : Fits tyCell x) : ∃ c : CellD, c.f = false ∧ x = cellIV c := by
  cases h with
  | struct fs xs h =>
    cases h with
    | cons t ts x xs h1 h =>
      cases h1 with
      | int k n hn =>
        cases h with
        | cons t ts x xs h2 h =>
          cases h2 with
          | int k n2 hn2 =>
            cases h with
            | cons t ts x xs h3 h =>
              cases h3 with
              | string a ha =>
                cases h with
                | cons t ts x xs h4 h =>
                  cases h4 with
                  | string b hb =>
                    cases h with
                    | cons t ts x xs h5 h =>
                      cases h
                      cases h5 with
                      | slice e ys hy hys =>
                        obtain ⟨l, hl1, hl2⟩ := qL ys hys
                        refine ⟨⟨false, n, n2, a, b, l⟩, rfl, ?_⟩
                        rw [hl2, ← hl1]
                        rfl
theorem oR : ∀ (xs : List (List IV)), (∀ x ∈ xs, Fits tyCell x) → ∃ l : List CellD, l.length = xs.length ∧ xs.flatten = cellIVs l ∧ ∀ c ∈ l, c.f = false
  | [], h => ⟨[], rfl, rfl, fun c hc => by cases hc⟩
  | x :: xs, h => by
    obtain ⟨l, h1, h2, h3⟩ := oR xs (fun y hy => h y (List.mem_cons_of_mem _ hy))
    obtain ⟨c, hc, rfl⟩ := zB (h x List.mem_cons_self)
    refine ⟨c :: l, by simp [h1], by rw [List.flatten_cons, h2]; rfl, fun d hd => ?_⟩
    rcases List.mem_cons.1 hd with rfl | hd
    · exact hc
    · exact h3 d hd
theorem jT {x : IV} (h : FitsV tyTree x) : ∃ l : List CellD, x = .agg [.sl false l.length (cellIVs l)] ∧ ∀ c ∈ l, c.f = false := by
  obtain ⟨xs, rfl, h⟩ := h
  cases h with
  | struct fs xs h =>
    cases h with
    | cons t ts x xs h1 h =>
      cases h
      cases h1 with
      | slice e ys hy hys =>
        obtain ⟨l, h1, h2, h3⟩ := oR ys hys
        exact ⟨l, by rw [h2, ← h1]; rfl, h3⟩
end Go.Proofs.YtdajnmffoopcaaaGreatDoor.Ab
namespace Go.Proofs.YtdajnmffoopcaaaGreatDoor.Ab
set_option linter.unusedVariables false
set_option linter.unusedSimpArgs false
theorem nI (l : List CellD) (hff : ∀ c ∈ l, c.f = false) : ∃ t : Tree, t.size ≤ 60 ∧ t.wt ≤ 11160 ∧ (t = .nil ∨ t.whole = true) ∧ ACalls Tryz.prog 5 [.imm (.agg [.sl false l.length (cellIVs l)])] [] (.imm t.iv) [] := by
  obtain ⟨t, h, c⟩ := vW l hff
  rcases h with rfl | ⟨h1, h2, h3⟩
  · exact ⟨_, by simp [Tree.size], by simp [Tree.wt], .inl rfl, c⟩
  · exact ⟨t, h2, h3, .inr h1, c⟩
end Go.Proofs.YtdajnmffoopcaaaGreatDoor.Ab
namespace Go.Proofs.YtdajnmffoopcaaaGreatDoor.Ab
set_option linter.unusedVariables false
set_option linter.unusedSimpArgs false
open Go.RowKit
attribute [local irreducible] AWP AOps AExit AThen ABlock ANoGoto FeetOk
theorem vX : ∀ (l l' : List Tree), l.length ≠ l'.length → samePs l l' = false := fun l l' h => by rw [iI]; exact oK _ _ _ h
set_option maxHeartbeats 8000000 in
set_option maxRecDepth 10000 in
theorem iJ (t : Tree) : ∀ u : Tree, (t = .nil ∨ t.whole = true) → (u = .nil ∨ u.whole = true) → t.size ≤ 1000000 → u.size ≤ 1000000 → ACalls Tryz.prog 8 [.imm t.iv, .imm u.iv] [] (.imm (.lit (.bool (sameP t u)))) [] := by
  induction t using Tree.ind with
  | h1 =>
    intro u _ _ _ _
    cases u with
    | nil =>
      rw [show sameP .nil .nil = true by simp [sameP]]
      refine aJ Tryz.func8 rfl rfl (nb rfl) rfl ?_
      repeat' (first | refine aG ?_ | (refine aI ?_;  first | refine aD tabOk rfl rfl rfl (nb rfl) rfl ?_ | refine bE rfl rfl (nb rfl) ?_ | refine bB tabOk rfl rfl (nb rfl) rfl ?_) | (refine aN ?_;  first | refine aH ?_ | refine aQ ?_ | refine aT ?_ | refine aA (b := true) rfl (fun _ => ?_) nTf) | (refine aK ?_;  first | refine aR ?_))
      all_goals first
        | exact absurd rfl (by assumption)
        | exact cL (by first | exact .inl rfl | exact .inr rfl) (aZ rfl (aC rfl)) rfl
    | node k n a b ks =>
      rw [show sameP .nil (.node k n a b ks) = false by simp [sameP]]
      refine aJ Tryz.func8 rfl rfl (nb rfl) rfl ?_
      repeat' (first | refine aG ?_ | (refine aI ?_;  first | refine aD tabOk rfl rfl rfl (nb rfl) rfl ?_ | refine bE rfl rfl (nb rfl) ?_ | refine bB tabOk rfl rfl (nb rfl) rfl ?_) | (refine aN ?_;  first | refine aH ?_ | refine aQ ?_ | refine aT ?_ | refine aA (b := true) rfl (fun _ => ?_) nTf) | (refine aK ?_;  first | refine aR ?_))
      all_goals first
        | exact absurd rfl (by assumption)
        | exact cL (by first | exact .inl rfl | exact .inr rfl) (aZ rfl (aC rfl)) rfl
  | h2 k n a b ks ih =>
    intro u hw hw2 hs hs2
    cases u with
    | nil =>
      rw [show sameP (.node k n a b ks) .nil = false by simp [sameP]]
      refine aJ Tryz.func8 rfl rfl (nb rfl) rfl ?_
      repeat' (first | refine aG ?_ | (refine aI ?_;  first | refine aD tabOk rfl rfl rfl (nb rfl) rfl ?_ | refine bE rfl rfl (nb rfl) ?_ | refine bB tabOk rfl rfl (nb rfl) rfl ?_) | (refine aN ?_;  first | refine aH ?_ | refine aQ ?_ | refine aT ?_ | refine aA (b := true) rfl (fun _ => ?_) nTf) | (refine aK ?_;  first | refine aR ?_))
      all_goals first
        | exact absurd rfl (by assumption)
        | exact cL (by first | exact .inl rfl | exact .inr rfl) (aZ rfl (aC rfl)) rfl
    | node k' n' a' b' ks' =>
      have hw : (Tree.node k n a b ks).whole = true := by
        rcases hw with h | h
        · cases h
        · exact h
      have hw2 : (Tree.node k' n' a' b' ks').whole = true := by
        rcases hw2 with h | h
        · cases h
        · exact h
      have hl := cC ks hw
      have hl2 := cC ks' hw2
      simp only [Tree.size] at hs hs2
      have hf : ∀ i (hi : i < ks.length) (hk : i < ks'.length), ACalls Tryz.prog 8 [.imm ks[i].iv, .imm ks'[i].iv] [] (.imm (.lit (.bool (sameP ks[i] ks'[i])))) [] := fun i hi hk => by
        have h1 := List.getElem_mem hi
        have h2 := List.getElem_mem hk
        have h3 := dE h1
        have h4 := dE h2
        exact ih _ h1 _ (.inr (bS hw h1)) (.inr (bS hw2 h2)) (by omega) (by omega)
      clear ih
      obtain ⟨q, hQ0⟩ : ∃ q, sameP (.node k n a b ks) (.node k' n' a' b' ks') = q := ⟨_, rfl⟩
      rw [hQ0]
      rw [sameP] at hQ0
      have hlen := vX ks ks'
      by_cases hd : (k = k' ∧ n = n' ∧ a = a' ∧ b = b') ∧ ks.length = ks'.length
      · obtain ⟨⟨rfl, rfl, rfl, rfl⟩, hl3⟩ := hd
        rw [show ((((k == k && n == n) && eqB a a) && eqB b b) && samePs ks ks') = samePs ks ks' by rw [(dO a a).2 rfl, (dO b b).2 rfl]; simp] at hQ0
        have hz := lD sameP ks ks' hl3
        rw [← iI, hQ0] at hz
        refine aJ Tryz.func8 rfl rfl (nb rfl) rfl ?_
        repeat' (first | refine aG ?_ | (refine aI ?_;  first | refine aD tabOk rfl rfl rfl (nb rfl) rfl ?_ | refine bE rfl rfl (nb rfl) ?_ | (refine aM rfl rfl rfl (nb rfl) rfl rfl rfl (fun hq => ?_) (fun hq => ?_) <;> (first | (simp only [sD, sE, sB, sC, sN, sM, sT, sF] at hq; try (exfalso; omega)) | skip)) | refine bB tabOk rfl rfl (nb rfl) rfl ?_) | (refine aN ?_;  first | refine aH ?_ | refine aQ ?_ | refine aY ?_ | refine aT ?_ | refine aU ?_ | refine aA (b := true) rfl (fun _ => ?_) nTf | refine aA (b := false) rfl nFt (fun _ => ?_) | refine aW mixed (by kernel_rfl) ?_) | (refine aK ?_;  first | refine aX ?_ | refine aR ?_) | refine bQ (bL (by kernel_rfl)) ?_)
        all_goals first
          | exact absurd rfl (by assumption)
          | (exfalso; omega)
          | skip
        refine cI (ι := {j : Nat // j ≤ ks.length ∧ ∀ i (hi : i < ks.length) (hk : i < ks'.length), i < j → sameP ks[i] ks'[i] = true}) (fun j => S.f ⟨[(5, .imm (.lit (.int .i64 (j.1 : Int)))), (0, .imm (Tree.iv (.node k n a b ks))), (1, .imm (Tree.iv (.node k n a b ks')))], []⟩) (fun j => ks.length - j.1) ⟨0, Nat.zero_le _, fun i _ _ hi => absurd hi (Nat.not_lt_zero _)⟩ (cA (by repeat' first | exact trivial | refine ⟨rfl, ?_⟩) (by repeat' first | exact trivial | refine ⟨rfl, ?_⟩)) ?_
        rintro ⟨j, hj, hok⟩
        dsimp only
        by_cases hlt : j < ks.length
        · have hltk : j < ks'.length := by omega
          have hg1 := bX ks j hlt
          have hg2 := bX ks' j hltk
          have hc := hf j hlt hltk
          cases hS : sameP ks[j] ks'[j] with
          | true =>
            rw [hS] at hc
            have hok2 : ∀ i (hi : i < ks.length) (hk : i < ks'.length), i < j + 1 → sameP ks[i] ks'[i] = true := fun i hi hk hij => by
              by_cases e : i = j
              · subst e; exact hS
              · exact hok i hi hk (by omega)
            clear hz hf hlen
            repeat' (first | refine aG ?_ | (refine aI ?_;  first | refine aD tabOk rfl rfl rfl (nb rfl) rfl ?_ | (refine aM rfl rfl rfl (nb rfl) rfl rfl rfl (fun hq => ?_) (fun hq => ?_) <;> (first | (simp only [sD, sE, sB, sC, sN, sM, sT, sF] at hq; try (exfalso; omega)) | skip)) | refine bC tabOk rfl rfl rfl (nb rfl) rfl rfl rfl hg1 ?_ | refine bC tabOk rfl rfl rfl (nb rfl) rfl rfl rfl hg2 ?_ | refine aE rfl rfl (nb rfl) rfl rfl rfl rfl (hc) ?_ | refine bP rfl rfl rfl (nb rfl) rfl rfl (by omega) ?_ | refine bB tabOk rfl rfl (nb rfl) rfl ?_ | refine bG tabOk rfl rfl rfl (nb rfl) rfl rfl rfl rfl (by first | assumption | omega) ?_) | (refine aN ?_;  first | refine aH ?_ | refine aQ ?_ | refine bH ?_ | refine aY ?_ | refine aU ?_ | refine aA (b := true) rfl (fun _ => ?_) nTf | refine aA (b := false) rfl nFt (fun _ => ?_) | refine aW mixed (by kernel_rfl) ?_) | (refine aK ?_;  first | refine aX ?_) | (refine bA ?_;  first | refine bU ?_) | refine bQ (bL (by kernel_rfl)) ?_)
            all_goals first
              | exact absurd rfl (by assumption)
              | (exfalso; omega)
              | exact ⟨⟨j + 1, hlt, hok2⟩, (by show ks.length - (j + 1) < ks.length - j; omega), (cA (by repeat' first | exact trivial | refine ⟨rfl, ?_⟩) (by repeat' first | exact trivial | refine ⟨rfl, ?_⟩))⟩
          | false =>
            rw [hS] at hc
            have e1 : q = false := by
              rw [Bool.eq_false_iff]
              intro hc2
              have := hz.1 hc2 j hlt hltk
              rw [hS] at this; cases this
            subst e1
            clear hz hf hlen
            repeat' (first | refine aG ?_ | (refine aI ?_;  first | refine aD tabOk rfl rfl rfl (nb rfl) rfl ?_ | (refine aM rfl rfl rfl (nb rfl) rfl rfl rfl (fun hq => ?_) (fun hq => ?_) <;> (first | (simp only [sD, sE, sB, sC, sN, sM, sT, sF] at hq; try (exfalso; omega)) | skip)) | refine bC tabOk rfl rfl rfl (nb rfl) rfl rfl rfl hg1 ?_ | refine bC tabOk rfl rfl rfl (nb rfl) rfl rfl rfl hg2 ?_ | refine aE rfl rfl (nb rfl) rfl rfl rfl rfl (hc) ?_ | refine bB tabOk rfl rfl (nb rfl) rfl ?_ | refine bG tabOk rfl rfl rfl (nb rfl) rfl rfl rfl rfl (by first | assumption | omega) ?_) | (refine aN ?_;  first | refine aH ?_ | refine aQ ?_ | refine aY ?_ | refine aT ?_ | refine aU ?_ | refine aA (b := true) rfl (fun _ => ?_) nTf | refine aW mixed (by kernel_rfl) ?_) | (refine aK ?_;  first | refine aX ?_ | refine aR ?_) | (refine bA ?_;  first | refine bF ?_) | refine bQ (bL (by kernel_rfl)) ?_)
            all_goals first
              | exact absurd rfl (by assumption)
              | (exfalso; omega)
              | (refine aV (by first | exact .inl rfl | exact .inr rfl) (aZ rfl (aC rfl)) rfl ?_; rfl)
        · have e1 : q = true := hz.2 fun i hi hk => hok i hi hk (by omega)
          subst e1
          clear hz hf hlen
          repeat' (first | refine aG ?_ | (refine aI ?_;  first | refine aD tabOk rfl rfl rfl (nb rfl) rfl ?_ | (refine aM rfl rfl rfl (nb rfl) rfl rfl rfl (fun hq => ?_) (fun hq => ?_) <;> (first | (simp only [sD, sE, sB, sC, sN, sM, sT, sF] at hq; try (exfalso; omega)) | skip)) | refine bB tabOk rfl rfl (nb rfl) rfl ?_) | (refine aN ?_;  first | refine aH ?_ | refine aQ ?_ | refine aT ?_ | refine bW ?_ | refine aA (b := false) rfl nFt (fun _ => ?_)) | (refine aK ?_;  first | refine aX ?_ | refine bM ?_) | (refine bA ?_;  first | refine bI ?_))
          all_goals first
            | (exfalso; omega)
            | (refine aV (by first | exact .inl rfl | exact .inr rfl) (aZ rfl (aC rfl)) rfl ?_; rfl)
      · have e1 : q = false := by
          rw [← hQ0]
          by_cases hl3 : ks.length = ks'.length
          · have hd : ¬ (k = k' ∧ n = n' ∧ a = a' ∧ b = b') := fun h => hd ⟨h, hl3⟩
            rw [Bool.eq_false_iff]
            intro h
            simp only [Bool.and_eq_true, beq_iff_eq, dO] at h
            exact hd ⟨h.1.1.1.1, h.1.1.1.2, h.1.1.2, h.1.2⟩
          · rw [hlen hl3, Bool.and_false]
        subst e1
        have hd : k = k' → n = n' → a.toList = a'.toList → b.toList = b'.toList → ks.length = ks'.length → False := fun h1 h2 h3 h4 h5 => hd ⟨⟨h1, h2, (dO a a').1 (by unfold eqB; rw [h3]; simp), (dO b b').1 (by unfold eqB; rw [h4]; simp)⟩, h5⟩
        clear hQ0 hf hlen
        refine aJ Tryz.func8 rfl rfl (nb rfl) rfl ?_
        repeat' (first | refine aG ?_ | (refine aI ?_;  first | refine aD tabOk rfl rfl rfl (nb rfl) rfl ?_ | refine bE rfl rfl (nb rfl) ?_ | (refine aM rfl rfl rfl (nb rfl) rfl rfl rfl (fun hq => ?_) (fun hq => ?_) <;> (first | (simp only [sD, sE, sB, sC, sN, sM, sT, sF] at hq; try (exfalso; omega)) | skip)) | refine bB tabOk rfl rfl (nb rfl) rfl ?_) | (refine aN ?_;  first | refine aH ?_ | refine aQ ?_ | refine aY ?_ | refine aT ?_ | refine aU ?_ | refine aA (b := true) rfl (fun _ => ?_) nTf | refine aA (b := false) rfl nFt (fun _ => ?_) | refine aW mixed (by kernel_rfl) ?_) | (refine aK ?_;  first | refine aX ?_ | refine aR ?_) | refine bQ (bL (by kernel_rfl)) ?_)
        all_goals first
          | exact absurd rfl (by assumption)
          | (exfalso; omega)
          | (exact (hd (by assumption) (by assumption) (by assumption) (by assumption) (by omega)).elim)
          | (refine aV (by first | exact .inl rfl | exact .inr rfl) (aZ rfl (aC rfl)) rfl ?_; rfl)
instance : DecidableEq Tree := fun a b => decidable_of_iff (sameP a b = true) (gZ a b)
end Go.Proofs.YtdajnmffoopcaaaGreatDoor.Ab
namespace Go.Proofs.YtdajnmffoopcaaaGreatDoor.Ab
set_option linter.unusedVariables false
set_option linter.unusedSimpArgs false
open Go.RowKit
attribute [local irreducible] AWP AOps AExit AThen ABlock ANoGoto FeetOk
theorem tV {l : List Tree} {kind : Int} {rise : Bool} {i : Nat} (h : i < l.length) (hb : okNamed kind l[i] = false) : labelsB l kind rise = false := by
  rw [Bool.eq_false_iff]
  intro hc
  have := ((jB l kind rise).1 hc).1 i h
  rw [hb] at this
  cases this
theorem vY {l : List Tree} {kind : Int} {rise : Bool} {i j : Nat} (hij : j < i) (h : i < l.length) (hb : okPair rise (l[j]'(by omega)).name l[i].name = false) : labelsB l kind rise = false := by
  rw [Bool.eq_false_iff]
  intro hc
  have := ((jB l kind rise).1 hc).2 j i hij h
  rw [hb] at this
  cases this
set_option maxHeartbeats 16000000 in
set_option maxRecDepth 10000 in
theorem tW (l : List Tree) (kind : Int) (rise : Bool) (h : Tree.wholes l = true) (hl : l.length < 1000000000)
    (hc : ∀ t', t'.size < Tree.sizes l → t'.whole = true → ACalls Tryz.prog 57 [.imm t'.iv] [] (.imm (.lit (.bool (isConP t')))) []) :
    ACalls Tryz.prog 79 [.imm (.sl false l.length (Tree.ivs l)), .imm (.lit (.int .i64 kind)), .imm (.lit (.bool rise))] [] (.imm (.lit (.bool (labelsB l kind rise)))) [] := by
  refine aJ Tryz.func79 rfl rfl (nb rfl) rfl ?_
  repeat' (first | refine aG ?_ | (refine aI ?_;  first | refine aD tabOk rfl rfl rfl (nb rfl) rfl ?_) | (refine aN ?_;  first | refine aH ?_ | refine aQ ?_ | refine aY ?_))
  refine cI (ι := {i : Nat // i ≤ l.length ∧ (∀ q (hq : q < l.length), q < i → okNamed kind l[q] = true) ∧ ∀ j q (hjq : j < q) (hq : q < l.length), q < i → okPair rise (l[j]'(by omega)).name l[q].name = true}) (fun i => S.f ⟨[(7, .imm (.lit (.int .i64 (i.1 : Int)))), (0, .imm (.sl false l.length (Tree.ivs l))), (1, .imm (.lit (.int .i64 kind))), (2, .imm (.lit (.bool rise)))], []⟩) (fun i => l.length - i.1) ⟨0, Nat.zero_le _, fun q h h2 => by omega, fun j q h h2 h3 => by omega⟩ (cA (by repeat' first | exact trivial | refine ⟨rfl, ?_⟩) (by repeat' first | exact trivial | refine ⟨rfl, ?_⟩)) ?_
  rintro ⟨i, hi, hn, hp⟩
  dsimp only
  by_cases hil : i < l.length
  · obtain ⟨k1, n1, a1, b1, ks, e1, hiv, hwk⟩ := gM h hil
    have hbad := @tV l kind rise i hil
    have hsz := dE (List.getElem_mem hil)
    rw [e1] at hbad hsz
    have hpl := oM k1 n1 a1 b1 ks true
    cases hok : okNamed kind (.node k1 n1 a1 b1 ks) with
    | false =>
      rw [hbad hok]
      rw [okNamed] at hok
      rcases ks with _ | ⟨c, _ | ⟨d, r⟩⟩
      · generalize bareP n1 a1 b1 true false = bp at *
        cases bp <;>
        (repeat' (first | refine aG ?_ | (refine aI ?_;  first | refine aD tabOk rfl rfl rfl (nb rfl) rfl ?_ | refine bE rfl rfl (nb rfl) ?_ | (refine aM rfl rfl rfl (nb rfl) rfl rfl rfl (fun hq => ?_) (fun hq => ?_) <;> (first | (simp only [sD, sE, sB, sC, sN, sM, sT, sF] at hq; try (exfalso; omega)) | skip)) | refine bC tabOk rfl rfl rfl (nb rfl) rfl rfl rfl hiv ?_ | refine aE rfl rfl (nb rfl) rfl rfl rfl rfl (hpl) ?_ | refine bB tabOk rfl rfl (nb rfl) rfl ?_ | refine bG tabOk rfl rfl rfl (nb rfl) rfl rfl rfl rfl (by first | assumption | omega) ?_ | refine bN tabOk rfl rfl rfl (nb rfl) rfl rfl rfl rfl (by first | rfl | omega) (by first | omega | simp) ?_ | refine bC tabOk rfl rfl rfl (nb rfl) rfl rfl rfl (bX _ _ (by first | assumption | omega)) ?_) | (refine aN ?_;  first | refine aH ?_ | refine aQ ?_ | refine aY ?_ | refine aT ?_ | refine aU ?_ | refine aA (b := true) rfl (fun _ => ?_) nTf) | (refine aK ?_;  first | refine aX ?_ | refine aR ?_) | (refine bA ?_;  first | refine bF ?_))
         all_goals first
           | exact cL (by first | exact .inl rfl | exact .inr rfl) (aZ rfl (aC rfl)) rfl
           | (exfalso; omega)
           | (exfalso; simp_all [isCon1, labelP]; done))
      · have hcc := hc c (by simp [Tree.size, Tree.sizes] at hsz ⊢; omega) (bS hwk (by simp))
        rw [isCon1] at hok
        generalize bareP n1 a1 b1 true false = bp at *
        generalize isConP c = cp at *
        cases bp <;> cases cp <;>
        (repeat' (first | refine aG ?_ | (refine aI ?_;  first | refine aD tabOk rfl rfl rfl (nb rfl) rfl ?_ | refine bE rfl rfl (nb rfl) ?_ | (refine aM rfl rfl rfl (nb rfl) rfl rfl rfl (fun hq => ?_) (fun hq => ?_) <;> (first | (simp only [sD, sE, sB, sC, sN, sM, sT, sF] at hq; try (exfalso; omega)) | skip)) | refine bC tabOk rfl rfl rfl (nb rfl) rfl rfl rfl hiv ?_ | refine aE rfl rfl (nb rfl) rfl rfl rfl rfl (hpl) ?_ | refine aE rfl rfl (nb rfl) rfl rfl rfl rfl (hcc) ?_ | refine bB tabOk rfl rfl (nb rfl) rfl ?_ | refine bG tabOk rfl rfl rfl (nb rfl) rfl rfl rfl rfl (by first | assumption | omega) ?_ | refine bN tabOk rfl rfl rfl (nb rfl) rfl rfl rfl rfl (by first | rfl | omega) (by first | omega | simp) ?_) | (refine aN ?_;  first | refine aH ?_ | refine aQ ?_ | refine aY ?_ | refine aT ?_ | refine aU ?_ | refine aA (b := true) rfl (fun _ => ?_) nTf | refine aA (b := false) rfl nFt (fun _ => ?_)) | (refine aK ?_;  first | refine aX ?_ | refine aR ?_) | (refine bA ?_;  first | refine bF ?_))
         all_goals first
           | exact cL (by first | exact .inl rfl | exact .inr rfl) (aZ rfl (aC rfl)) rfl
           | (exfalso; omega)
           | (exfalso; simp_all [labelP]; done)
           | (exfalso; simp_all [labelP]; omega))
      · generalize bareP n1 a1 b1 true false = bp at *
        cases bp <;>
        (repeat' (first | refine aG ?_ | (refine aI ?_;  first | refine aD tabOk rfl rfl rfl (nb rfl) rfl ?_ | refine bE rfl rfl (nb rfl) ?_ | (refine aM rfl rfl rfl (nb rfl) rfl rfl rfl (fun hq => ?_) (fun hq => ?_) <;> (first | (simp only [sD, sE, sB, sC, sN, sM, sT, sF] at hq; try (exfalso; omega)) | skip)) | refine bC tabOk rfl rfl rfl (nb rfl) rfl rfl rfl hiv ?_ | refine aE rfl rfl (nb rfl) rfl rfl rfl rfl (hpl) ?_ | refine bB tabOk rfl rfl (nb rfl) rfl ?_ | refine bG tabOk rfl rfl rfl (nb rfl) rfl rfl rfl rfl (by first | assumption | omega) ?_ | refine bN tabOk rfl rfl rfl (nb rfl) rfl rfl rfl rfl (by first | rfl | omega) (by first | omega | simp) ?_) | (refine aN ?_;  first | refine aH ?_ | refine aQ ?_ | refine aY ?_ | refine aT ?_ | refine aU ?_ | refine aA (b := true) rfl (fun _ => ?_) nTf) | (refine aK ?_;  first | refine aX ?_ | refine aR ?_) | (refine bA ?_;  first | refine bF ?_))
         all_goals first
           | exact cL (by first | exact .inl rfl | exact .inr rfl) (aZ rfl (aC rfl)) rfl
           | (exfalso; omega)
           | (exfalso; simp_all [isCon1, labelP]; done)
           | (exfalso; simp only [List.length_cons] at *; omega))
    | true =>
      have hok0 := hok
      rw [okNamed] at hok
      simp only [Bool.and_eq_true] at hok
      obtain ⟨⟨⟨q1, q2⟩, q3⟩, q4⟩ := hok
      have q1 := beq_iff_eq.1 q1
      subst q1
      rw [q2] at hpl
      unfold labelP at q3
      simp only [Bool.and_eq_true, decide_eq_true_eq] at q3
      obtain ⟨q5, q6⟩ := q3
      have hcc : ∃ c, ks = [c] ∧ isConP c = true := by
        match ks, q4 with
        | [c], q4 => exact ⟨c, rfl, by simpa [isCon1] using q4⟩
      obtain ⟨c, rfl, hcp⟩ := hcc
      have hcc := hc c (by simp [Tree.size, Tree.sizes] at hsz ⊢; omega) (bS hwk (by simp))
      rw [hcp] at hcc
      have hn2 : ∀ q (hq : q < l.length), q < i + 1 → okNamed k1 l[q] = true := fun q hq h2 => by
        rcases Nat.lt_or_ge q i with h3 | h3
        · exact hn q hq h3
        · have e : q = i := by omega
          subst e
          rw [e1]; exact hok0
      repeat' (first | refine aG ?_ | (refine aI ?_;  first | refine aD tabOk rfl rfl rfl (nb rfl) rfl ?_ | refine bE rfl rfl (nb rfl) ?_ | (refine aM rfl rfl rfl (nb rfl) rfl rfl rfl (fun hq => ?_) (fun hq => ?_) <;> (first | (simp only [sD, sE, sB, sC, sN, sM, sT, sF] at hq; try (exfalso; omega)) | skip)) | refine bC tabOk rfl rfl rfl (nb rfl) rfl rfl rfl hiv ?_ | refine aE rfl rfl (nb rfl) rfl rfl rfl rfl (hpl) ?_ | refine aE rfl rfl (nb rfl) rfl rfl rfl rfl (hcc) ?_ | refine bB tabOk rfl rfl (nb rfl) rfl ?_ | refine bG tabOk rfl rfl rfl (nb rfl) rfl rfl rfl rfl (by first | assumption | omega) ?_ | refine bN tabOk rfl rfl rfl (nb rfl) rfl rfl rfl rfl (by first | rfl | omega) (by first | omega | simp) ?_) | (refine aN ?_;  first | refine aH ?_ | refine aQ ?_ | refine aY ?_ | refine aT ?_ | refine aU ?_ | refine aA (b := true) rfl (fun _ => ?_) nTf | refine aA (b := false) rfl nFt (fun _ => ?_)) | (refine aK ?_;  first | refine aX ?_ | refine aR ?_) | (refine bA ?_;  first | refine bF ?_))
      all_goals first | exact absurd rfl (by assumption) | (exfalso; omega) | skip
      refine cI (ι := {j : Nat // j ≤ i ∧ ∀ q (hq : q < j) (hqi : q < l.length), okPair rise l[q].name a1 = true}) (fun j => S.f ⟨[(9, .imm (.lit (.int .i64 (j.1 : Int)))), (8, .imm (Tree.iv (.node k1 n1 a1 b1 [c]))), (7, .imm (.lit (.int .i64 (i : Int)))), (0, .imm (.sl false l.length (Tree.ivs l))), (1, .imm (.lit (.int .i64 k1))), (2, .imm (.lit (.bool rise)))], []⟩) (fun j => i - j.1) ⟨0, Nat.zero_le _, fun q h h2 => by omega⟩ (cA (by repeat' first | exact trivial | refine ⟨rfl, ?_⟩) (by repeat' first | exact trivial | refine ⟨rfl, ?_⟩)) ?_
      rintro ⟨j, hj, hpj⟩
      dsimp only
      by_cases hji : j < i
      · obtain ⟨k2, n2, a2, b2, ks2, e2, hiv2, _⟩ := gM h (show j < l.length by omega)
        have hbp := @vY l k1 rise i j hji hil
        have en : l[i].name = a1 := by rw [e1]; rfl
        have en2 : (l[j]'(by omega)).name = a2 := by rw [e2]; rfl
        rw [en, en2] at hbp
        cases hop : okPair rise a2 a1 with
        | false =>
          rw [hbp hop]
          cases rise <;>
          (repeat' (first | refine aG ?_ | (refine aI ?_;  first | refine aD tabOk rfl rfl rfl (nb rfl) rfl ?_ | refine bE rfl rfl (nb rfl) ?_ | (refine aM rfl rfl rfl (nb rfl) rfl rfl rfl (fun hq => ?_) (fun hq => ?_) <;> (first | (simp only [sD, sE, sB, sC, sN, sM, sT, sF] at hq; try (exfalso; omega)) | skip)) | refine bC tabOk rfl rfl rfl (nb rfl) rfl rfl rfl hiv2 ?_ | refine bP rfl rfl rfl (nb rfl) rfl rfl (by omega) ?_ | refine bG tabOk rfl rfl rfl (nb rfl) rfl rfl rfl rfl (by first | assumption | omega) ?_) | (refine aN ?_;  first | refine aH ?_ | refine aQ ?_ | refine bH ?_ | refine aY ?_ | refine aT ?_ | refine aU ?_ | refine aA (b := true) rfl (fun _ => ?_) nTf | refine aA (b := false) rfl nFt (fun _ => ?_) | refine aW mixed (by kernel_rfl) ?_) | (refine aK ?_;  first | refine aX ?_ | refine aR ?_) | (refine bA ?_;  first | refine bU ?_ | refine bF ?_) | refine bQ (bL (by kernel_rfl)) ?_)
           all_goals first
             | exact cL (by first | exact .inl rfl | exact .inr rfl) (aZ rfl (aC rfl)) rfl
             | (exfalso; omega)
             | (exfalso; simp_all [okPair, gtB, ltB, eqB]; done))
        | true =>
          have hpj2 : ∀ q (hq : q < j + 1) (hqi : q < l.length), okPair rise l[q].name a1 = true := fun q hq hqi => by
            rcases Nat.lt_or_ge q j with h3 | h3
            · exact hpj q h3 hqi
            · have e : q = j := by omega
              subst e
              rw [en2]; exact hop
          cases rise <;>
          (repeat' (first | refine aG ?_ | (refine aI ?_;  first | refine aD tabOk rfl rfl rfl (nb rfl) rfl ?_ | refine bE rfl rfl (nb rfl) ?_ | (refine aM rfl rfl rfl (nb rfl) rfl rfl rfl (fun hq => ?_) (fun hq => ?_) <;> (first | (simp only [sD, sE, sB, sC, sN, sM, sT, sF] at hq; try (exfalso; omega)) | skip)) | refine bC tabOk rfl rfl rfl (nb rfl) rfl rfl rfl hiv2 ?_ | refine bP rfl rfl rfl (nb rfl) rfl rfl (by omega) ?_ | refine bG tabOk rfl rfl rfl (nb rfl) rfl rfl rfl rfl (by first | assumption | omega) ?_) | (refine aN ?_;  first | refine aH ?_ | refine aQ ?_ | refine bH ?_ | refine aY ?_ | refine aT ?_ | refine aU ?_ | refine aA (b := true) rfl (fun _ => ?_) nTf | refine aA (b := false) rfl nFt (fun _ => ?_) | refine aW mixed (by kernel_rfl) ?_) | (refine aK ?_;  first | refine aX ?_ | refine aR ?_) | (refine bA ?_;  first | refine bU ?_ | refine bF ?_) | refine bQ (bL (by kernel_rfl)) ?_)
           all_goals first
             | exact ⟨⟨j + 1, hji, hpj2⟩, (by show i - (j + 1) < i - j; omega), (cA (by repeat' first | exact trivial | refine ⟨rfl, ?_⟩) (by repeat' first | exact trivial | refine ⟨rfl, ?_⟩))⟩
             | (exfalso; omega)
             | (exfalso; simp_all [okPair, gtB, ltB, eqB]; done))
      · have ej : j = i := by omega
        subst ej
        have hp2 : ∀ j2 q (hjq : j2 < q) (hq : q < l.length), q < j + 1 → okPair rise (l[j2]'(by omega)).name l[q].name = true := fun j2 q hjq hq h2 => by
          rcases Nat.lt_or_ge q j with h3 | h3
          · exact hp j2 q hjq hq h3
          · have e : q = j := by omega
            subst e
            rw [e1]
            exact hpj j2 hjq (by omega)
        repeat' (first | refine aG ?_ | (refine aI ?_;  first | refine aD tabOk rfl rfl rfl (nb rfl) rfl ?_ | (refine aM rfl rfl rfl (nb rfl) rfl rfl rfl (fun hq => ?_) (fun hq => ?_) <;> (first | (simp only [sD, sE, sB, sC, sN, sM, sT, sF] at hq; try (exfalso; omega)) | skip)) | refine bP rfl rfl rfl (nb rfl) rfl rfl (by omega) ?_) | (refine aN ?_;  first | refine aH ?_ | refine aQ ?_ | refine bH ?_ | refine bW ?_ | refine aA (b := false) rfl nFt (fun _ => ?_)) | (refine aK ?_;  first | refine aX ?_ | refine bM ?_) | (refine bA ?_;  first | refine bU ?_ | refine bI ?_))
        all_goals first
          | (exfalso; omega)
          | exact ⟨⟨j + 1, hil, hn2, hp2⟩, (by show l.length - (j + 1) < l.length - j; omega), (cA (by repeat' first | exact trivial | refine ⟨rfl, ?_⟩) (by repeat' first | exact trivial | refine ⟨rfl, ?_⟩))⟩
  · have ei : i = l.length := by omega
    subst ei
    have hT : labelsB l kind rise = true := (jB l kind rise).2 ⟨fun q hq => hn q hq hq, fun j q hjq hq => hp j q hjq hq hq⟩
    rw [hT]
    repeat' (first | refine aG ?_ | (refine aI ?_;  first | refine aD tabOk rfl rfl rfl (nb rfl) rfl ?_ | (refine aM rfl rfl rfl (nb rfl) rfl rfl rfl (fun hq => ?_) (fun hq => ?_) <;> (first | (simp only [sD, sE, sB, sC, sN, sM, sT, sF] at hq; try (exfalso; omega)) | skip)) | refine bB tabOk rfl rfl (nb rfl) rfl ?_) | (refine aN ?_;  first | refine aH ?_ | refine aQ ?_ | refine aT ?_ | refine bW ?_ | refine aA (b := false) rfl nFt (fun _ => ?_)) | (refine aK ?_;  first | refine aX ?_ | refine bM ?_) | (refine bA ?_;  first | refine bI ?_))
    all_goals first
      | exact cL (by first | exact .inl rfl | exact .inr rfl) (aZ rfl (aC rfl)) rfl
      | (exfalso; omega)
end Go.Proofs.YtdajnmffoopcaaaGreatDoor.Ab
namespace Go.Proofs.YtdajnmffoopcaaaGreatDoor.Ab
set_option linter.unusedVariables false
set_option linter.unusedSimpArgs false
open Go.RowKit
attribute [local irreducible] AWP AOps AExit AThen ABlock ANoGoto FeetOk
set_option maxHeartbeats 16000000 in
set_option maxRecDepth 10000 in
theorem aAJ (t : Tree) : t.whole = true → t.size ≤ 1000000 → ACalls Tryz.prog 57 [.imm t.iv] [] (.imm (.lit (.bool (isConP t)))) [] := by
  induction t using Tree.sind with
  | h t ih =>
    intro h hs
    obtain ⟨k, n, a, b, kids, rfl⟩ := cF h
    have hl : kids.length < 1000000000 := by have := cC kids h; simp only [Tree.size] at hs; omega
    have hc : ∀ t', t'.size < (Tree.node k n a b kids).size → t'.whole = true → ACalls Tryz.prog 57 [.imm t'.iv] [] (.imm (.lit (.bool (isConP t')))) [] := fun t' h1 h2 => ih t' h1 h2 (by omega)
    have hc2 : ∀ t', t'.size < Tree.sizes kids → t'.whole = true → ACalls Tryz.prog 57 [.imm t'.iv] [] (.imm (.lit (.bool (isConP t')))) [] := fun t' h1 h2 => hc t' (by simp only [Tree.size]; omega) h2
    have e1 : labelsB kids 116 true = (namedPs kids 116 && risingP kids) := by unfold labelsB pairsP; rw [if_pos rfl]
    have e2 : labelsB kids 122 false = (namedPs kids 122 && distinctP kids) := by unfold labelsB pairsP; rw [if_neg (by simp)]
    have cl1 := tW kids 116 true h hl hc2
    have cl2 := tW kids 122 false h hl hc2
    rw [e1] at cl1
    rw [e2] at cl2
    refine aJ Tryz.func57 rfl rfl (nb rfl) rfl ?_
    repeat' (first | refine aG ?_ | (refine aI ?_;  first | refine aD tabOk rfl rfl rfl (nb rfl) rfl ?_ | refine bE rfl rfl (nb rfl) ?_ | (refine aM rfl rfl rfl (nb rfl) rfl rfl rfl (fun hq => ?_) (fun hq => ?_) <;> (first | (simp only [sD, sE, sB, sC, sN, sM, sT, sF] at hq; try (exfalso; omega)) | skip)) | (refine bT rfl rfl rfl (nb rfl) rfl rfl rfl (oM _ _ _ _ _ _) (fun hq => ?_) (fun hq => ?_)) | (refine bT rfl rfl rfl (nb rfl) rfl rfl rfl (cl1) (fun hq => ?_) (fun hq => ?_)) | (refine bT rfl rfl rfl (nb rfl) rfl rfl rfl (cl2) (fun hq => ?_) (fun hq => ?_)) | (refine bT rfl rfl rfl (nb rfl) rfl rfl rfl (aBS _ (bS h (List.getElem_mem _))) (fun hq => ?_) (fun hq => ?_)) | (refine bT rfl rfl rfl (nb rfl) rfl rfl rfl (hc _ (cM (List.getElem_mem _)) (bS h (List.getElem_mem _))) (fun hq => ?_) (fun hq => ?_)) | refine bB tabOk rfl rfl (nb rfl) rfl ?_ | refine bN tabOk rfl rfl rfl (nb rfl) rfl rfl rfl rfl (by first | rfl | omega) (by first | omega | simp) ?_ | refine bC tabOk rfl rfl rfl (nb rfl) rfl rfl rfl (bX _ _ (by first | assumption | omega)) ?_) | (refine aN ?_;  first | refine aH ?_ | refine aQ ?_ | refine bH ?_ | refine aY ?_ | refine aT ?_ | refine aU ?_ | refine aA (b := true) rfl (fun _ => ?_) nTf | refine aA (b := false) rfl nFt (fun _ => ?_)) | (refine aK ?_;  first | refine aX ?_ | refine aR ?_) | (refine bA ?_;  first | refine bU ?_ | refine bF ?_))
    all_goals (refine aV (by first | exact .inl rfl | exact .inr rfl) (aZ rfl (aC rfl)) rfl ?_; refine cO ?_; clear cl1 cl2 hc hc2 ih e1 e2; by_cases h2 : kids.length = 2 <;> first | (obtain ⟨x, y, rfl⟩ := two h2; simp_all [isConP, isCons, isCon2, bareP, eqB, emptyB]; done) | (exfalso; omega) | (simp_all [isConP, eZ, bareP, eqB, emptyB]; done) | (simp_all [isConP, eZ, bareP, eqB, emptyB]; omega) | (rw [isConP]; cases hk : (k == 110) <;> simp_all [bareP, eqB, emptyB]; done))
end Go.Proofs.YtdajnmffoopcaaaGreatDoor.Ab
namespace Go.Proofs.YtdajnmffoopcaaaGreatDoor.Ab
set_option linter.unusedVariables false
set_option linter.unusedSimpArgs false
open Go.RowKit
attribute [local irreducible] AWP AOps AExit AThen ABlock ANoGoto FeetOk
theorem nC (l : List Tree) (j : Nat) (h : j < l.length) : Tree.sizes (l.take (j + 1)) = Tree.sizes (l.take j) + l[j].size := by
  have app : ∀ a b : List Tree, Tree.sizes (a ++ b) = Tree.sizes a + Tree.sizes b := by
    intro a b
    induction a with
    | nil => simp [Tree.sizes]
    | cons x a ih => rw [List.cons_append, Tree.sizes, Tree.sizes, ih]; omega
  rw [List.take_succ_eq_append_getElem h, app]
  simp [Tree.sizes]
theorem pV (l : List Tree) (j : Nat) : Tree.sizes (l.take j) ≤ Tree.sizes l := by
  induction l generalizing j with
  | nil => simp
  | cons x l ih =>
    cases j with
    | zero => simp [Tree.sizes]
    | succ j => rw [List.take_succ_cons, Tree.sizes, Tree.sizes]; have := ih j; omega
set_option maxHeartbeats 8000000 in
set_option maxRecDepth 10000 in
theorem aAK (t : Tree) : t.whole = true → ∀ left : Nat, t.size ≤ left → left ≤ 1000000 → ACalls Tryz.prog 56 [.imm t.iv, .imm (.lit (.int .i64 (left : Int)))] [] (.imm (.tup [.lit (.int .i64 ((left - t.size : Nat) : Int)), .lit (.int .i64 0)])) [] := by
  induction t using Tree.sind with
  | h t ih =>
    intro h left hs hle
    obtain ⟨k, n, a, b, kids, rfl⟩ := cF h
    have hsz : (Tree.node k n a b kids).size = 1 + Tree.sizes kids := rfl
    have hl : kids.length ≤ Tree.sizes kids := cC kids h
    refine aJ Tryz.func56 rfl rfl (nb rfl) rfl ?_
    repeat' (first | refine aG ?_ | (refine aI ?_;  first | refine aD tabOk rfl rfl rfl (nb rfl) rfl ?_ | (refine aM rfl rfl rfl (nb rfl) rfl rfl rfl (fun hq => ?_) (fun hq => ?_) <;> (first | (simp only [sD, sE, sB, sC, sN, sM, sT, sF] at hq; try (exfalso; omega)) | skip)) | refine bV (z := ((left - 1 : Nat) : Int)) rfl rfl rfl (nb rfl) rfl rfl (by omega) (by omega) (by omega) ?_ | refine bB tabOk rfl rfl (nb rfl) rfl ?_) | (refine aN ?_;  first | refine aH ?_ | refine aQ ?_ | refine aY ?_ | refine aU ?_ | refine aA (b := false) rfl nFt (fun _ => ?_)) | (refine aK ?_;  first | refine aX ?_))
    all_goals first | (exfalso; omega) | skip
    refine cI (ι := {j : Nat // j ≤ kids.length}) (fun j => S.f ⟨[(6, .imm (.lit (.int .i64 (j.1 : Int)))), (1, .imm (.lit (.int .i64 ((left - 1 - Tree.sizes (kids.take j.1) : Nat) : Int)))), (0, .imm (Tree.iv (.node k n a b kids)))], []⟩) (fun j => kids.length - j.1) ⟨0, Nat.zero_le _⟩ (cA (by repeat' first | exact trivial | refine ⟨rfl, ?_⟩) (by repeat' first | exact trivial | refine ⟨rfl, ?_⟩)) ?_
    rintro ⟨j, hj⟩
    dsimp only
    by_cases hlt : j < kids.length
    · have hst := nC kids j hlt
      have htl := pV kids (j + 1)
      have hmem := List.getElem_mem hlt
      have hiv := bX kids j hlt
      have c1 := ih kids[j] (cM hmem) (bS h hmem) (left - 1 - Tree.sizes (kids.take j)) (by omega) (by omega)
      have e : left - 1 - Tree.sizes (kids.take j) - kids[j].size = left - 1 - Tree.sizes (kids.take (j + 1)) := by omega
      rw [e] at c1
      obtain ⟨k1, n1, a1, b1, ks1, e1⟩ := cF (bS h hmem)
      rw [e1] at hiv c1
      repeat' (first | refine aG ?_ | (refine aI ?_;  first | refine aD tabOk rfl rfl rfl (nb rfl) rfl ?_ | (refine aM rfl rfl rfl (nb rfl) rfl rfl rfl (fun hq => ?_) (fun hq => ?_) <;> (first | (simp only [sD, sE, sB, sC, sN, sM, sT, sF] at hq; try (exfalso; omega)) | skip)) | refine bC tabOk rfl rfl rfl (nb rfl) rfl rfl rfl hiv ?_ | refine aE rfl rfl (nb rfl) rfl rfl rfl rfl (c1) ?_ | refine bP rfl rfl rfl (nb rfl) rfl rfl (by omega) ?_ | refine bB tabOk rfl rfl (nb rfl) rfl ?_ | refine bG tabOk rfl rfl rfl (nb rfl) rfl rfl rfl rfl (by first | assumption | omega) ?_) | (refine aN ?_;  first | refine aH ?_ | refine aQ ?_ | refine bH ?_ | refine aY ?_ | refine aU ?_ | refine aA (b := true) rfl (fun _ => ?_) nTf | refine aA (b := false) rfl nFt (fun _ => ?_)) | (refine aK ?_;  first | refine aX ?_) | (refine bA ?_;  first | refine bU ?_))
      all_goals first
        | (exfalso; omega)
        | exact absurd rfl (by assumption)
        | exact ⟨⟨j + 1, hlt⟩, (by show kids.length - (j + 1) < kids.length - j; omega), (cA (by repeat' first | exact trivial | refine ⟨rfl, ?_⟩) (by repeat' first | exact trivial | refine ⟨rfl, ?_⟩))⟩
    · have ej : j = kids.length := by omega
      subst ej
      rw [List.take_length]
      have e : left - (Tree.node k n a b kids).size = left - 1 - Tree.sizes kids := by omega
      rw [e]
      repeat' (first | refine aG ?_ | (refine aI ?_;  first | refine aD tabOk rfl rfl rfl (nb rfl) rfl ?_ | (refine aM rfl rfl rfl (nb rfl) rfl rfl rfl (fun hq => ?_) (fun hq => ?_) <;> (first | (simp only [sD, sE, sB, sC, sN, sM, sT, sF] at hq; try (exfalso; omega)) | skip)) | refine bB tabOk rfl rfl (nb rfl) rfl ?_) | (refine aN ?_;  first | refine aH ?_ | refine aQ ?_ | refine aT ?_ | refine bW ?_ | refine aA (b := false) rfl nFt (fun _ => ?_)) | (refine aK ?_;  first | refine aX ?_ | refine bM ?_) | (refine bA ?_;  first | refine bI ?_))
      all_goals first
        | (exfalso; omega)
        | (refine aV (by first | exact .inl rfl | exact .inr rfl) (bD rfl (aC rfl) (aC rfl)) rfl ?_; rfl)
set_option maxHeartbeats 4000000 in
set_option maxRecDepth 10000 in
theorem vZ (left : Int) : ACalls Tryz.prog 56 [.imm (Tree.iv .nil), .imm (.lit (.int .i64 left))] [] (.imm (.tup [.lit (.int .i64 left), .lit (.int .i64 1)])) [] := by
  refine aJ Tryz.func56 rfl rfl (nb rfl) rfl ?_
  repeat' (first | refine aG ?_ | (refine aI ?_;  first | refine aD tabOk rfl rfl rfl (nb rfl) rfl ?_ | refine bB tabOk rfl rfl (nb rfl) rfl ?_) | (refine aN ?_;  first | refine aH ?_ | refine aQ ?_ | refine aT ?_ | refine aA (b := true) rfl (fun _ => ?_) nTf) | (refine aK ?_;  first | refine aR ?_))
  all_goals (refine aV (by first | exact .inl rfl | exact .inr rfl) (bD rfl (aC rfl) (aC rfl)) rfl ?_; rfl)
set_option maxHeartbeats 4000000 in
set_option maxRecDepth 10000 in
theorem oS (t : Tree) (h : t.whole = true) (hs : t.size ≤ 65536) : ACalls Tryz.prog 24 [.imm t.iv] [] (.imm (.lit (.int .i64 (if isConP t = true then 0 else 16)))) [] := by
  have c1 := aAK t h 65536 hs (by omega)
  have c2 := aAJ t h (by omega)
  cases hc : isConP t with
  | true =>
    rw [hc] at c2
    rw [if_pos rfl]
    refine aJ Tryz.func24 rfl rfl (nb rfl) rfl ?_
    repeat' (first | refine aG ?_ | (refine aI ?_;  first | refine aD tabOk rfl rfl rfl (nb rfl) rfl ?_ | (refine aM rfl rfl rfl (nb rfl) rfl rfl rfl (fun hq => ?_) (fun hq => ?_) <;> (first | (simp only [sD, sE, sB, sC, sN, sM, sT, sF] at hq; try (exfalso; omega)) | skip)) | refine aE rfl rfl (nb rfl) rfl rfl rfl rfl (c1) ?_ | refine aE rfl rfl (nb rfl) rfl rfl rfl rfl (c2) ?_) | (refine aN ?_;  first | refine aH ?_ | refine aQ ?_ | refine aT ?_ | refine aU ?_ | refine aA (b := false) rfl nFt (fun _ => ?_)) | (refine aK ?_;  first | refine aX ?_))
    all_goals first
      | exact cL (by first | exact .inl rfl | exact .inr rfl) (aZ rfl (aC rfl)) rfl
      | exact absurd rfl (by assumption)
  | false =>
    rw [hc] at c2
    rw [if_neg (by simp)]
    refine aJ Tryz.func24 rfl rfl (nb rfl) rfl ?_
    repeat' (first | refine aG ?_ | (refine aI ?_;  first | refine aD tabOk rfl rfl rfl (nb rfl) rfl ?_ | (refine aM rfl rfl rfl (nb rfl) rfl rfl rfl (fun hq => ?_) (fun hq => ?_) <;> (first | (simp only [sD, sE, sB, sC, sN, sM, sT, sF] at hq; try (exfalso; omega)) | skip)) | refine aE rfl rfl (nb rfl) rfl rfl rfl rfl (c1) ?_ | refine aE rfl rfl (nb rfl) rfl rfl rfl rfl (c2) ?_) | (refine aN ?_;  first | refine aH ?_ | refine aQ ?_ | refine aT ?_ | refine aU ?_ | refine aA (b := true) rfl (fun _ => ?_) nTf | refine aA (b := false) rfl nFt (fun _ => ?_)) | (refine aK ?_;  first | refine aX ?_ | refine aR ?_))
    all_goals first
      | exact cL (by first | exact .inl rfl | exact .inr rfl) (aZ rfl (aC rfl)) rfl
      | exact absurd rfl (by assumption)
end Go.Proofs.YtdajnmffoopcaaaGreatDoor.Ab
namespace Go.Proofs.YtdajnmffoopcaaaGreatDoor.Ab
set_option linter.unusedVariables false
set_option linter.unusedSimpArgs false
open Go.RowKit
attribute [local irreducible] AWP AOps AExit AThen ABlock ANoGoto FeetOk
theorem qM (t : Tree) : t.whole = true → ∀ l : Int, (t.size : Int) ≤ l → wholeP t l = (0, l - t.size) := by
  induction t using Tree.ind with
  | h1 => intro h; simp [Tree.whole] at h
  | h2 k n a b kids ih =>
    intro h l hl
    have hz : (Tree.node k n a b kids).size = 1 + Tree.sizes kids := rfl
    rw [wholeP, if_neg (by omega)]
    have key : ∀ (ts : List Tree), (∀ t ∈ ts, t ∈ kids) → ∀ l : Int, (Tree.sizes ts : Int) ≤ l → wholePs ts l = (0, l - Tree.sizes ts) := by
      intro ts
      induction ts with
      | nil => intro _ l _; simp [wholePs, Tree.sizes]
      | cons x ts ihs =>
        intro hm l hl
        rw [Tree.sizes] at hl
        have hx := ih x (hm x List.mem_cons_self) (bS h (hm x List.mem_cons_self)) l (by omega)
        rw [wholePs, hx, if_pos rfl, ihs (fun t ht => hm t (List.mem_cons_of_mem _ ht)) _ (by omega), Tree.sizes]
        congr 1
        omega
    rw [key kids (fun t ht => ht) _ (by omega), hz]
    congr 1
    omega
theorem fM (form : Tree → Bool) (t : Tree) (h : t.whole = true) (hs : t.size ≤ 65536) : checkP form t = if form t = true then 0 else 16 := by
  unfold checkP
  rw [qM t h 65536 (by omega), if_pos rfl]
end Go.Proofs.YtdajnmffoopcaaaGreatDoor.Ab
namespace Go.Proofs.YtdajnmffoopcaaaGreatDoor.Ab
set_option linter.unusedVariables false
set_option linter.unusedSimpArgs false
open Go.RowKit
attribute [local irreducible] AWP AOps AExit AThen ABlock ANoGoto FeetOk
theorem lI (n : Int) (a b : ByteArray) : sbareP n a b false false = (eqB b emptyB && eqB a emptyB && (n == 0)) := by unfold sbareP; simp
theorem aAL (n : Int) (a b : ByteArray) : sbareP n a b true false = (eqB b emptyB && (n == 0)) := by unfold sbareP; simp
set_option maxHeartbeats 16000000 in
set_option maxRecDepth 10000 in
theorem wA (k n : Int) (a b : ByteArray) (kids : List Tree) (hb : sbareP n a b false false = true) (hk : k = 162) (h : Tree.wholes kids = true) (hl : kids.length < 1000000000)
    (hc : ∀ t', t'.size < (Tree.node k n a b kids).size → t'.whole = true → ACalls Tryz.prog 53 [.imm t'.iv] [] (.imm (.lit (.bool (isSigP t')))) []) :
    ACalls Tryz.prog 53 [.imm (Tree.iv (.node k n a b kids))] [] (.imm (.lit (.bool (sfieldPs kids && risingP kids)))) [] := by
  subst hk
  rw [lI] at hb
  simp only [Bool.and_eq_true, beq_iff_eq, dO] at hb
  obtain ⟨⟨rfl, rfl⟩, rfl⟩ := hb
  refine aJ Tryz.func53 rfl rfl (nb rfl) rfl ?_
  repeat' (first | refine aG ?_ | (refine aI ?_;  first | refine aD tabOk rfl rfl rfl (nb rfl) rfl ?_ | refine bE rfl rfl (nb rfl) ?_ | (refine aM rfl rfl rfl (nb rfl) rfl rfl rfl (fun hq => ?_) (fun hq => ?_) <;> (first | (simp only [sD, sE, sB, sC, sN, sM, sT, sF] at hq; try (exfalso; omega)) | skip))) | (refine aN ?_;  first | refine aH ?_ | refine aQ ?_ | refine aY ?_ | refine aT ?_ | refine aU ?_ | refine aA (b := true) rfl (fun _ => ?_) nTf | refine aA (b := false) rfl nFt (fun _ => ?_)) | (refine aK ?_;  first | refine aX ?_ | refine aR ?_))
  all_goals first
    | exact absurd rfl (by assumption)
    | (exfalso; omega)
    | skip
  refine cI (ι := {j : Nat // j ≤ kids.length ∧ (∀ i (hi : i < kids.length), i < j → okSField kids[i] = true) ∧ ∀ i (hi : i + 1 < kids.length), i + 1 < j → ltB (kids[i]'(by omega)).name kids[i + 1].name = true}) (fun j => S.f ⟨[(4, .imm (.lit (.int .i64 (j.1 : Int)))), (3, .imm (.sl false kids.length (Tree.ivs kids)))], []⟩) (fun j => kids.length - j.1) ⟨0, Nat.zero_le _, fun i _ hi => absurd hi (Nat.not_lt_zero _), fun i _ hi => absurd hi (Nat.not_lt_zero _)⟩ (cA (by repeat' first | exact trivial | refine ⟨rfl, ?_⟩) (by repeat' first | exact trivial | refine ⟨rfl, ?_⟩)) ?_
  rintro ⟨j, hj, hok, hri⟩
  dsimp only
  by_cases hlt : j < kids.length
  · obtain ⟨k1, n1, a1, b1, ks1, e1, hget, hw1⟩ := gM h hlt
    have hsz : ∀ i (hi : i < ks1.length), ks1[i].size < (Tree.node 162 0 emptyB emptyB kids).size := fun i hi => by
      have h1 := cM (k := k1) (n := n1) (a := a1) (b := b1) (List.getElem_mem hi)
      have h2 := cM (k := 162) (n := 0) (a := emptyB) (b := emptyB) (List.getElem_mem hlt)
      rw [e1] at h2
      omega
    have hbad : okSField (Tree.node k1 n1 a1 b1 ks1) = false → (sfieldPs kids && risingP kids) = false := fun hb => by
      rw [eU, iW hlt (by rw [e1]; exact hb)]; rfl
    have hgood : okSField (Tree.node k1 n1 a1 b1 ks1) = true → ∀ i (hi : i < kids.length), i < j + 1 → okSField kids[i] = true := fun hb i hi hij => by
      by_cases e : i = j
      · subst e; rw [e1]; exact hb
      · exact hok i hi (by omega)
    have hS : okSField (Tree.node k1 n1 a1 b1 ks1) = (k1 == 163 && (eqB b1 emptyB && (n1 == 0)) && labelP a1 && sigOne ks1) := by rw [← aAL n1 a1 b1]; rfl
    rw [hS] at hbad hgood
    clear hS
    by_cases hj0 : j = 0
    · have hrn : ∀ i (hi : i + 1 < kids.length), i + 1 < j + 1 → ltB (kids[i]'(by omega)).name kids[i + 1].name = true := fun i hi hij => by omega
      repeat' (first | refine aG ?_ | (refine aI ?_;  first | refine aD tabOk rfl rfl rfl (nb rfl) rfl ?_ | refine bE rfl rfl (nb rfl) ?_ | (refine aM rfl rfl rfl (nb rfl) rfl rfl rfl (fun hq => ?_) (fun hq => ?_) <;> (first | (simp only [sD, sE, sB, sC, sN, sM, sT, sF] at hq; try (exfalso; omega)) | skip)) | (refine bT rfl rfl rfl (nb rfl) rfl rfl rfl (hc _ (hsz _ _) (bS hw1 (List.getElem_mem _))) (fun hq => ?_) (fun hq => ?_)) | refine bP rfl rfl rfl (nb rfl) rfl rfl (by omega) ?_ | refine bB tabOk rfl rfl (nb rfl) rfl ?_ | refine bG tabOk rfl rfl rfl (nb rfl) rfl rfl rfl rfl (by first | assumption | omega) ?_ | refine bN tabOk rfl rfl rfl (nb rfl) rfl rfl rfl rfl (by first | rfl | omega) (by first | omega | simp) ?_ | refine bC tabOk rfl rfl rfl (nb rfl) rfl rfl rfl (by assumption) ?_ | refine bC tabOk rfl rfl rfl (nb rfl) rfl rfl rfl (bX _ _ (by first | assumption | omega)) ?_) | (refine aN ?_;  first | refine aH ?_ | refine aQ ?_ | refine bH ?_ | refine aY ?_ | refine aT ?_ | refine aU ?_ | refine aA (b := true) rfl (fun _ => ?_) nTf | refine aA (b := false) rfl nFt (fun _ => ?_) | refine aW mixed (by kernel_rfl) ?_) | (refine aK ?_;  first | refine aX ?_ | refine aR ?_) | (refine bA ?_;  first | refine bU ?_ | refine bF ?_) | refine bQ (bL (by kernel_rfl)) ?_)
      all_goals first
        | (refine aV (by first | exact .inl rfl | exact .inr rfl) (aZ rfl (aC rfl)) rfl ?_; refine cO (hbad ?_).symm; by_cases h1 : ks1.length = 1 <;> first | (obtain ⟨c, rfl⟩ := one_of h1; simp_all [sigOne, labelP, eqB, emptyB]; done) | (obtain ⟨c, rfl⟩ := one_of h1; simp_all [sigOne, labelP, eqB, emptyB]; omega) | (exfalso; omega) | (simp_all [gY]; done))
        | (exfalso; omega)
        | exact ⟨⟨j + 1, hlt, hgood (by obtain ⟨c, rfl⟩ := one_of (l := ks1) (by omega); first | (simp_all [sigOne, labelP, eqB, emptyB]; done) | (simp_all [sigOne, labelP, eqB, emptyB]; omega)), hrn⟩, (by show kids.length - (j + 1) < kids.length - j; omega), (cA (by repeat' first | exact trivial | refine ⟨rfl, ?_⟩) (by repeat' first | exact trivial | refine ⟨rfl, ?_⟩))⟩
    · obtain ⟨k0, n0, a0, b0, ks0, e0, hget0, hw0⟩ := gM h (j := ((j : Int) - 1).toNat) (by omega)
      have e2 : ∀ i, i + 1 = j → ∀ (hi : i + 1 < kids.length), ltB (kids[i]'(by omega)).name kids[i + 1].name = Op.bytesLess a0.toList a1.toList := fun i hij hi => by
        have hi2 : ((j : Int) - 1).toNat = i := by omega
        have x0 : kids[i]'(by omega) = Tree.node k0 n0 a0 b0 ks0 := by simpa only [hi2] using e0
        have x1 : kids[i + 1] = Tree.node k1 n1 a1 b1 ks1 := by simpa only [hij] using e1
        rw [x0, x1]; rfl
      have hrbad : Op.bytesLess a0.toList a1.toList = false → (sfieldPs kids && risingP kids) = false := fun hb => by
        rw [Bool.and_eq_false_iff]
        right
        rw [Bool.eq_false_iff]
        intro hr
        rw [dR] at hr
        have := hr (j - 1) (by omega)
        rw [e2 (j - 1) (by omega)] at this
        rw [hb] at this; cases this
      have hrn : Op.bytesLess a0.toList a1.toList = true → ∀ i (hi : i + 1 < kids.length), i + 1 < j + 1 → ltB (kids[i]'(by omega)).name kids[i + 1].name = true := fun hb i hi hij => by
        by_cases e : i + 1 = j
        · rw [e2 i e]; exact hb
        · exact hri i hi (by omega)
      clear e2
      repeat' (first | refine aG ?_ | (refine aI ?_;  first | refine aD tabOk rfl rfl rfl (nb rfl) rfl ?_ | refine bE rfl rfl (nb rfl) ?_ | (refine aM rfl rfl rfl (nb rfl) rfl rfl rfl (fun hq => ?_) (fun hq => ?_) <;> (first | (simp only [sD, sE, sB, sC, sN, sM, sT, sF] at hq; try (exfalso; omega)) | skip)) | (refine bT rfl rfl rfl (nb rfl) rfl rfl rfl (hc _ (hsz _ _) (bS hw1 (List.getElem_mem _))) (fun hq => ?_) (fun hq => ?_)) | refine bP rfl rfl rfl (nb rfl) rfl rfl (by omega) ?_ | refine bV rfl rfl rfl (nb rfl) rfl rfl rfl (by omega) (by omega) ?_ | refine bB tabOk rfl rfl (nb rfl) rfl ?_ | refine bG tabOk rfl rfl rfl (nb rfl) rfl rfl rfl rfl (by first | assumption | omega) ?_ | refine bN tabOk rfl rfl rfl (nb rfl) rfl rfl rfl rfl (by first | rfl | omega) (by first | omega | simp) ?_ | refine bC tabOk rfl rfl rfl (nb rfl) rfl rfl rfl (by assumption) ?_ | refine bC tabOk rfl rfl rfl (nb rfl) rfl rfl rfl (bX _ _ (by first | assumption | omega)) ?_) | (refine aN ?_;  first | refine aH ?_ | refine aQ ?_ | refine bH ?_ | refine aY ?_ | refine aT ?_ | refine aU ?_ | refine aA (b := true) rfl (fun _ => ?_) nTf | refine aA (b := false) rfl nFt (fun _ => ?_) | refine aW mixed (by kernel_rfl) ?_) | (refine aK ?_;  first | refine aX ?_ | refine aR ?_) | (refine bA ?_;  first | refine bU ?_ | refine bF ?_) | refine bQ (bL (by kernel_rfl)) ?_)
      all_goals first
        | (refine aV (by first | exact .inl rfl | exact .inr rfl) (aZ rfl (aC rfl)) rfl ?_; refine cO (hbad ?_).symm; by_cases h1 : ks1.length = 1 <;> first | (obtain ⟨c, rfl⟩ := one_of h1; simp_all [sigOne, labelP, eqB, emptyB]; done) | (obtain ⟨c, rfl⟩ := one_of h1; simp_all [sigOne, labelP, eqB, emptyB]; omega) | (exfalso; omega) | (simp_all [gY]; done))
        | (refine aV (by first | exact .inl rfl | exact .inr rfl) (aZ rfl (aC rfl)) rfl ?_; refine cO (hrbad ?_).symm; simp_all; done)
        | (exfalso; omega)
        | exact ⟨⟨j + 1, hlt, hgood (by obtain ⟨c, rfl⟩ := one_of (l := ks1) (by omega); first | (simp_all [sigOne, labelP, eqB, emptyB]; done) | (simp_all [sigOne, labelP, eqB, emptyB]; omega)), hrn (by simp_all)⟩, (by show kids.length - (j + 1) < kids.length - j; omega), (cA (by repeat' first | exact trivial | refine ⟨rfl, ?_⟩) (by repeat' first | exact trivial | refine ⟨rfl, ?_⟩))⟩
  · repeat' (first | refine aG ?_ | (refine aI ?_;  first | refine aD tabOk rfl rfl rfl (nb rfl) rfl ?_ | (refine aM rfl rfl rfl (nb rfl) rfl rfl rfl (fun hq => ?_) (fun hq => ?_) <;> (first | (simp only [sD, sE, sB, sC, sN, sM, sT, sF] at hq; try (exfalso; omega)) | skip)) | refine bB tabOk rfl rfl (nb rfl) rfl ?_) | (refine aN ?_;  first | refine aH ?_ | refine aQ ?_ | refine aT ?_ | refine bW ?_ | refine aA (b := false) rfl nFt (fun _ => ?_)) | (refine aK ?_;  first | refine aX ?_ | refine bM ?_) | (refine bA ?_;  first | refine bI ?_))
    all_goals (refine aV (by first | exact .inl rfl | exact .inr rfl) (aZ rfl (aC rfl)) rfl ?_; refine cO ?_; rw [eU, iE fun i hi => hok i hi (by omega), Bool.true_and]; symm; rw [dR]; exact fun i hi => hri i hi (by omega))
end Go.Proofs.YtdajnmffoopcaaaGreatDoor.Ab
namespace Go.Proofs.YtdajnmffoopcaaaGreatDoor.Ab
set_option linter.unusedVariables false
set_option linter.unusedSimpArgs false
open Go.RowKit
attribute [local irreducible] AWP AOps AExit AThen ABlock ANoGoto FeetOk
set_option maxHeartbeats 16000000 in
set_option maxRecDepth 10000 in
theorem rT (t : Tree) : t.whole = true → t.size ≤ 65536 → ACalls Tryz.prog 53 [.imm t.iv] [] (.imm (.lit (.bool (isSigP t)))) [] := by
  induction t using Tree.sind with
  | h t ih =>
    intro h hs
    obtain ⟨k, n, a, b, kids, rfl⟩ := cF h
    have hl : kids.length < 1000000000 := by have := cC kids h; simp only [Tree.size] at hs; omega
    obtain ⟨q, hQ0⟩ : ∃ q, isSigP (.node k n a b kids) = q := ⟨_, rfl⟩
    rw [hQ0]
    rw [isSigP] at hQ0
    cases hb : sbareP n a b false false with
    | false =>
      rw [hb, Bool.false_and] at hQ0
      subst hQ0
      rw [lI] at hb
      have hb : b.toList = emptyB.toList → a.toList = emptyB.toList → n = 0 → False := fun h1 h2 h3 => by
        have e1 : eqB b emptyB = true := by unfold eqB; rw [h1]; simp
        have e2 : eqB a emptyB = true := by unfold eqB; rw [h2]; simp
        rw [e1, e2, h3] at hb
        cases hb
      clear ih
      refine aJ Tryz.func53 rfl rfl (nb rfl) rfl ?_
      repeat' (first | refine aG ?_ | (refine aI ?_;  first | refine aD tabOk rfl rfl rfl (nb rfl) rfl ?_ | refine bE rfl rfl (nb rfl) ?_ | (refine aM rfl rfl rfl (nb rfl) rfl rfl rfl (fun hq => ?_) (fun hq => ?_) <;> (first | (simp only [sD, sE, sB, sC, sN, sM, sT, sF] at hq; try (exfalso; omega)) | skip)) | refine bB tabOk rfl rfl (nb rfl) rfl ?_ | refine bN tabOk rfl rfl rfl (nb rfl) rfl rfl rfl rfl (by first | rfl | omega) (by first | omega | simp) ?_ | refine bC tabOk rfl rfl rfl (nb rfl) rfl rfl rfl (bX _ _ (by first | assumption | omega)) ?_) | (refine aN ?_;  first | refine aH ?_ | refine aQ ?_ | refine aY ?_ | refine aT ?_ | refine aU ?_ | refine aA (b := true) rfl (fun _ => ?_) nTf | refine aA (b := false) rfl nFt (fun _ => ?_)) | (refine aK ?_;  first | refine aX ?_ | refine aR ?_))
      all_goals first
        | exact absurd rfl (by assumption)
        | exact (hb (by assumption) (by assumption) (by assumption)).elim
        | (refine aV (by first | exact .inl rfl | exact .inr rfl) (aZ rfl (aC rfl)) rfl ?_; rfl)
    | true =>
      rw [hb, Bool.true_and] at hQ0
      by_cases hk : k = 160 ∨ k = 161
      · rw [if_pos hk] at hQ0
        rw [lI] at hb
        simp only [Bool.and_eq_true, beq_iff_eq, dO] at hb
        obtain ⟨⟨rfl, rfl⟩, rfl⟩ := hb
        by_cases h1 : kids.length = 1
        · obtain ⟨c, rfl⟩ := one_of h1
          have hz := cM (k := k) (n := 0) (a := emptyB) (b := emptyB) (kids := [c]) (t := c) (by simp)
          have hwc := bS h (List.mem_singleton.2 rfl)
          have c1 := oS c hwc (by omega)
          rw [sig1, fM isConP c hwc (by omega)] at hQ0
          generalize (if isConP c = true then (0 : Int) else 16) = C at *
          clear ih
          refine aJ Tryz.func53 rfl rfl (nb rfl) rfl ?_
          repeat' (first | refine aG ?_ | (refine aI ?_;  first | refine aD tabOk rfl rfl rfl (nb rfl) rfl ?_ | refine bE rfl rfl (nb rfl) ?_ | (refine aM rfl rfl rfl (nb rfl) rfl rfl rfl (fun hq => ?_) (fun hq => ?_) <;> (first | (simp only [sD, sE, sB, sC, sN, sM, sT, sF] at hq; try (exfalso; omega)) | skip)) | refine aE rfl rfl (nb rfl) rfl rfl rfl rfl (c1) ?_ | refine bB tabOk rfl rfl (nb rfl) rfl ?_ | refine bN tabOk rfl rfl rfl (nb rfl) rfl rfl rfl rfl (by first | rfl | omega) (by first | omega | simp) ?_) | (refine aN ?_;  first | refine aH ?_ | refine aQ ?_ | refine aT ?_ | refine aU ?_ | refine aA (b := true) rfl (fun _ => ?_) nTf | refine aA (b := false) rfl nFt (fun _ => ?_)) | (refine aK ?_;  first | refine aX ?_ | refine aR ?_))
          all_goals first
            | exact absurd rfl (by assumption)
            | (exfalso; omega)
            | (refine aV (by first | exact .inl rfl | exact .inr rfl) (aZ rfl (aC rfl)) rfl ?_; refine cO ?_; subst hQ0; simp_all)
        · rw [nH h1] at hQ0
          subst hQ0
          clear ih
          refine aJ Tryz.func53 rfl rfl (nb rfl) rfl ?_
          repeat' (first | refine aG ?_ | (refine aI ?_;  first | refine aD tabOk rfl rfl rfl (nb rfl) rfl ?_ | refine bE rfl rfl (nb rfl) ?_ | (refine aM rfl rfl rfl (nb rfl) rfl rfl rfl (fun hq => ?_) (fun hq => ?_) <;> (first | (simp only [sD, sE, sB, sC, sN, sM, sT, sF] at hq; try (exfalso; omega)) | skip)) | refine bB tabOk rfl rfl (nb rfl) rfl ?_) | (refine aN ?_;  first | refine aH ?_ | refine aQ ?_ | refine aT ?_ | refine aU ?_ | refine aA (b := true) rfl (fun _ => ?_) nTf | refine aA (b := false) rfl nFt (fun _ => ?_)) | (refine aK ?_;  first | refine aX ?_ | refine aR ?_))
          all_goals first
            | exact absurd rfl (by assumption)
            | (exfalso; omega)
            | (refine aV (by first | exact .inl rfl | exact .inr rfl) (aZ rfl (aC rfl)) rfl ?_; rfl)
      · rw [if_neg hk] at hQ0
        by_cases h162 : k = 162
        · rw [if_pos h162] at hQ0
          have := wA k n a b kids hb h162 h hl (fun t' h1 h2 => ih t' h1 h2 (by omega))
          rw [hQ0] at this
          exact this
        · rw [if_neg h162] at hQ0
          subst hQ0
          rw [lI] at hb
          simp only [Bool.and_eq_true, beq_iff_eq, dO] at hb
          obtain ⟨⟨rfl, rfl⟩, rfl⟩ := hb
          clear ih
          refine aJ Tryz.func53 rfl rfl (nb rfl) rfl ?_
          repeat' (first | refine aG ?_ | (refine aI ?_;  first | refine aD tabOk rfl rfl rfl (nb rfl) rfl ?_ | refine bE rfl rfl (nb rfl) ?_ | (refine aM rfl rfl rfl (nb rfl) rfl rfl rfl (fun hq => ?_) (fun hq => ?_) <;> (first | (simp only [sD, sE, sB, sC, sN, sM, sT, sF] at hq; try (exfalso; omega)) | skip))) | (refine aN ?_;  first | refine aH ?_ | refine aQ ?_ | refine aT ?_ | refine aU ?_ | refine aA (b := true) rfl (fun _ => ?_) nTf | refine aA (b := false) rfl nFt (fun _ => ?_)) | (refine aK ?_;  first | refine aX ?_ | refine aR ?_))
          all_goals first
            | exact absurd rfl (by assumption)
            | exact absurd (by assumption) h162
            | (exfalso; omega)
            | (refine aV (by first | exact .inl rfl | exact .inr rfl) (aZ rfl (aC rfl)) rfl ?_; rfl)
theorem aAM (n : Int) (a b : ByteArray) : sbareP n a b false true = (eqB b emptyB && eqB a emptyB && decide (0 ≤ n ∧ n ≤ 8192)) := by
  unfold sbareP
  rw [Bool.false_or, Bool.true_and]
  congr 1
  rw [Bool.eq_iff_iff]
  simp
  omega
set_option maxHeartbeats 16000000 in
set_option maxRecDepth 10000 in
theorem tX (k n : Int) (a b : ByteArray) (kids : List Tree) (kind cnt : Int) (hl : kids.length < 1000000000) : ACalls Tryz.prog 55 [.imm (Tree.iv (.node k n a b kids)), .imm (.lit (.int .i64 kind)), .imm (.lit (.int .i64 cnt))] [] (.imm (.lit (.bool ((k == kind) && sbareP n a b false true && ((kids.length : Int) == cnt))))) [] := by
  rw [aAM]
  refine aJ Tryz.func55 rfl rfl (nb rfl) rfl ?_
  repeat' (first | refine aG ?_ | (refine aI ?_;  first | refine aD tabOk rfl rfl rfl (nb rfl) rfl ?_ | refine bE rfl rfl (nb rfl) ?_ | (refine aM rfl rfl rfl (nb rfl) rfl rfl rfl (fun hq => ?_) (fun hq => ?_) <;> (first | (simp only [sD, sE, sB, sC, sN, sM, sT, sF] at hq; try (exfalso; omega)) | skip)) | refine bB tabOk rfl rfl (nb rfl) rfl ?_) | (refine aN ?_;  first | refine aH ?_ | refine aT ?_))
  all_goals (refine aV (by first | exact .inl rfl | exact .inr rfl) (aZ rfl (aC rfl)) rfl ?_; refine cO ?_; first | (simp_all [eqB, emptyB]; done) | (simp_all [eqB, emptyB]; omega))
set_option maxHeartbeats 8000000 in
set_option maxRecDepth 10000 in
theorem aCs (t : Tree) (h : t.whole = true) (hs : t.size ≤ 65536) : ACalls Tryz.prog 54 [.imm t.iv] [] (.imm (.lit (.bool (isExP t)))) [] := by
  obtain ⟨k, n, a, b, kids, rfl⟩ := cF h
  have hl : kids.length < 1000000000 := by have := cC kids h; simp only [Tree.size] at hs; omega
  have c1 := tX k n a b kids 164 1 hl
  by_cases h1 : kids.length = 1
  · obtain ⟨c, rfl⟩ := one_of h1
    have hz := cM (k := k) (n := n) (a := a) (b := b) (kids := [c]) (t := c) (by simp)
    have c2 := rT c (bS h (by simp)) (by omega)
    rw [isExP]
    rw [show (([c].length : Int) == 1) = true from rfl, Bool.and_true] at c1
    generalize ((k == 164) && sbareP n a b false true) = B at *
    generalize isSigP c = F at *
    refine aJ Tryz.func54 rfl rfl (nb rfl) rfl ?_
    repeat' (first | refine aG ?_ | (refine aI ?_;  first | refine aD tabOk rfl rfl rfl (nb rfl) rfl ?_ | refine bE rfl rfl (nb rfl) ?_ | (refine bT rfl rfl rfl (nb rfl) rfl rfl rfl (c1) (fun hq => ?_) (fun hq => ?_)) | (refine bT rfl rfl rfl (nb rfl) rfl rfl rfl (c2) (fun hq => ?_) (fun hq => ?_)) | refine bN tabOk rfl rfl rfl (nb rfl) rfl rfl rfl rfl (by first | rfl | omega) (by first | omega | simp) ?_) | (refine aN ?_;  first | refine aH ?_ | refine aT ?_))
    all_goals (refine aV (by first | exact .inl rfl | exact .inr rfl) (aZ rfl (aC rfl)) rfl ?_; refine cO ?_; simp_all)
  · rw [oI h1]
    rw [show ((kids.length : Int) == 1) = false from beq_eq_false_iff_ne.2 (by omega), Bool.and_false] at c1
    refine aJ Tryz.func54 rfl rfl (nb rfl) rfl ?_
    repeat' (first | refine aG ?_ | (refine aI ?_;  first | refine aD tabOk rfl rfl rfl (nb rfl) rfl ?_ | refine bE rfl rfl (nb rfl) ?_ | refine aE rfl rfl (nb rfl) rfl rfl rfl rfl (c1) ?_) | (refine aN ?_;  first | refine aH ?_ | refine aT ?_))
    all_goals first
      | exact absurd rfl (by assumption)
      | exact cL (by first | exact .inl rfl | exact .inr rfl) (aZ rfl (aC rfl)) rfl
set_option maxHeartbeats 16000000 in
set_option maxRecDepth 10000 in
theorem fB (t : Tree) (hw : t = .nil ∨ t.whole = true) (hs : t.size ≤ 65536) : ACalls Tryz.prog 23 [.imm t.iv] [] (.imm (.lit (.int .i64 (checkP sformP t)))) [] := by
  rcases hw with rfl | hw
  · have c1 : ACalls Tryz.prog 24 [.imm (Tree.iv .nil)] [] (.imm (.lit (.int .i64 1))) [] := by
      have c0 : ACalls Tryz.prog 56 [.imm (Tree.iv .nil), .imm (.lit (.int .i64 65536))] [] (.imm (.tup [.lit (.int .i64 65536), .lit (.int .i64 1)])) [] := by
        refine aJ Tryz.func56 rfl rfl (nb rfl) rfl ?_
        repeat' (first | refine aG ?_ | (refine aI ?_;  first | refine aD tabOk rfl rfl rfl (nb rfl) rfl ?_ | refine bB tabOk rfl rfl (nb rfl) rfl ?_) | (refine aN ?_;  first | refine aH ?_ | refine aQ ?_ | refine aT ?_ | refine aA (b := true) rfl (fun _ => ?_) nTf) | (refine aK ?_;  first | refine aR ?_))
        all_goals first
          | exact absurd rfl (by assumption)
          | (refine aV (by first | exact .inl rfl | exact .inr rfl) (bD rfl (aC rfl) (aC rfl)) rfl ?_; rfl)
      refine aJ Tryz.func24 rfl rfl (nb rfl) rfl ?_
      repeat' (first | refine aG ?_ | (refine aI ?_;  first | refine aD tabOk rfl rfl rfl (nb rfl) rfl ?_ | (refine aM rfl rfl rfl (nb rfl) rfl rfl rfl (fun hq => ?_) (fun hq => ?_) <;> (first | (simp only [sD, sE, sB, sC, sN, sM, sT, sF] at hq; try (exfalso; omega)) | skip)) | refine aE rfl rfl (nb rfl) rfl rfl rfl rfl (c0) ?_) | (refine aN ?_;  first | refine aH ?_ | refine aQ ?_ | refine aT ?_ | refine aA (b := true) rfl (fun _ => ?_) nTf) | (refine aK ?_;  first | refine aR ?_))
      all_goals first
        | exact absurd rfl (by assumption)
        | (refine aV (by first | exact .inl rfl | exact .inr rfl) (aZ rfl (aC rfl)) rfl ?_; rfl)
    rw [show checkP sformP .nil = 1 from rfl]
    refine aJ Tryz.func23 rfl rfl (nb rfl) rfl ?_
    repeat' (first | refine aG ?_ | (refine aI ?_;  first | refine aD tabOk rfl rfl rfl (nb rfl) rfl ?_ | refine bE rfl rfl (nb rfl) ?_ | (refine aM rfl rfl rfl (nb rfl) rfl rfl rfl (fun hq => ?_) (fun hq => ?_) <;> (first | (simp only [sD, sE, sB, sC, sN, sM, sT, sF] at hq; try (exfalso; omega)) | skip)) | refine aE rfl rfl (nb rfl) rfl rfl rfl rfl (c1) ?_) | (refine aN ?_;  first | refine aH ?_ | refine aQ ?_ | refine aT ?_ | refine aA (b := true) rfl (fun _ => ?_) nTf) | (refine aK ?_;  first | refine aR ?_))
    all_goals first
      | exact absurd rfl (by assumption)
      | (refine aV (by first | exact .inl rfl | exact .inr rfl) (aZ rfl (aC rfl)) rfl ?_; rfl)
  · have c1 := oS t hw hs
    have c2 := rT t hw hs
    have c3 := aCs t hw hs
    rw [fM sformP t hw hs]
    obtain ⟨k, n, a, b, kids, rfl⟩ := cF hw
    have hl : kids.length < 1000000000 := by have := cC kids hw; simp only [Tree.size] at hs; omega
    have c4 := tX k n a b kids 165 2 hl
    unfold sformP
    have hC : (if isConP (.node k n a b kids) = true then (0 : Int) else 16) ≠ 1 ∧ (if isConP (.node k n a b kids) = true then (0 : Int) else 16) ≠ 3 := by split <;> omega
    generalize (if isConP (.node k n a b kids) = true then (0 : Int) else 16) = C at *
    obtain ⟨hC1, hC3⟩ := hC
    by_cases h1 : kids.length = 2
    · obtain ⟨x, y, rfl⟩ := two h1
      have hz := cM (k := k) (n := n) (a := a) (b := b) (kids := [x, y]) (t := x) (by simp)
      have hz2 := cM (k := k) (n := n) (a := a) (b := b) (kids := [x, y]) (t := y) (by simp)
      have c5 := rT x (bS hw (by simp)) (by omega)
      have c6 := aCs y (bS hw (by simp)) (by omega)
      rw [show (([x, y].length : Int) == 2) = true from rfl, Bool.and_true] at c4
      rw [isFunP]
      generalize ((k == 165) && sbareP n a b false true) = B at *
      generalize isSigP x = F at *
      generalize isExP y = G at *
      generalize isSigP (.node k n a b [x, y]) = S1 at *
      generalize isExP (.node k n a b [x, y]) = S2 at *
      refine aJ Tryz.func23 rfl rfl (nb rfl) rfl ?_
      repeat' (first | refine aG ?_ | (refine aI ?_;  first | refine aD tabOk rfl rfl rfl (nb rfl) rfl ?_ | refine bE rfl rfl (nb rfl) ?_ | (refine aM rfl rfl rfl (nb rfl) rfl rfl rfl (fun hq => ?_) (fun hq => ?_) <;> (first | (simp only [sD, sE, sB, sC, sN, sM, sT, sF] at hq; try (exfalso; omega)) | skip)) | refine aE rfl rfl (nb rfl) rfl rfl rfl rfl (c1) ?_ | (refine bT rfl rfl rfl (nb rfl) rfl rfl rfl (c2) (fun hq => ?_) (fun hq => ?_)) | (refine bT rfl rfl rfl (nb rfl) rfl rfl rfl (c3) (fun hq => ?_) (fun hq => ?_)) | (refine bT rfl rfl rfl (nb rfl) rfl rfl rfl (c4) (fun hq => ?_) (fun hq => ?_)) | (refine bT rfl rfl rfl (nb rfl) rfl rfl rfl (c5) (fun hq => ?_) (fun hq => ?_)) | (refine bT rfl rfl rfl (nb rfl) rfl rfl rfl (c6) (fun hq => ?_) (fun hq => ?_)) | refine bN tabOk rfl rfl rfl (nb rfl) rfl rfl rfl rfl (by first | rfl | omega) (by first | omega | simp) ?_) | (refine aN ?_;  first | refine aH ?_ | refine aQ ?_ | refine aT ?_ | refine aU ?_ | refine aA (b := true) rfl (fun _ => ?_) nTf | refine aA (b := false) rfl nFt (fun _ => ?_)) | (refine aK ?_;  first | refine aX ?_ | refine aR ?_))
      all_goals first
        | exact absurd rfl (by assumption)
        | exact absurd (by assumption) hC1
        | exact absurd (by assumption) hC3
        | (refine aV (by first | exact .inl rfl | exact .inr rfl) (aZ rfl (aC rfl)) rfl ?_; refine fU ?_; simp_all)
    · rw [lW h1, Bool.or_false]
      rw [show ((kids.length : Int) == 2) = false from beq_eq_false_iff_ne.2 (by omega), Bool.and_false] at c4
      generalize isSigP (.node k n a b kids) = S1 at *
      generalize isExP (.node k n a b kids) = S2 at *
      refine aJ Tryz.func23 rfl rfl (nb rfl) rfl ?_
      repeat' (first | refine aG ?_ | (refine aI ?_;  first | refine aD tabOk rfl rfl rfl (nb rfl) rfl ?_ | refine bE rfl rfl (nb rfl) ?_ | (refine aM rfl rfl rfl (nb rfl) rfl rfl rfl (fun hq => ?_) (fun hq => ?_) <;> (first | (simp only [sD, sE, sB, sC, sN, sM, sT, sF] at hq; try (exfalso; omega)) | skip)) | refine aE rfl rfl (nb rfl) rfl rfl rfl rfl (c1) ?_ | (refine bT rfl rfl rfl (nb rfl) rfl rfl rfl (c2) (fun hq => ?_) (fun hq => ?_)) | (refine bT rfl rfl rfl (nb rfl) rfl rfl rfl (c3) (fun hq => ?_) (fun hq => ?_)) | refine aE rfl rfl (nb rfl) rfl rfl rfl rfl (c4) ?_) | (refine aN ?_;  first | refine aH ?_ | refine aQ ?_ | refine aT ?_ | refine aU ?_ | refine aA (b := true) rfl (fun _ => ?_) nTf | refine aA (b := false) rfl nFt (fun _ => ?_)) | (refine aK ?_;  first | refine aX ?_ | refine aR ?_))
      all_goals first
        | exact absurd rfl (by assumption)
        | exact absurd (by assumption) hC1
        | exact absurd (by assumption) hC3
        | (refine aV (by first | exact .inl rfl | exact .inr rfl) (aZ rfl (aC rfl)) rfl ?_; refine fU ?_; simp_all)
end Go.Proofs.YtdajnmffoopcaaaGreatDoor.Ab
namespace Go.Proofs.YtdajnmffoopcaaaGreatDoor.Ab
set_option linter.unusedVariables false
set_option linter.unusedSimpArgs false
open Go.RowKit
attribute [local irreducible] AWP AOps AExit AThen ABlock ANoGoto FeetOk
set_option maxHeartbeats 4000000 in
set_option maxRecDepth 10000 in
theorem nJ (t : Tree) : t.whole = true → t.size ≤ 1000000 → ACalls Tryz.prog 61 [.imm t.iv] [] (.imm (.lit (.int .i64 (t.size : Int)))) [] := by
  induction t using Tree.ind with
  | h1 => intro h; simp [Tree.whole] at h
  | h2 k n a b kids ih =>
    intro hw hs
    have hl := cC kids hw
    have hsz : (Tree.node k n a b kids).size = 1 + Tree.sizes kids := by rw [Tree.size]
    rw [hsz] at hs ⊢
    have htk : ∀ j (h : j < kids.length), Tree.sizes (kids.take (j + 1)) = Tree.sizes (kids.take j) + kids[j].size := fun j h => by
      rw [List.take_succ_eq_append_getElem h, fL]
      simp only [Tree.sizes]; omega
    have hle : ∀ j, Tree.sizes (kids.take j) ≤ Tree.sizes kids := fun j => by
      have := fL (kids.take j) (kids.drop j)
      rw [List.take_append_drop] at this
      omega
    refine aJ Tryz.func61 rfl rfl (nb rfl) rfl ?_
    repeat' (first | refine aG ?_ | (refine aI ?_;  first | refine aD tabOk rfl rfl rfl (nb rfl) rfl ?_ | refine bB tabOk rfl rfl (nb rfl) rfl ?_) | (refine aN ?_;  first | refine aH ?_ | refine aQ ?_ | refine aY ?_ | refine aU ?_ | refine aA (b := false) rfl nFt (fun _ => ?_)) | (refine aK ?_;  first | refine aX ?_))
    refine cI (ι := {j : Nat // j ≤ kids.length}) (fun j => S.f ⟨[(4, .imm (.lit (.int .i64 (j.1 : Int)))), (0, .imm (Tree.iv (.node k n a b kids))), (3, .imm (.lit (.int .i64 ((1 + Tree.sizes (kids.take j.1) : Nat) : Int))))], []⟩) (fun j => kids.length - j.1) ⟨0, Nat.zero_le _⟩ (cA (by repeat' first | exact trivial | refine ⟨rfl, ?_⟩) (by repeat' first | exact trivial | refine ⟨rfl, ?_⟩)) ?_
    rintro ⟨j, hj⟩
    dsimp only
    by_cases hlt : j < kids.length
    · have hm := List.getElem_mem hlt
      have hget := bX kids j hlt
      have h1 := htk j hlt
      have h2 := hle j
      have h3 := hle (j + 1)
      have hc := ih _ hm (bS hw hm) (by omega)
      repeat' (first | refine aG ?_ | (refine aI ?_;  first | refine aD tabOk rfl rfl rfl (nb rfl) rfl ?_ | (refine aM rfl rfl rfl (nb rfl) rfl rfl rfl (fun hq => ?_) (fun hq => ?_) <;> (first | (simp only [sD, sE, sB, sC, sN, sM, sT, sF] at hq; try (exfalso; omega)) | skip)) | refine bC tabOk rfl rfl rfl (nb rfl) rfl rfl rfl hget ?_ | refine aE rfl rfl (nb rfl) rfl rfl rfl rfl (hc) ?_ | refine bY (z := ((1 + Tree.sizes (kids.take (j + 1)) : Nat) : Int)) rfl rfl rfl (nb rfl) rfl rfl (by omega) (by omega) (by omega) ?_ | refine bP rfl rfl rfl (nb rfl) rfl rfl (by omega) ?_ | refine bB tabOk rfl rfl (nb rfl) rfl ?_ | refine bG tabOk rfl rfl rfl (nb rfl) rfl rfl rfl rfl (by first | assumption | omega) ?_) | (refine aN ?_;  first | refine aH ?_ | refine aQ ?_ | refine bH ?_ | refine aY ?_ | refine aU ?_ | refine aA (b := true) rfl (fun _ => ?_) nTf) | (refine aK ?_;  first | refine aX ?_) | (refine bA ?_;  first | refine bU ?_))
      all_goals first
        | (exfalso; omega)
        | exact ⟨⟨j + 1, hlt⟩, (by show kids.length - (j + 1) < kids.length - j; omega), (cA (by repeat' first | exact trivial | refine ⟨rfl, ?_⟩) (by repeat' first | exact trivial | refine ⟨rfl, ?_⟩))⟩
    · have ej : j = kids.length := by omega
      subst ej
      rw [List.take_length]
      repeat' (first | refine aG ?_ | (refine aI ?_;  first | refine aD tabOk rfl rfl rfl (nb rfl) rfl ?_ | (refine aM rfl rfl rfl (nb rfl) rfl rfl rfl (fun hq => ?_) (fun hq => ?_) <;> (first | (simp only [sD, sE, sB, sC, sN, sM, sT, sF] at hq; try (exfalso; omega)) | skip)) | refine bB tabOk rfl rfl (nb rfl) rfl ?_) | (refine aN ?_;  first | refine aH ?_ | refine aQ ?_ | refine aT ?_ | refine bW ?_ | refine aA (b := false) rfl nFt (fun _ => ?_)) | (refine aK ?_;  first | refine aX ?_ | refine bM ?_) | (refine bA ?_;  first | refine bI ?_))
      all_goals first
        | (exfalso; omega)
        | (refine aV (by first | exact .inl rfl | exact .inr rfl) (aZ rfl (aC rfl)) rfl ?_; rfl)
end Go.Proofs.YtdajnmffoopcaaaGreatDoor.Ab
namespace Go.Proofs.YtdajnmffoopcaaaGreatDoor.Ab
set_option linter.unusedVariables false
set_option linter.unusedSimpArgs false
open Go.RowKit
attribute [local irreducible] AWP AOps AExit AThen ABlock ANoGoto FeetOk
section
variable {P : Program} {T : Tab} {keep : List Nat} {N : Nat} {ops : Array Oper} {K : List Foot → SF → Prop} {o : Oper} {rest : List Oper} {ks : List Foot} {s : List (Nat × AV)} {m : Mem} {d : Nat}
/-- A boxed value, by a name that was reserved. -/
theorem eQ (g : Nat) {t : Nat} {x : Operand} {y : AV} (ho : o.op = .box t x) (hw : wantedA ops o (S.f ⟨s, m⟩) = some true) (hd : o.dst = some d) (hN : d < N) (hx : (S.f ⟨s, m⟩).ev x = some y) (h1 : y.cells.all AV.one = true) (hg : m.get g = some .fut) (hy : (AV.namesL y.cells).contains g = false)
    {cs : List AV} (hcs : y.cells = cs) (k : AOps P keep N ops K rest (⟨[g], false, false⟩ :: ks) (S.f ⟨(d, .obj g 0) :: s, m.put g (.cells cs)⟩)) : AOps P keep N ops K (o :: rest) ks (S.f ⟨s, m⟩) := by
  subst hcs
  exact sV hw hd hN (kH g ho hx h1 (by simpa using hy)).fut hg k
end
mutual
/-- Has no node of a tree a mark? -/
def noMark : Tree → Bool
  | .nil => true
  | .node _ _ _ b kids => decide (b = emptyB) && noMarks kids
def noMarks : List Tree → Bool
  | [] => true
  | t :: ts => noMark t && noMarks ts
end
theorem mO : ∀ {l : List Tree}, noMarks l = true → ∀ t ∈ l, noMark t = true
  | x :: xs, h, t, ht => by
    simp only [noMarks, Bool.and_eq_true] at h
    rcases List.mem_cons.1 ht with rfl | ht
    · exact h.1
    · exact mO h.2 t ht
theorem oT : ∀ {l : List Tree}, (∀ t ∈ l, noMark t = true) → noMarks l = true
  | [], _ => by rw [noMarks]
  | x :: xs, h => by
    simp only [noMarks, Bool.and_eq_true]
    exact ⟨h x (by simp), oT fun t ht => h t (by simp [ht])⟩
theorem mP {k n : Int} {a b : ByteArray} {kids : List Tree} (h : noMark (.node k n a b kids) = true) : b = emptyB ∧ ∀ t ∈ kids, noMark t = true := by
  rw [noMark, Bool.and_eq_true, decide_eq_true_eq] at h
  exact ⟨h.1, mO h.2⟩
theorem jU {k n : Int} {a b : ByteArray} {kids : List Tree} (hb : b = emptyB) (h : ∀ t ∈ kids, noMark t = true) : noMark (.node k n a b kids) = true := by
  rw [noMark, Bool.and_eq_true, decide_eq_true_eq]
  exact ⟨hb, oT h⟩
theorem iK {n : Int} {a b : ByteArray} {nm nu : Bool} (h : bareP n a b nm nu = true) : b = emptyB := by
  simp only [bareP, Bool.and_eq_true] at h
  exact rN h.1.1
theorem tY (t : Tree) : isKindP t = true → noMark t = true := by
  induction t using Tree.ind with
  | h1 => intro h; simp [isKindP] at h
  | h2 k n a b kids ih =>
    intro h
    rw [isKindP] at h
    split at h
    · rename_i e
      simp only [Bool.and_eq_true, beq_iff_eq] at h
      have e0 : kids = [] := List.eq_nil_of_length_eq_zero (by omega)
      subst e0
      exact jU (iK h.1) (by simp)
    · split at h
      · rename_i e0 e
        simp only [Bool.and_eq_true] at h
        refine jU (iK h.1.1) fun t ht => ih t ht ?_
        rw [fI, List.all_map] at h
        exact List.all_eq_true.1 h.2 t ht
      · cases h
theorem jD {kind : Int} {t : Tree} (ih : ∀ t' : Tree, t'.size < t.size → isConP t' = true → noMark t' = true) (h : okNamed kind t = true) : noMark t = true := by
  cases t with
  | nil => simp [okNamed] at h
  | node k n a b ks =>
    simp only [okNamed, Bool.and_eq_true, beq_iff_eq] at h
    obtain ⟨⟨⟨rfl, hb⟩, _⟩, h⟩ := h
    by_cases h1 : ks.length = 1
    · obtain ⟨c, rfl⟩ := one_of h1
      refine jU (iK hb) fun t ht => ?_
      obtain rfl := List.mem_singleton.1 ht
      exact ih t (cM (by simp)) (by simpa [isCon1] using h)
    · rw [jQ h1] at h; cases h
/-- A constructor has no marks. -/
theorem iL (t : Tree) : isConP t = true → noMark t = true := by
  induction t using Tree.sind with
  | h t ih =>
    intro h
    cases t with
    | nil => simp [isConP] at h
    | node k n a b kids =>
      rw [isConP, Bool.and_eq_true] at h
      obtain ⟨hb, h⟩ := h
      have kid : ∀ t ∈ kids, isConP t = true → noMark t = true := fun t ht => ih t (cM ht)
      refine jU (iK hb) fun t ht => ?_
      have hz := cM (k := k) (n := n) (a := a) (b := b) ht
      by_cases k0 : k = 110
      · rw [if_pos k0] at h
        simp only [Bool.and_eq_true, beq_iff_eq] at h
        have e0 : kids = [] := List.eq_nil_of_length_eq_zero (by omega)
        rw [e0] at ht; cases ht
      · rw [if_neg k0] at h
        by_cases k1 : k = 111 ∨ k = 112 ∨ k = 113
        · rw [if_pos k1] at h
          have e0 : kids = [] := List.eq_nil_of_length_eq_zero (by simpa using h)
          rw [e0] at ht
          cases ht
        · rw [if_neg k1] at h
          by_cases k2 : k = 114 ∨ k = 120
          · rw [if_pos k2, Bool.and_eq_true, kL] at h
            exact kid t ht (List.all_eq_true.1 h.2 t ht)
          · rw [if_neg k2] at h
            by_cases k3 : k = 115
            · rw [if_pos k3, Bool.and_eq_true, dV] at h
              exact jD (fun t' h1 h2 => ih t' (by omega) h2) (List.all_eq_true.1 h.1 t ht)
            · rw [if_neg k3] at h
              by_cases k4 : k = 117 ∨ k = 118 ∨ k = 119
              · rw [if_pos k4] at h
                by_cases h2 : kids.length = 2
                · obtain ⟨x, y, rfl⟩ := two h2
                  simp only [isCon2, Bool.and_eq_true] at h
                  rcases List.mem_cons.1 ht with rfl | ht'
                  · exact tY _ h.1
                  · obtain rfl := List.mem_singleton.1 ht'
                    exact kid _ ht h.2
                · rw [eZ h2] at h; cases h
              · rw [if_neg k4] at h
                by_cases k5 : k = 121
                · rw [if_pos k5, Bool.and_eq_true, Bool.and_eq_true, dV] at h
                  exact jD (fun t' h1 h2 => ih t' (by omega) h2) (List.all_eq_true.1 h.1.2 t ht)
                · rw [if_neg k5] at h; cases h
section
variable {σ : Type} (V : Int → Int → σ → Tree × σ) (B : σ → Prop)
theorem eE {k : Int} (n d : Int) (s : σ) {a b : ByteArray} (kids : List Tree) (hk : ¬ k = 110) : walkS V (.node k n a b kids) d s = (.node k n a b (walkSs V kids (d + bindsP k) s).1, (walkSs V kids (d + bindsP k) s).2) := by
  by_cases h : kids.length = 0
  · have e0 : kids = [] := List.eq_nil_of_length_eq_zero h
    subst e0
    rw [fX _ _ _ _ hk, dD]
  · rw [fY _ _ _ _ hk h]
/-- What is refused once stays refused. -/
theorem qN (hV : ∀ n d s, B s → B (V n d s).2) (t : Tree) : ∀ d s, B s → B (walkS V t d s).2 := by
  induction t using Tree.ind with
  | h1 => intro d s h; rw [walkS]; exact h
  | h2 k n a b kids ih =>
    intro d s h
    by_cases k0 : k = 110
    · subst k0; rw [dP]; exact hV _ _ _ h
    · rw [eE V _ _ _ _ k0]
      have key : ∀ (l : List Tree) (s : σ), (∀ t ∈ l, t ∈ kids) → B s → B (walkSs V l (d + bindsP k) s).2 := by
        intro l
        induction l with
        | nil => intro s _ h; rw [dD]; exact h
        | cons t ts ih2 =>
          intro s hm h
          rw [walkSs]
          exact ih2 _ (fun t' h' => hm t' (by simp [h'])) (ih t (hm t (by simp)) _ _ h)
      exact key kids s (fun _ h => h) h
theorem iM (hV : ∀ n d s, B s → B (V n d s).2) (d : Int) : ∀ (l : List Tree) (s : σ), B s → B (walkSs V l d s).2
  | [], s, h => by rw [dD]; exact h
  | t :: ts, s, h => by rw [walkSs]; exact iM hV d ts _ (qN V B hV t d s h)
theorem oU (d : Int) : ∀ (l r : List Tree) (s : σ), (walkSs V (l ++ r) d s).2 = (walkSs V r d (walkSs V l d s).2).2
  | [], r, s => by rw [dD]; rfl
  | t :: ts, r, s => by rw [List.cons_append, walkSs, walkSs]; exact oU d ts r _
theorem oV (hV : ∀ n d s, B s → B (V n d s).2) (d : Int) (s : σ) (l : List Tree) (j : Nat) (h : B (walkSs V (l.take j) d s).2) : B (walkSs V l d s).2 := by
  have e := oU V d (l.take j) (l.drop j) s
  rw [List.take_append_drop] at e
  rw [e]
  exact iM V B hV d _ _ h
end
set_option maxRecDepth 10000 in
theorem oW (k n : Int) (a b : ByteArray) (kids : List Tree) : ACalls Tryz.prog 81 [.imm (Tree.iv (.node k n a b kids))] [] (.imm (.lit (.int .i64 (bindsP k)))) [] := by
  refine aJ Tryz.func81 rfl rfl (nb rfl) rfl ?_
  repeat' (first | refine aG ?_ | (refine aI ?_;  first | refine aD tabOk rfl rfl rfl (nb rfl) rfl ?_ | refine bE rfl rfl (nb rfl) ?_ | (refine aM rfl rfl rfl (nb rfl) rfl rfl rfl (fun hq => ?_) (fun hq => ?_) <;> (first | (simp only [sD, sE, sB, sC, sN, sM, sT, sF] at hq; try (exfalso; omega)) | skip))) | (refine aN ?_;  first | refine aH ?_ | refine aQ ?_ | refine aT ?_ | refine aU ?_ | refine aA (b := true) rfl (fun _ => ?_) nTf | refine aA (b := false) rfl nFt (fun _ => ?_)) | (refine aK ?_;  first | refine aX ?_ | refine aR ?_))
  all_goals (refine aV (by first | exact .inl rfl | exact .inr rfl) (aZ rfl (aC rfl)) rfl ?_; refine fU ?_; unfold bindsP; first | (rw [if_pos (by omega)]; done) | (rw [if_neg (by omega)]; done))
/-- What is told of what was made anew: it, or nil. -/
def told (R : Tree × Bool) : Tree := if R.2 = true then R.1 else .nil
theorem fN (t : Tree) : told (t, true) = t := rfl
theorem iN (t : Tree) : told (t, false) = .nil := rfl
theorem oX (by_ from_ : Int) (n d : Int) (s : Bool) (h : s = false) : (shiftV by_ from_ n d s).2 = false := by
  subst h
  unfold shiftV
  split
  · rfl
  · rw [if_neg (by simp)]
end Go.Proofs.YtdajnmffoopcaaaGreatDoor.Ab
namespace Go.Proofs.YtdajnmffoopcaaaGreatDoor.Ab
set_option linter.unusedVariables false
set_option linter.unusedSimpArgs false
open Go.RowKit
attribute [local irreducible] AWP AOps AExit AThen ABlock ANoGoto FeetOk
set_option maxHeartbeats 16000000 in
set_option maxRecDepth 10000 in
theorem oY (by_ from_ : Int) (t : Tree) : ∀ d : Int, okVars t = true → noMark t = true → t.whole = true → 0 ≤ d → d + t.size ≤ 1000000 →
    ACalls Tryz.prog 59 [.imm t.iv, .imm (.lit (.int .i64 by_)), .imm (.lit (.int .i64 from_)), .imm (.lit (.int .i64 d))] [] (.imm (.tup [(told (walkS (shiftV by_ from_) t d true)).iv, .lit (.bool (walkS (shiftV by_ from_) t d true).2)])) [] := by
  induction t using Tree.ind with
  | h1 => intro d _ _ h; simp [Tree.whole] at h
  | h2 k n a b kids ih =>
    intro d hv hk hw hd hs
    have hl := cC kids hw
    have hsz : (Tree.node k n a b kids).size = 1 + Tree.sizes kids := by rw [Tree.size]
    rw [hsz] at hs
    have ci := oW k n a b kids
    obtain ⟨rfl, hks⟩ := mP hk
    by_cases k110 : k = 110
    · obtain ⟨q1, q2, rfl, _, rfl⟩ := dB k110 hv
      subst k110
      clear ih
      rw [dP]
      unfold shiftV
      by_cases h1 : n < d ∨ n - d < from_
      · rw [if_pos h1]
        refine cZ Tryz.func59 rfl rfl (nb rfl) rfl ?_
        refine dH (gE 27 (by simp) rfl rfl) ?_
        repeat' (first | refine aG ?_ | (refine aI ?_;  first | refine aD tabOk rfl rfl rfl (nb rfl) rfl ?_ | refine bE rfl rfl (nb rfl) ?_ | (refine aM rfl rfl rfl (nb rfl) rfl rfl rfl (fun hq => ?_) (fun hq => ?_) <;> (first | (simp only [sD, sE, sB, sC, sN, sM, sT, sF] at hq; try (exfalso; omega)) | skip)) | refine dQ (d := 26) tabOk rfl rfl rfl (nb rfl) rfl rfl rfl rfl rfl ?_ | refine eQ 27 (d := 27) rfl rfl rfl (nb rfl) rfl rfl rfl rfl rfl ?_ | refine bV rfl rfl rfl (nb rfl) rfl rfl rfl (by omega) (by omega) ?_) | (refine aN ?_;  first | refine aH ?_ | refine aQ ?_ | refine aY ?_ | refine aU ?_ | refine aA (b := false) rfl nFt (fun _ => ?_) | refine aW mixed (by kernel_rfl) ?_) | (refine aK ?_;  first | refine aX ?_) | refine bQ (bL (by kernel_rfl)) ?_)
        all_goals first
          | exact absurd rfl (by assumption)
          | (exfalso; omega)
          | (refine dH (dU (h0 := 27) (k0 := 4) 500 25 1 rfl rfl (by simp) rfl rfl) ?_
             refine cI (ι := Unit) (fun _ => S.f ⟨[(11, .imm (.lit (.int .i64 0))), (10, .obj 27 0), (0, .imm (Tree.iv (.node 110 n emptyB emptyB [])))], [(500, .arr 25 1 0 []), (27, .cells [.imm (.lit (.int .i64 110)), .imm (.lit (.int .i64 (n))), .imm (.lit (.string ⟨#[]⟩)), .imm (.lit (.string ⟨#[]⟩)), .ref 500 0])]⟩) (fun _ => 0) () (cA (by repeat' first | exact trivial | refine ⟨rfl, ?_⟩) (by repeat' first | exact trivial | refine ⟨rfl, ?_⟩)) ?_
             rintro ⟨⟩
             dsimp only
             repeat' (first | refine aG ?_ | (refine aI ?_;  first | refine aD tabOk rfl rfl rfl (nb rfl) rfl ?_ | (refine aM rfl rfl rfl (nb rfl) rfl rfl rfl (fun hq => ?_) (fun hq => ?_) <;> (first | (simp only [sD, sE, sB, sC, sN, sM, sT, sF] at hq; try (exfalso; omega)) | skip)) | refine bB tabOk rfl rfl (nb rfl) rfl ?_ | refine bN tabOk rfl rfl rfl (nb rfl) rfl rfl rfl rfl (by first | rfl | omega) (by first | omega | simp) ?_ | refine bC tabOk rfl rfl rfl (nb rfl) rfl rfl rfl (bX _ _ (by first | assumption | omega)) ?_) | (refine aN ?_;  first | refine aH ?_ | refine aQ ?_ | refine aY ?_ | refine aT ?_ | refine bW ?_ | refine aU ?_ | refine aA (b := true) rfl (fun _ => ?_) nTf | refine aA (b := false) rfl nFt (fun _ => ?_) | refine aW mixed (by kernel_rfl) ?_) | (refine aK ?_;  first | refine aX ?_ | refine bM ?_) | (refine bA ?_;  first | refine bI ?_))
             all_goals first
               | (exfalso; have hh : (0 : Int) < (([] : List Tree).length : Int) := by assumption
                  simp at hh)
               | (exfalso; omega)
               | (refine eH ((Imp.of_le (σ' := S.f ⟨[(8, .obj 27 0), (9, .imm (.lit (.bool true)))], [(500, .arr 25 1 0 []), (27, .cells [.imm (.lit (.int .i64 110)), .imm (.lit (.int .i64 (n))), .imm (.lit (.string ⟨#[]⟩)), .imm (.lit (.string ⟨#[]⟩)), .ref 500 0])]⟩) (cA (by repeat' first | exact trivial | refine ⟨rfl, ?_⟩) (by repeat' first | exact trivial | refine ⟨rfl, ?_⟩))).trans ((dC (g := 500) rfl (by repeat' first | exact trivial | exact fun _ => rfl | refine ⟨?_, ?_⟩) (by repeat' first | exact trivial | exact fun _ => rfl | refine ⟨?_, ?_⟩)).trans (dI (g := 27) rfl rfl))) ?_
                  refine aV (by first | exact .inl rfl | exact .inr rfl) (bD rfl (aC rfl) (aC rfl)) rfl ?_; rfl))
      · rw [if_neg h1]
        by_cases h2 : d - n ≤ by_ ∧ by_ ≤ 65536 - n
        · rw [if_pos ⟨rfl, h2⟩]
          refine cZ Tryz.func59 rfl rfl (nb rfl) rfl ?_
          refine dH (gE 27 (by simp) rfl rfl) ?_
          repeat' (first | refine aG ?_ | (refine aI ?_;  first | refine aD tabOk rfl rfl rfl (nb rfl) rfl ?_ | (refine aM rfl rfl rfl (nb rfl) rfl rfl rfl (fun hq => ?_) (fun hq => ?_) <;> (first | (simp only [sD, sE, sB, sC, sN, sM, sT, sF] at hq; try (exfalso; omega)) | skip)) | refine dQ (d := 26) tabOk rfl rfl rfl (nb rfl) rfl rfl rfl rfl rfl ?_ | refine eQ 27 (d := 27) rfl rfl rfl (nb rfl) rfl rfl rfl rfl rfl ?_ | refine bY (z := n + by_) rfl rfl rfl (nb rfl) rfl rfl rfl (by omega) (by omega) ?_ | refine bV rfl rfl rfl (nb rfl) rfl rfl rfl (by omega) (by omega) ?_ | refine bJ tabOk rfl rfl rfl rfl rfl rfl rfl rfl rfl rfl rfl ?_) | (refine aN ?_;  first | refine aH ?_ | refine aQ ?_ | refine bH ?_ | refine aY ?_ | refine aU ?_ | refine aA (b := true) rfl (fun _ => ?_) nTf | refine aA (b := false) rfl nFt (fun _ => ?_) | refine aW mixed (by kernel_rfl) ?_) | (refine aK ?_;  first | refine aX ?_) | refine bQ (bL (by kernel_rfl)) ?_)
          all_goals first
            | exact absurd rfl (by assumption)
            | (exfalso; omega)
            | (refine dH (dU (h0 := 27) (k0 := 4) 500 25 1 rfl rfl (by simp) rfl rfl) ?_
               refine cI (ι := Unit) (fun _ => S.f ⟨[(11, .imm (.lit (.int .i64 0))), (10, .obj 27 0), (0, .imm (Tree.iv (.node 110 n emptyB emptyB [])))], [(500, .arr 25 1 0 []), (27, .cells [.imm (.lit (.int .i64 110)), .imm (.lit (.int .i64 (n + by_))), .imm (.lit (.string ⟨#[]⟩)), .imm (.lit (.string ⟨#[]⟩)), .ref 500 0])]⟩) (fun _ => 0) () (cA (by repeat' first | exact trivial | refine ⟨rfl, ?_⟩) (by repeat' first | exact trivial | refine ⟨rfl, ?_⟩)) ?_
               rintro ⟨⟩
               dsimp only
               repeat' (first | refine aG ?_ | (refine aI ?_;  first | refine aD tabOk rfl rfl rfl (nb rfl) rfl ?_ | (refine aM rfl rfl rfl (nb rfl) rfl rfl rfl (fun hq => ?_) (fun hq => ?_) <;> (first | (simp only [sD, sE, sB, sC, sN, sM, sT, sF] at hq; try (exfalso; omega)) | skip)) | refine bB tabOk rfl rfl (nb rfl) rfl ?_ | refine bN tabOk rfl rfl rfl (nb rfl) rfl rfl rfl rfl (by first | rfl | omega) (by first | omega | simp) ?_ | refine bC tabOk rfl rfl rfl (nb rfl) rfl rfl rfl (bX _ _ (by first | assumption | omega)) ?_) | (refine aN ?_;  first | refine aH ?_ | refine aQ ?_ | refine aY ?_ | refine aT ?_ | refine bW ?_ | refine aU ?_ | refine aA (b := true) rfl (fun _ => ?_) nTf | refine aA (b := false) rfl nFt (fun _ => ?_) | refine aW mixed (by kernel_rfl) ?_) | (refine aK ?_;  first | refine aX ?_ | refine bM ?_) | (refine bA ?_;  first | refine bI ?_))
               all_goals first
                 | (exfalso; have hh : (0 : Int) < (([] : List Tree).length : Int) := by assumption
                    simp at hh)
                 | (exfalso; omega)
                 | (refine eH ((Imp.of_le (σ' := S.f ⟨[(8, .obj 27 0), (9, .imm (.lit (.bool true)))], [(500, .arr 25 1 0 []), (27, .cells [.imm (.lit (.int .i64 110)), .imm (.lit (.int .i64 (n + by_))), .imm (.lit (.string ⟨#[]⟩)), .imm (.lit (.string ⟨#[]⟩)), .ref 500 0])]⟩) (cA (by repeat' first | exact trivial | refine ⟨rfl, ?_⟩) (by repeat' first | exact trivial | refine ⟨rfl, ?_⟩))).trans ((dC (g := 500) rfl (by repeat' first | exact trivial | exact fun _ => rfl | refine ⟨?_, ?_⟩) (by repeat' first | exact trivial | exact fun _ => rfl | refine ⟨?_, ?_⟩)).trans (dI (g := 27) rfl rfl))) ?_
                    refine aV (by first | exact .inl rfl | exact .inr rfl) (bD rfl (aC rfl) (aC rfl)) rfl ?_; rfl))
        · rw [if_neg (by simp only [true_and]; exact h2)]
          refine cZ Tryz.func59 rfl rfl (nb rfl) rfl ?_
          refine dH (gE 27 (by simp) rfl rfl) ?_
          repeat' (first | refine aG ?_ | (refine aI ?_;  first | refine aD tabOk rfl rfl rfl (nb rfl) rfl ?_ | refine bE rfl rfl (nb rfl) ?_ | (refine aM rfl rfl rfl (nb rfl) rfl rfl rfl (fun hq => ?_) (fun hq => ?_) <;> (first | (simp only [sD, sE, sB, sC, sN, sM, sT, sF] at hq; try (exfalso; omega)) | skip)) | refine dQ (d := 26) tabOk rfl rfl rfl (nb rfl) rfl rfl rfl rfl rfl ?_ | refine eQ 27 (d := 27) rfl rfl rfl (nb rfl) rfl rfl rfl rfl rfl ?_ | refine bV rfl rfl rfl (nb rfl) rfl rfl rfl (by omega) (by omega) ?_) | (refine aN ?_;  first | refine aH ?_ | refine aQ ?_ | refine aT ?_ | refine aA (b := true) rfl (fun _ => ?_) nTf | refine aW mixed (by kernel_rfl) ?_) | (refine aK ?_;  first | refine aX ?_ | refine aR ?_) | refine bQ (bL (by kernel_rfl)) ?_)
          all_goals first
            | exact absurd rfl (by assumption)
            | (exfalso; omega)
            | (refine eA ?_; refine aV (by first | exact .inl rfl | exact .inr rfl) (bD rfl (aC rfl) (aC rfl)) rfl ?_; rfl)
    · have e := eE (shiftV by_ from_) n d true (a := a) (b := emptyB) kids k110
      rw [e]
      clear e
      have hb := eI k
      have hvs := dA k110 hv
      obtain ⟨Y, hY⟩ : ∃ Y, walkSs (shiftV by_ from_) kids (d + bindsP k) true = Y := ⟨_, rfl⟩
      rw [hY]
      refine cZ Tryz.func59 rfl rfl (nb rfl) rfl ?_
      refine dH (gE 27 (by simp) rfl rfl) ?_
      repeat' (first | refine aG ?_ | (refine aI ?_;  first | refine aD tabOk rfl rfl rfl (nb rfl) rfl ?_ | refine bE rfl rfl (nb rfl) ?_ | (refine aM rfl rfl rfl (nb rfl) rfl rfl rfl (fun hq => ?_) (fun hq => ?_) <;> (first | (simp only [sD, sE, sB, sC, sN, sM, sT, sF] at hq; try (exfalso; omega)) | skip)) | refine dQ (d := 26) tabOk rfl rfl rfl (nb rfl) rfl rfl rfl rfl rfl ?_ | refine eQ 27 (d := 27) rfl rfl rfl (nb rfl) rfl rfl rfl rfl rfl ?_) | (refine aN ?_;  first | refine aH ?_ | refine aQ ?_ | refine aY ?_ | refine aU ?_ | refine aA (b := false) rfl nFt (fun _ => ?_) | refine aW mixed (by kernel_rfl) ?_) | (refine aK ?_;  first | refine aX ?_) | refine bQ (bL (by kernel_rfl)) ?_)
      all_goals first
        | exact absurd (by assumption) k110
        | (exfalso; omega)
        | skip
      refine dH (dU (h0 := 27) (k0 := 4) 500 25 1 rfl rfl (by simp) rfl rfl) ?_
      refine cI (ι := {j : Nat // j ≤ kids.length ∧ (walkSs (shiftV by_ from_) (kids.take j) (d + bindsP k) true).2 = true}) (fun j => S.f ⟨[(11, .imm (.lit (.int .i64 (j.1 : Int)))), (10, .obj 27 0), (0, .imm (Tree.iv (.node k n a emptyB kids))), (1, .imm (.lit (.int .i64 by_))), (2, .imm (.lit (.int .i64 from_))), (3, .imm (.lit (.int .i64 d)))], [(500, .arr 25 1 j.1 (Tree.ivs (walkSs (shiftV by_ from_) (kids.take j.1) (d + bindsP k) true).1)), (27, .cells [.imm (.lit (.int .i64 k)), .imm (.lit (.int .i64 n)), .imm (.lit (.string a)), .imm (.lit (.string ⟨#[]⟩)), .ref 500 j.1])]⟩) (fun j => kids.length - j.1) ⟨0, Nat.zero_le _, by rw [List.take_zero, dD]⟩ (by dsimp only; rw [List.take_zero, dD]; exact (cA (by repeat' first | exact trivial | refine ⟨rfl, ?_⟩) (by repeat' first | exact trivial | refine ⟨rfl, ?_⟩))) ?_
      rintro ⟨j, hj, hok⟩
      dsimp only
      by_cases hlt : j < kids.length
      · have hm := List.getElem_mem hlt
        have hz := dE hm
        have hwk := bS hw hm
        have hget := bX kids j hlt
        have hc := ih _ hm (d + bindsP k) (hvs _ hm) (hks _ hm) hwk (by omega) (by omega)
        have htk := dZ (shiftV by_ from_) (d + bindsP k) true hlt
        rw [hok] at htk
        have hfn := (kM (shiftV by_ from_) (fun _ => True) (fun _ => 0) (fun n d s _ _ _ _ _ => ⟨(eN by_ from_ n d s).1, trivial, by rw [(eN by_ from_ n d s).2]; omega⟩) kids[j] (d + bindsP k) true (hvs _ hm) hwk (by omega) (by omega) trivial).1
        clear ih
        generalize hR : walkS (shiftV by_ from_) kids[j] (d + bindsP k) true = R at *
        obtain ⟨R1, R2⟩ := R
        dsimp only at hc hfn htk
        obtain ⟨pm, hpm⟩ := dT (dG hfn)
        cases R2 with
        | false =>
          have hbad : Y.2 = false := by
            rw [← hY]
            refine oV _ (fun s => s = false) (fun n d s h => oX by_ from_ n d s h) _ _ _ (j + 1) ?_
            rw [htk]
          have hres : told ((Tree.node k n a emptyB Y.1), Y.2) = .nil ∧ Y.2 = false := ⟨by rw [hbad]; rfl, hbad⟩
          rw [iN] at hc
          rw [hres.1, hres.2]
          clear hY htk
          generalize Tree.ivs (walkSs (shiftV by_ from_) (kids.take j) (d + bindsP k) true).1 = ZI at *
          repeat' (first | refine aG ?_ | (refine aI ?_;  first | refine aD tabOk rfl rfl rfl (nb rfl) rfl ?_ | (refine aM rfl rfl rfl (nb rfl) rfl rfl rfl (fun hq => ?_) (fun hq => ?_) <;> (first | (simp only [sD, sE, sB, sC, sN, sM, sT, sF] at hq; try (exfalso; omega)) | skip)) | refine bC tabOk rfl rfl rfl (nb rfl) rfl rfl rfl hget ?_ | refine aE rfl rfl (nb rfl) rfl rfl rfl rfl (hc) ?_ | refine aE rfl rfl (nb rfl) rfl rfl rfl rfl (ci) ?_ | refine bY rfl rfl rfl (nb rfl) rfl rfl rfl (by omega) (by omega) ?_ | refine bB tabOk rfl rfl (nb rfl) rfl ?_ | refine bG tabOk rfl rfl rfl (nb rfl) rfl rfl rfl rfl (by first | assumption | omega) ?_) | (refine aN ?_;  first | refine aH ?_ | refine aQ ?_ | refine aY ?_ | refine aT ?_ | refine aU ?_ | refine aA (b := true) rfl (fun _ => ?_) nTf | refine aW mixed (by kernel_rfl) ?_) | (refine aK ?_;  first | refine aX ?_ | refine aR ?_) | (refine bA ?_;  first | refine bF ?_) | refine bQ (bL (by kernel_rfl)) ?_)
          all_goals first
            | (exfalso; omega)
            | (refine eA ?_; refine aV (by first | exact .inl rfl | exact .inr rfl) (bD rfl (aC rfl) (aC rfl)) rfl ?_; rfl)
        | true =>
          have hnx : Tree.ivs (walkSs (shiftV by_ from_) (kids.take (j + 1)) (d + bindsP k) true).1 = Tree.ivs (walkSs (shiftV by_ from_) (kids.take j) (d + bindsP k) true).1 ++ [.ptr pm 0] := by
            rw [htk, dL, dL, List.map_append, ← hpm]; rfl
          have hok2 : (walkSs (shiftV by_ from_) (kids.take (j + 1)) (d + bindsP k) true).2 = true := by rw [htk]
          have hil := eG (walkSs (shiftV by_ from_) (kids.take j) (d + bindsP k) true).1
          rw [dS, List.length_take, Nat.min_eq_left hj] at hil
          rw [fN, hpm] at hc
          clear htk hY
          generalize Tree.ivs (walkSs (shiftV by_ from_) (kids.take j) (d + bindsP k) true).1 = ZI at *
          repeat' (first | refine aG ?_ | (refine aI ?_;  first | refine aD tabOk rfl rfl rfl (nb rfl) rfl ?_ | (refine aM rfl rfl rfl (nb rfl) rfl rfl rfl (fun hq => ?_) (fun hq => ?_) <;> (first | (simp only [sD, sE, sB, sC, sN, sM, sT, sF] at hq; try (exfalso; omega)) | skip)) | refine bC tabOk rfl rfl rfl (nb rfl) rfl rfl rfl hget ?_ | refine aE rfl rfl (nb rfl) rfl rfl rfl rfl (hc) ?_ | refine aE rfl rfl (nb rfl) rfl rfl rfl rfl (ci) ?_ | refine dF tabOk rfl rfl rfl (nb rfl) rfl rfl rfl rfl rfl rfl rfl (by first | omega | decide) rfl (by first | omega | (dsimp only; omega)) (by first | omega | (dsimp only; omega)) ?_ | refine bP rfl rfl rfl (nb rfl) rfl rfl (by omega) ?_ | refine bY rfl rfl rfl (nb rfl) rfl rfl rfl (by omega) (by omega) ?_ | refine cH tabOk rfl rfl rfl (nb rfl) rfl rfl rfl rfl rfl rfl rfl rfl rfl ?_ | refine bB tabOk rfl rfl (nb rfl) rfl ?_ | refine bO tabOk rfl rfl rfl (nb rfl) rfl rfl rfl rfl ?_ | refine bJ tabOk rfl rfl rfl rfl rfl rfl rfl rfl rfl rfl rfl ?_ | refine bG tabOk rfl rfl rfl (nb rfl) rfl rfl rfl rfl (by first | assumption | omega) ?_) | (refine aN ?_;  first | refine aH ?_ | refine aQ ?_ | refine bH ?_ | refine aY ?_ | refine aU ?_ | refine aA (b := true) rfl (fun _ => ?_) nTf | refine aA (b := false) rfl nFt (fun _ => ?_) | refine aW mixed (by kernel_rfl) ?_) | (refine aK ?_;  first | refine aX ?_) | (refine bA ?_;  first | refine bU ?_) | refine bQ (bL (by kernel_rfl)) ?_)
          all_goals first
            | (exfalso; omega)
            | (refine ⟨⟨j + 1, hlt, hok2⟩, (by show kids.length - (j + 1) < kids.length - j; omega), ?_⟩; dsimp only; rw [hnx]; exact (cA (by repeat' first | exact trivial | refine ⟨rfl, ?_⟩) (by repeat' first | exact trivial | refine ⟨rfl, ?_⟩)))
      · have ej : j = kids.length := by omega
        subst ej
        rw [List.take_length] at hok ⊢
        rw [hY] at hok ⊢
        have hll : Y.1.length = kids.length := by rw [← hY, dS]
        have hiv : (told ((Tree.node k n a emptyB Y.1), Y.2)).iv = .ptr [.lit (.int .i64 k), .lit (.int .i64 n), .lit (.string a), .lit (.string ⟨#[]⟩), .sl false kids.length (Tree.ivs Y.1)] 0 := by rw [hok, fN, Tree.iv, hll]; rfl
        rw [hiv, hok]
        clear ih hY
        generalize Tree.ivs Y.1 = ZI at *
        repeat' (first | refine aG ?_ | (refine aI ?_;  first | refine aD tabOk rfl rfl rfl (nb rfl) rfl ?_ | (refine aM rfl rfl rfl (nb rfl) rfl rfl rfl (fun hq => ?_) (fun hq => ?_) <;> (first | (simp only [sD, sE, sB, sC, sN, sM, sT, sF] at hq; try (exfalso; omega)) | skip)) | refine bB tabOk rfl rfl (nb rfl) rfl ?_) | (refine aN ?_;  first | refine aH ?_ | refine aQ ?_ | refine aT ?_ | refine bW ?_ | refine aA (b := false) rfl nFt (fun _ => ?_)) | (refine aK ?_;  first | refine aX ?_ | refine bM ?_) | (refine bA ?_;  first | refine bI ?_))
        all_goals first
          | (exfalso; omega)
          | (refine eH ((Imp.of_le (σ' := S.f ⟨[(8, .obj 27 0), (9, .imm (.lit (.bool true)))], [(500, .arr 25 1 kids.length ZI), (27, .cells [.imm (.lit (.int .i64 k)), .imm (.lit (.int .i64 n)), .imm (.lit (.string a)), .imm (.lit (.string ⟨#[]⟩)), .ref 500 kids.length])]⟩) (cA (by repeat' first | exact trivial | refine ⟨rfl, ?_⟩) (by repeat' first | exact trivial | refine ⟨rfl, ?_⟩))).trans ((dC (g := 500) rfl (by repeat' first | exact trivial | exact fun _ => rfl | refine ⟨?_, ?_⟩) (by repeat' first | exact trivial | exact fun _ => rfl | refine ⟨?_, ?_⟩)).trans (dI (g := 27) rfl rfl))) ?_
             refine aV (by first | exact .inl rfl | exact .inr rfl) (bD rfl (aC rfl) (aC rfl)) rfl ?_; rfl)
end Go.Proofs.YtdajnmffoopcaaaGreatDoor.Ab
namespace Go.Proofs.YtdajnmffoopcaaaGreatDoor.Ab
set_option linter.unusedVariables false
set_option linter.unusedSimpArgs false
open Go.RowKit
attribute [local irreducible] AWP AOps AExit AThen ABlock ANoGoto FeetOk
theorem mQ {σ : Type} (V : Int → Int → σ → Tree × σ) (hV : ∀ n d s, (V n d s).1.whole = true) (t : Tree) : ∀ d s, t.whole = true → (walkS V t d s).1.whole = true := by
  induction t using Tree.ind with
  | h1 => intro d s h; simp [Tree.whole] at h
  | h2 k n a b kids ih =>
    intro d s hw
    by_cases k0 : k = 110
    · subst k0; rw [dP]; exact hV _ _ _
    · rw [eE V _ _ _ _ k0]
      have key : ∀ (l : List Tree) (s : σ), (∀ t ∈ l, t ∈ kids) → Tree.wholes (walkSs V l (d + bindsP k) s).1 = true := by
        intro l
        induction l with
        | nil => intro s _; rw [dD]; rfl
        | cons t ts ih2 =>
          intro s hm
          rw [walkSs]
          simp only [Tree.wholes, Bool.and_eq_true]
          exact ⟨ih t (hm t (by simp)) _ _ (bS hw (hm t (by simp))), ih2 _ fun t' h' => hm t' (by simp [h'])⟩
      exact key kids s fun _ h => h
/-- What Put makes of a variable. -/
def putV (i : Int) (by_ : Tree) (n d : Int) (ok : Bool) : Tree × Bool :=
  if n < d ∨ n - d < i then (varT n, ok)
  else if n - d > i then (varT (n - 1), ok)
  else if ok = true ∧ (walkS (shiftV d 0) by_ 0 true).2 = true then ((walkS (shiftV d 0) by_ 0 true).1, true) else (varT n, false)
theorem tZ (i : Int) (by_ : Tree) (n d : Int) (s : Bool) (h : s = false) : (putV i by_ n d s).2 = false := by
  subst h
  unfold putV
  split
  · rfl
  · split
    · rfl
    · rw [if_neg (by simp)]
theorem wB (i : Int) (by_ : Tree) (hw : by_.whole = true) (n d : Int) (s : Bool) : (putV i by_ n d s).1.whole = true := by
  unfold putV
  split
  · rfl
  · split
    · rfl
    · split
      · exact mQ _ (fun n d s => (eN _ _ n d s).1) by_ 0 true hw
      · rfl
set_option maxHeartbeats 16000000 in
set_option maxRecDepth 10000 in
theorem aCx (i : Int) (by_ : Tree) (hi : 0 ≤ i) (bv : okVars by_ = true) (bk : noMark by_ = true) (bw : by_.whole = true) (bs : by_.size ≤ 1000000) (t : Tree) : ∀ d : Int, okVars t = true → noMark t = true → t.whole = true → 0 ≤ d → d + t.size ≤ 1000000 →
    ACalls Tryz.prog 91 [.imm t.iv, .imm (.lit (.int .i64 i)), .imm by_.iv, .imm (.lit (.int .i64 d))] [] (.imm (.tup [(told (walkS (putV i by_) t d true)).iv, .lit (.bool (walkS (putV i by_) t d true).2)])) [] := by
  induction t using Tree.ind with
  | h1 => intro d _ _ h; simp [Tree.whole] at h
  | h2 k n a b kids ih =>
    intro d hv hk hw hd hs
    have hl := cC kids hw
    have hsz : (Tree.node k n a b kids).size = 1 + Tree.sizes kids := by rw [Tree.size]
    rw [hsz] at hs
    have ci := oW k n a b kids
    obtain ⟨rfl, hks⟩ := mP hk
    by_cases k110 : k = 110
    · obtain ⟨q1, q2, rfl, _, rfl⟩ := dB k110 hv
      subst k110
      clear ih
      rw [dP]
      unfold putV
      by_cases h1 : n < d ∨ n - d < i
      · rw [if_pos h1]
        refine cZ Tryz.func91 rfl rfl (nb rfl) rfl ?_
        refine dH (gE 55 (by simp) rfl rfl) ?_
        repeat' (first | refine aG ?_ | (refine aI ?_;  first | refine aD tabOk rfl rfl rfl (nb rfl) rfl ?_ | refine bE rfl rfl (nb rfl) ?_ | (refine aM rfl rfl rfl (nb rfl) rfl rfl rfl (fun hq => ?_) (fun hq => ?_) <;> (first | (simp only [sD, sE, sB, sC, sN, sM, sT, sF] at hq; try (exfalso; omega)) | skip)) | refine dQ (d := 54) tabOk rfl rfl rfl (nb rfl) rfl rfl rfl rfl rfl ?_ | refine eQ 55 (d := 55) rfl rfl rfl (nb rfl) rfl rfl rfl rfl rfl ?_ | refine bV rfl rfl rfl (nb rfl) rfl rfl rfl (by omega) (by omega) ?_) | (refine aN ?_;  first | refine aH ?_ | refine aQ ?_ | refine aY ?_ | refine aU ?_ | refine aA (b := false) rfl nFt (fun _ => ?_) | refine aW mixed (by kernel_rfl) ?_) | (refine aK ?_;  first | refine aX ?_) | refine bQ (bL (by kernel_rfl)) ?_)
        all_goals first
          | exact absurd rfl (by assumption)
          | (exfalso; omega)
          | (refine dH (dU (h0 := 55) (k0 := 4) 500 25 1 rfl rfl (by simp) rfl rfl) ?_
             refine cI (ι := Unit) (fun _ => S.f ⟨[(11, .imm (.lit (.int .i64 0))), (10, .obj 55 0), (0, .imm (Tree.iv (.node 110 n emptyB emptyB [])))], [(500, .arr 25 1 0 []), (55, .cells [.imm (.lit (.int .i64 110)), .imm (.lit (.int .i64 (n))), .imm (.lit (.string ⟨#[]⟩)), .imm (.lit (.string ⟨#[]⟩)), .ref 500 0])]⟩) (fun _ => 0) () (cA (by repeat' first | exact trivial | refine ⟨rfl, ?_⟩) (by repeat' first | exact trivial | refine ⟨rfl, ?_⟩)) ?_
             rintro ⟨⟩
             dsimp only
             repeat' (first | refine aG ?_ | (refine aI ?_;  first | refine aD tabOk rfl rfl rfl (nb rfl) rfl ?_ | (refine aM rfl rfl rfl (nb rfl) rfl rfl rfl (fun hq => ?_) (fun hq => ?_) <;> (first | (simp only [sD, sE, sB, sC, sN, sM, sT, sF] at hq; try (exfalso; omega)) | skip)) | refine bB tabOk rfl rfl (nb rfl) rfl ?_ | refine bN tabOk rfl rfl rfl (nb rfl) rfl rfl rfl rfl (by first | rfl | omega) (by first | omega | simp) ?_ | refine bC tabOk rfl rfl rfl (nb rfl) rfl rfl rfl (bX _ _ (by first | assumption | omega)) ?_) | (refine aN ?_;  first | refine aH ?_ | refine aQ ?_ | refine aY ?_ | refine aT ?_ | refine bW ?_ | refine aU ?_ | refine aA (b := true) rfl (fun _ => ?_) nTf | refine aA (b := false) rfl nFt (fun _ => ?_) | refine aW mixed (by kernel_rfl) ?_) | (refine aK ?_;  first | refine aX ?_ | refine bM ?_) | (refine bA ?_;  first | refine bI ?_))
             all_goals first
               | (exfalso; have hh : (0 : Int) < (([] : List Tree).length : Int) := by assumption
                  simp at hh)
               | (exfalso; omega)
               | (refine eH ((Imp.of_le (σ' := S.f ⟨[(8, .obj 55 0), (9, .imm (.lit (.bool true)))], [(500, .arr 25 1 0 []), (55, .cells [.imm (.lit (.int .i64 110)), .imm (.lit (.int .i64 (n))), .imm (.lit (.string ⟨#[]⟩)), .imm (.lit (.string ⟨#[]⟩)), .ref 500 0])]⟩) (cA (by repeat' first | exact trivial | refine ⟨rfl, ?_⟩) (by repeat' first | exact trivial | refine ⟨rfl, ?_⟩))).trans ((dC (g := 500) rfl (by repeat' first | exact trivial | exact fun _ => rfl | refine ⟨?_, ?_⟩) (by repeat' first | exact trivial | exact fun _ => rfl | refine ⟨?_, ?_⟩)).trans (dI (g := 55) rfl rfl))) ?_
                  refine aV (by first | exact .inl rfl | exact .inr rfl) (bD rfl (aC rfl) (aC rfl)) rfl ?_; rfl))
      · rw [if_neg h1]
        by_cases h2 : n - d > i
        · rw [if_pos h2]
          refine cZ Tryz.func91 rfl rfl (nb rfl) rfl ?_
          refine dH (gE 55 (by simp) rfl rfl) ?_
          repeat' (first | refine aG ?_ | (refine aI ?_;  first | refine aD tabOk rfl rfl rfl (nb rfl) rfl ?_ | (refine aM rfl rfl rfl (nb rfl) rfl rfl rfl (fun hq => ?_) (fun hq => ?_) <;> (first | (simp only [sD, sE, sB, sC, sN, sM, sT, sF] at hq; try (exfalso; omega)) | skip)) | refine dQ (d := 54) tabOk rfl rfl rfl (nb rfl) rfl rfl rfl rfl rfl ?_ | refine eQ 55 (d := 55) rfl rfl rfl (nb rfl) rfl rfl rfl rfl rfl ?_ | refine bV (z := n - 1) rfl rfl rfl (nb rfl) rfl rfl rfl (by omega) (by omega) ?_ | refine bV rfl rfl rfl (nb rfl) rfl rfl rfl (by omega) (by omega) ?_ | refine bJ tabOk rfl rfl rfl rfl rfl rfl rfl rfl rfl rfl rfl ?_) | (refine aN ?_;  first | refine aH ?_ | refine aQ ?_ | refine bH ?_ | refine aY ?_ | refine aU ?_ | refine aA (b := true) rfl (fun _ => ?_) nTf | refine aA (b := false) rfl nFt (fun _ => ?_) | refine aW mixed (by kernel_rfl) ?_) | (refine aK ?_;  first | refine aX ?_) | refine bQ (bL (by kernel_rfl)) ?_)
          all_goals first
            | exact absurd rfl (by assumption)
            | (exfalso; omega)
            | (refine dH (dU (h0 := 55) (k0 := 4) 500 25 1 rfl rfl (by simp) rfl rfl) ?_
               refine cI (ι := Unit) (fun _ => S.f ⟨[(11, .imm (.lit (.int .i64 0))), (10, .obj 55 0), (0, .imm (Tree.iv (.node 110 n emptyB emptyB [])))], [(500, .arr 25 1 0 []), (55, .cells [.imm (.lit (.int .i64 110)), .imm (.lit (.int .i64 (n - 1))), .imm (.lit (.string ⟨#[]⟩)), .imm (.lit (.string ⟨#[]⟩)), .ref 500 0])]⟩) (fun _ => 0) () (cA (by repeat' first | exact trivial | refine ⟨rfl, ?_⟩) (by repeat' first | exact trivial | refine ⟨rfl, ?_⟩)) ?_
               rintro ⟨⟩
               dsimp only
               repeat' (first | refine aG ?_ | (refine aI ?_;  first | refine aD tabOk rfl rfl rfl (nb rfl) rfl ?_ | (refine aM rfl rfl rfl (nb rfl) rfl rfl rfl (fun hq => ?_) (fun hq => ?_) <;> (first | (simp only [sD, sE, sB, sC, sN, sM, sT, sF] at hq; try (exfalso; omega)) | skip)) | refine bB tabOk rfl rfl (nb rfl) rfl ?_ | refine bN tabOk rfl rfl rfl (nb rfl) rfl rfl rfl rfl (by first | rfl | omega) (by first | omega | simp) ?_ | refine bC tabOk rfl rfl rfl (nb rfl) rfl rfl rfl (bX _ _ (by first | assumption | omega)) ?_) | (refine aN ?_;  first | refine aH ?_ | refine aQ ?_ | refine aY ?_ | refine aT ?_ | refine bW ?_ | refine aU ?_ | refine aA (b := true) rfl (fun _ => ?_) nTf | refine aA (b := false) rfl nFt (fun _ => ?_) | refine aW mixed (by kernel_rfl) ?_) | (refine aK ?_;  first | refine aX ?_ | refine bM ?_) | (refine bA ?_;  first | refine bI ?_))
               all_goals first
                 | (exfalso; have hh : (0 : Int) < (([] : List Tree).length : Int) := by assumption
                    simp at hh)
                 | (exfalso; omega)
                 | (refine eH ((Imp.of_le (σ' := S.f ⟨[(8, .obj 55 0), (9, .imm (.lit (.bool true)))], [(500, .arr 25 1 0 []), (55, .cells [.imm (.lit (.int .i64 110)), .imm (.lit (.int .i64 (n - 1))), .imm (.lit (.string ⟨#[]⟩)), .imm (.lit (.string ⟨#[]⟩)), .ref 500 0])]⟩) (cA (by repeat' first | exact trivial | refine ⟨rfl, ?_⟩) (by repeat' first | exact trivial | refine ⟨rfl, ?_⟩))).trans ((dC (g := 500) rfl (by repeat' first | exact trivial | exact fun _ => rfl | refine ⟨?_, ?_⟩) (by repeat' first | exact trivial | exact fun _ => rfl | refine ⟨?_, ?_⟩)).trans (dI (g := 55) rfl rfl))) ?_
                    refine aV (by first | exact .inl rfl | exact .inr rfl) (bD rfl (aC rfl) (aC rfl)) rfl ?_; rfl))
        · rw [if_neg h2]
          have hc := oY d 0 by_ 0 bv bk bw (Int.le_refl _) (by omega)
          obtain ⟨W, hW⟩ : ∃ W, walkS (shiftV d 0) by_ 0 true = W := ⟨_, rfl⟩
          rw [hW] at hc ⊢
          obtain ⟨W1, W2⟩ := W
          have hd : n - d = i := by omega
          have e2 : (if true = true ∧ (W1, W2).2 = true then ((W1, W2).1, true) else (varT n, false)) = (if W2 = true then (W1, true) else (varT n, false)) := by simp
          rw [e2]
          have e3 : told (if W2 = true then (W1, true) else (varT n, false)) = told (W1, W2) ∧ (if W2 = true then (W1, true) else (varT n, false)).2 = W2 := by cases W2 <;> exact ⟨rfl, rfl⟩
          rw [e3.1, e3.2]
          dsimp only at hc
          clear hW e2 e3
          generalize told (W1, W2) = Z at *
          refine cZ Tryz.func91 rfl rfl (nb rfl) rfl ?_
          repeat' (first | refine aG ?_ | (refine aI ?_;  first | refine aD tabOk rfl rfl rfl (nb rfl) rfl ?_ | (refine aM rfl rfl rfl (nb rfl) rfl rfl rfl (fun hq => ?_) (fun hq => ?_) <;> (first | (simp only [sD, sE, sB, sC, sN, sM, sT, sF] at hq; try (exfalso; omega)) | skip)) | refine aE rfl rfl (nb rfl) rfl rfl rfl rfl (hc) ?_ | refine bV rfl rfl rfl (nb rfl) rfl rfl rfl (by omega) (by omega) ?_) | (refine aN ?_;  first | refine aH ?_ | refine aQ ?_ | refine aT ?_ | refine aA (b := true) rfl (fun _ => ?_) nTf) | (refine aK ?_;  first | refine aR ?_))
          all_goals first
            | exact absurd rfl (by assumption)
            | (exfalso; omega)
            | (refine eA ?_; refine aV (by first | exact .inl rfl | exact .inr rfl) (bD rfl (aC rfl) (aC rfl)) rfl ?_; rfl)
    · have e := eE (putV i by_) n d true (a := a) (b := emptyB) kids k110
      rw [e]
      clear e
      have hb := eI k
      have hvs := dA k110 hv
      obtain ⟨Y, hY⟩ : ∃ Y, walkSs (putV i by_) kids (d + bindsP k) true = Y := ⟨_, rfl⟩
      rw [hY]
      refine cZ Tryz.func91 rfl rfl (nb rfl) rfl ?_
      refine dH (gE 55 (by simp) rfl rfl) ?_
      repeat' (first | refine aG ?_ | (refine aI ?_;  first | refine aD tabOk rfl rfl rfl (nb rfl) rfl ?_ | refine bE rfl rfl (nb rfl) ?_ | (refine aM rfl rfl rfl (nb rfl) rfl rfl rfl (fun hq => ?_) (fun hq => ?_) <;> (first | (simp only [sD, sE, sB, sC, sN, sM, sT, sF] at hq; try (exfalso; omega)) | skip)) | refine dQ (d := 54) tabOk rfl rfl rfl (nb rfl) rfl rfl rfl rfl rfl ?_ | refine eQ 55 (d := 55) rfl rfl rfl (nb rfl) rfl rfl rfl rfl rfl ?_) | (refine aN ?_;  first | refine aH ?_ | refine aQ ?_ | refine aY ?_ | refine aU ?_ | refine aA (b := false) rfl nFt (fun _ => ?_) | refine aW mixed (by kernel_rfl) ?_) | (refine aK ?_;  first | refine aX ?_) | refine bQ (bL (by kernel_rfl)) ?_)
      all_goals first
        | exact absurd (by assumption) k110
        | (exfalso; omega)
        | skip
      refine dH (dU (h0 := 55) (k0 := 4) 500 25 1 rfl rfl (by simp) rfl rfl) ?_
      refine cI (ι := {j : Nat // j ≤ kids.length ∧ (walkSs (putV i by_) (kids.take j) (d + bindsP k) true).2 = true}) (fun j => S.f ⟨[(11, .imm (.lit (.int .i64 (j.1 : Int)))), (10, .obj 55 0), (0, .imm (Tree.iv (.node k n a emptyB kids))), (1, .imm (.lit (.int .i64 i))), (2, .imm by_.iv), (3, .imm (.lit (.int .i64 d)))], [(500, .arr 25 1 j.1 (Tree.ivs (walkSs (putV i by_) (kids.take j.1) (d + bindsP k) true).1)), (55, .cells [.imm (.lit (.int .i64 k)), .imm (.lit (.int .i64 n)), .imm (.lit (.string a)), .imm (.lit (.string ⟨#[]⟩)), .ref 500 j.1])]⟩) (fun j => kids.length - j.1) ⟨0, Nat.zero_le _, by rw [List.take_zero, dD]⟩ (by dsimp only; rw [List.take_zero, dD]; exact (cA (by repeat' first | exact trivial | refine ⟨rfl, ?_⟩) (by repeat' first | exact trivial | refine ⟨rfl, ?_⟩))) ?_
      rintro ⟨j, hj, hok⟩
      dsimp only
      by_cases hlt : j < kids.length
      · have hm := List.getElem_mem hlt
        have hz := dE hm
        have hwk := bS hw hm
        have hget := bX kids j hlt
        have hc := ih _ hm (d + bindsP k) (hvs _ hm) (hks _ hm) hwk (by omega) (by omega)
        have htk := dZ (putV i by_) (d + bindsP k) true hlt
        rw [hok] at htk
        have hfn := mQ (putV i by_) (wB i by_ bw) kids[j] (d + bindsP k) true hwk
        clear ih
        generalize hR : walkS (putV i by_) kids[j] (d + bindsP k) true = R at *
        obtain ⟨R1, R2⟩ := R
        dsimp only at hc hfn htk
        obtain ⟨pm, hpm⟩ := dT (dG hfn)
        cases R2 with
        | false =>
          have hbad : Y.2 = false := by
            rw [← hY]
            refine oV _ (fun s => s = false) (fun n d s h => tZ i by_ n d s h) _ _ _ (j + 1) ?_
            rw [htk]
          have hres : told ((Tree.node k n a emptyB Y.1), Y.2) = .nil ∧ Y.2 = false := ⟨by rw [hbad]; rfl, hbad⟩
          rw [iN] at hc
          rw [hres.1, hres.2]
          clear hY htk
          generalize Tree.ivs (walkSs (putV i by_) (kids.take j) (d + bindsP k) true).1 = ZI at *
          repeat' (first | refine aG ?_ | (refine aI ?_;  first | refine aD tabOk rfl rfl rfl (nb rfl) rfl ?_ | (refine aM rfl rfl rfl (nb rfl) rfl rfl rfl (fun hq => ?_) (fun hq => ?_) <;> (first | (simp only [sD, sE, sB, sC, sN, sM, sT, sF] at hq; try (exfalso; omega)) | skip)) | refine bC tabOk rfl rfl rfl (nb rfl) rfl rfl rfl hget ?_ | refine aE rfl rfl (nb rfl) rfl rfl rfl rfl (hc) ?_ | refine aE rfl rfl (nb rfl) rfl rfl rfl rfl (ci) ?_ | refine bY rfl rfl rfl (nb rfl) rfl rfl rfl (by omega) (by omega) ?_ | refine bB tabOk rfl rfl (nb rfl) rfl ?_ | refine bG tabOk rfl rfl rfl (nb rfl) rfl rfl rfl rfl (by first | assumption | omega) ?_) | (refine aN ?_;  first | refine aH ?_ | refine aQ ?_ | refine aY ?_ | refine aT ?_ | refine aU ?_ | refine aA (b := true) rfl (fun _ => ?_) nTf | refine aW mixed (by kernel_rfl) ?_) | (refine aK ?_;  first | refine aX ?_ | refine aR ?_) | (refine bA ?_;  first | refine bF ?_) | refine bQ (bL (by kernel_rfl)) ?_)
          all_goals first
            | (exfalso; omega)
            | (refine eA ?_; refine aV (by first | exact .inl rfl | exact .inr rfl) (bD rfl (aC rfl) (aC rfl)) rfl ?_; rfl)
        | true =>
          have hnx : Tree.ivs (walkSs (putV i by_) (kids.take (j + 1)) (d + bindsP k) true).1 = Tree.ivs (walkSs (putV i by_) (kids.take j) (d + bindsP k) true).1 ++ [.ptr pm 0] := by
            rw [htk, dL, dL, List.map_append, ← hpm]; rfl
          have hok2 : (walkSs (putV i by_) (kids.take (j + 1)) (d + bindsP k) true).2 = true := by rw [htk]
          have hil := eG (walkSs (putV i by_) (kids.take j) (d + bindsP k) true).1
          rw [dS, List.length_take, Nat.min_eq_left hj] at hil
          rw [fN, hpm] at hc
          clear htk hY
          generalize Tree.ivs (walkSs (putV i by_) (kids.take j) (d + bindsP k) true).1 = ZI at *
          repeat' (first | refine aG ?_ | (refine aI ?_;  first | refine aD tabOk rfl rfl rfl (nb rfl) rfl ?_ | (refine aM rfl rfl rfl (nb rfl) rfl rfl rfl (fun hq => ?_) (fun hq => ?_) <;> (first | (simp only [sD, sE, sB, sC, sN, sM, sT, sF] at hq; try (exfalso; omega)) | skip)) | refine bC tabOk rfl rfl rfl (nb rfl) rfl rfl rfl hget ?_ | refine aE rfl rfl (nb rfl) rfl rfl rfl rfl (hc) ?_ | refine aE rfl rfl (nb rfl) rfl rfl rfl rfl (ci) ?_ | refine dF tabOk rfl rfl rfl (nb rfl) rfl rfl rfl rfl rfl rfl rfl (by first | omega | decide) rfl (by first | omega | (dsimp only; omega)) (by first | omega | (dsimp only; omega)) ?_ | refine bP rfl rfl rfl (nb rfl) rfl rfl (by omega) ?_ | refine bY rfl rfl rfl (nb rfl) rfl rfl rfl (by omega) (by omega) ?_ | refine cH tabOk rfl rfl rfl (nb rfl) rfl rfl rfl rfl rfl rfl rfl rfl rfl ?_ | refine bB tabOk rfl rfl (nb rfl) rfl ?_ | refine bO tabOk rfl rfl rfl (nb rfl) rfl rfl rfl rfl ?_ | refine bJ tabOk rfl rfl rfl rfl rfl rfl rfl rfl rfl rfl rfl ?_ | refine bG tabOk rfl rfl rfl (nb rfl) rfl rfl rfl rfl (by first | assumption | omega) ?_) | (refine aN ?_;  first | refine aH ?_ | refine aQ ?_ | refine bH ?_ | refine aY ?_ | refine aU ?_ | refine aA (b := true) rfl (fun _ => ?_) nTf | refine aA (b := false) rfl nFt (fun _ => ?_) | refine aW mixed (by kernel_rfl) ?_) | (refine aK ?_;  first | refine aX ?_) | (refine bA ?_;  first | refine bU ?_) | refine bQ (bL (by kernel_rfl)) ?_)
          all_goals first
            | (exfalso; omega)
            | (refine ⟨⟨j + 1, hlt, hok2⟩, (by show kids.length - (j + 1) < kids.length - j; omega), ?_⟩; dsimp only; rw [hnx]; exact (cA (by repeat' first | exact trivial | refine ⟨rfl, ?_⟩) (by repeat' first | exact trivial | refine ⟨rfl, ?_⟩)))
      · have ej : j = kids.length := by omega
        subst ej
        rw [List.take_length] at hok ⊢
        rw [hY] at hok ⊢
        have hll : Y.1.length = kids.length := by rw [← hY, dS]
        have hiv : (told ((Tree.node k n a emptyB Y.1), Y.2)).iv = .ptr [.lit (.int .i64 k), .lit (.int .i64 n), .lit (.string a), .lit (.string ⟨#[]⟩), .sl false kids.length (Tree.ivs Y.1)] 0 := by rw [hok, fN, Tree.iv, hll]; rfl
        rw [hiv, hok]
        clear ih hY
        generalize Tree.ivs Y.1 = ZI at *
        repeat' (first | refine aG ?_ | (refine aI ?_;  first | refine aD tabOk rfl rfl rfl (nb rfl) rfl ?_ | (refine aM rfl rfl rfl (nb rfl) rfl rfl rfl (fun hq => ?_) (fun hq => ?_) <;> (first | (simp only [sD, sE, sB, sC, sN, sM, sT, sF] at hq; try (exfalso; omega)) | skip)) | refine bB tabOk rfl rfl (nb rfl) rfl ?_) | (refine aN ?_;  first | refine aH ?_ | refine aQ ?_ | refine aT ?_ | refine bW ?_ | refine aA (b := false) rfl nFt (fun _ => ?_)) | (refine aK ?_;  first | refine aX ?_ | refine bM ?_) | (refine bA ?_;  first | refine bI ?_))
        all_goals first
          | (exfalso; omega)
          | (refine eH ((Imp.of_le (σ' := S.f ⟨[(8, .obj 55 0), (9, .imm (.lit (.bool true)))], [(500, .arr 25 1 kids.length ZI), (55, .cells [.imm (.lit (.int .i64 k)), .imm (.lit (.int .i64 n)), .imm (.lit (.string a)), .imm (.lit (.string ⟨#[]⟩)), .ref 500 kids.length])]⟩) (cA (by repeat' first | exact trivial | refine ⟨rfl, ?_⟩) (by repeat' first | exact trivial | refine ⟨rfl, ?_⟩))).trans ((dC (g := 500) rfl (by repeat' first | exact trivial | exact fun _ => rfl | refine ⟨?_, ?_⟩) (by repeat' first | exact trivial | exact fun _ => rfl | refine ⟨?_, ?_⟩)).trans (dI (g := 55) rfl rfl))) ?_
             refine aV (by first | exact .inl rfl | exact .inr rfl) (bD rfl (aC rfl) (aC rfl)) rfl ?_; rfl)
mutual
/-- How often a variable stands in a tree, within so many binders. -/
def cntP (i : Int) : Tree → Int → Nat
  | .nil, _ => 0
  | .node k n _ _ kids, d => (if k = 110 ∧ d ≤ n ∧ n - d = i then 1 else 0) + cntPs i kids (d + bindsP k)
def cntPs (i : Int) : List Tree → Int → Nat
  | [], _ => 0
  | t :: ts, d => cntP i t d + cntPs i ts d
end
theorem oZ (i d : Int) : ∀ (l : List Tree) (t : Tree), cntPs i (l ++ [t]) d = cntPs i l d + cntP i t d
  | [], t => by simp [cntPs]
  | x :: l, t => by rw [List.cons_append, cntPs, oZ i d l t, cntPs]; omega
theorem wC (i d : Int) {l : List Tree} {j : Nat} (h : j < l.length) : cntPs i (l.take (j + 1)) d = cntPs i (l.take j) d + cntP i l[j] d := by
  rw [List.take_succ_eq_append_getElem h, oZ]
theorem nK (i : Int) (t : Tree) : ∀ d, cntP i t d ≤ t.size := by
  induction t using Tree.ind with
  | h1 => intro d; rw [cntP]; exact Nat.zero_le _
  | h2 k n a b kids ih =>
    intro d
    have key : ∀ (l : List Tree), (∀ t ∈ l, t ∈ kids) → cntPs i l (d + bindsP k) ≤ Tree.sizes l := by
      intro l
      induction l with
      | nil => intro _; rw [cntPs]; exact Nat.zero_le _
      | cons t ts ih2 =>
        intro hm
        rw [cntPs, Tree.sizes]
        exact Nat.add_le_add (ih t (hm t (by simp)) _) (ih2 fun t' h' => hm t' (by simp [h']))
    have := key kids fun _ h => h
    rw [cntP, Tree.size]
    split <;> omega
theorem uA (i d : Int) : ∀ l : List Tree, cntPs i l d ≤ Tree.sizes l
  | [] => by rw [cntPs]; exact Nat.zero_le _
  | t :: ts => by rw [cntPs, Tree.sizes]; exact Nat.add_le_add (nK i t d) (uA i d ts)
theorem wD (l : List Tree) (j : Nat) : Tree.sizes (l.take j) ≤ Tree.sizes l := by
  have := fL (l.take j) (l.drop j)
  rw [List.take_append_drop] at this
  omega
set_option maxHeartbeats 16000000 in
set_option maxRecDepth 10000 in
theorem uB (i : Int) (hi : 0 ≤ i) (t : Tree) : ∀ d : Int, okVars t = true → t.whole = true → 0 ≤ d → d + t.size ≤ 1000000 →
    ACalls Tryz.prog 58 [.imm t.iv, .imm (.lit (.int .i64 i)), .imm (.lit (.int .i64 d))] [] (.imm (.lit (.int .i64 (cntP i t d : Nat)))) [] := by
  induction t using Tree.ind with
  | h1 => intro d _ h; simp [Tree.whole] at h
  | h2 k n a b kids ih =>
    intro d hv hw hd hs
    have hl := cC kids hw
    have hsz : (Tree.node k n a b kids).size = 1 + Tree.sizes kids := by rw [Tree.size]
    rw [hsz] at hs
    have ci := oW k n a b kids
    have hb := eI k
    have hv0 : k = 110 → 0 ≤ n ∧ n ≤ 65536 ∧ kids = [] := fun e => ⟨(dB e hv).1, (dB e hv).2.1, (dB e hv).2.2.2.2⟩
    rw [cntP]
    obtain ⟨c0, hc0⟩ : ∃ c0 : Nat, (if k = 110 ∧ d ≤ n ∧ n - d = i then 1 else 0) = c0 := ⟨_, rfl⟩
    rw [hc0]
    have hc1 : (k = 110 ∧ d ≤ n ∧ n - d = i ∧ c0 = 1) ∨ (¬ (k = 110 ∧ d ≤ n ∧ n - d = i) ∧ c0 = 0) := by
      rw [← hc0]
      by_cases h : k = 110 ∧ d ≤ n ∧ n - d = i
      · rw [if_pos h]; exact .inl ⟨h.1, h.2.1, h.2.2, rfl⟩
      · rw [if_neg h]; exact .inr ⟨h, rfl⟩
    clear hc0
    have hn : k = 110 → 0 ≤ n ∧ n ≤ 65536 := fun e => ⟨(hv0 e).1, (hv0 e).2.1⟩
    refine aJ Tryz.func58 rfl rfl (nb rfl) rfl ?_
    repeat' (first | refine aG ?_ | (refine aI ?_;  first | refine aD tabOk rfl rfl rfl (nb rfl) rfl ?_ | refine bE rfl rfl (nb rfl) ?_ | (refine aM rfl rfl rfl (nb rfl) rfl rfl rfl (fun hq => ?_) (fun hq => ?_) <;> (first | (simp only [sD, sE, sB, sC, sN, sM, sT, sF] at hq; try (exfalso; omega)) | skip)) | refine bV (z := n - d) rfl rfl rfl (nb rfl) rfl rfl rfl (by have := hn (by assumption); omega) (by have := hn (by assumption); omega) ?_) | (refine aN ?_;  first | refine aH ?_ | refine aQ ?_ | refine bH ?_ | refine aY ?_ | refine aU ?_ | refine aA (b := true) rfl (fun _ => ?_) nTf | refine aA (b := false) rfl nFt (fun _ => ?_)) | (refine aK ?_;  first | refine aX ?_))
    all_goals first
      | (exfalso; omega)
      | skip
    all_goals rcases hc1 with ⟨e1, e2, e3, e4⟩ | ⟨e1, e4⟩
    all_goals first
      | (exfalso; omega)
      | skip
    all_goals (
      refine cI (ι := {j : Nat // j ≤ kids.length}) (fun j => S.f ⟨[(8, .imm (.lit (.int .i64 (j.1 : Int)))), (7, .imm (.lit (.int .i64 ((c0 + cntPs i (kids.take j.1) (d + bindsP k) : Nat) : Int)))), (0, .imm (Tree.iv (.node k n a b kids))), (1, .imm (.lit (.int .i64 i))), (2, .imm (.lit (.int .i64 d)))], []⟩) (fun j => kids.length - j.1) ⟨0, Nat.zero_le _⟩ (by dsimp only; rw [List.take_zero, cntPs, e4]; exact (cA (by repeat' first | exact trivial | refine ⟨rfl, ?_⟩) (by repeat' first | exact trivial | refine ⟨rfl, ?_⟩))) ?_
      rintro ⟨j, hj⟩
      dsimp only
      have htl := uA i (d + bindsP k) (kids.take j)
      have hts := wD kids j
      by_cases hlt : j < kids.length
      · have hm := List.getElem_mem hlt
        have hz := dE hm
        have hwk := bS hw hm
        have hget := bX kids j hlt
        have hk0 : k ≠ 110 := fun e => by rw [(hv0 e).2.2] at hlt; cases hlt
        have hc := ih _ hm (d + bindsP k) (dA hk0 hv _ hm) hwk (by omega) (by omega)
        have htk := wC i (d + bindsP k) hlt
        have hle := nK i kids[j] (d + bindsP k)
        repeat' (first | refine aG ?_ | (refine aI ?_;  first | refine aD tabOk rfl rfl rfl (nb rfl) rfl ?_ | (refine aM rfl rfl rfl (nb rfl) rfl rfl rfl (fun hq => ?_) (fun hq => ?_) <;> (first | (simp only [sD, sE, sB, sC, sN, sM, sT, sF] at hq; try (exfalso; omega)) | skip)) | refine bC tabOk rfl rfl rfl (nb rfl) rfl rfl rfl hget ?_ | refine aE rfl rfl (nb rfl) rfl rfl rfl rfl (hc) ?_ | refine aE rfl rfl (nb rfl) rfl rfl rfl rfl (ci) ?_ | refine bY (z := ((c0 + cntPs i (kids.take (j + 1)) (d + bindsP k) : Nat) : Int)) rfl rfl rfl (nb rfl) rfl rfl (by omega) (by omega) (by omega) ?_ | refine bP rfl rfl rfl (nb rfl) rfl rfl (by omega) ?_ | refine bY rfl rfl rfl (nb rfl) rfl rfl rfl (by omega) (by omega) ?_ | refine bB tabOk rfl rfl (nb rfl) rfl ?_ | refine bG tabOk rfl rfl rfl (nb rfl) rfl rfl rfl rfl (by first | assumption | omega) ?_) | (refine aN ?_;  first | refine aH ?_ | refine aQ ?_ | refine bH ?_ | refine aY ?_ | refine aU ?_ | refine aA (b := true) rfl (fun _ => ?_) nTf | refine aW mixed (by kernel_rfl) ?_) | (refine aK ?_;  first | refine aX ?_) | (refine bA ?_;  first | refine bU ?_) | refine bQ (bL (by kernel_rfl)) ?_)
        all_goals first
          | (exfalso; omega)
          | exact ⟨⟨j + 1, hlt⟩, (by show kids.length - (j + 1) < kids.length - j; omega), (cA (by repeat' first | exact trivial | refine ⟨rfl, ?_⟩) (by repeat' first | exact trivial | refine ⟨rfl, ?_⟩))⟩
      · have ej : j = kids.length := by omega
        subst ej
        rw [List.take_length]
        repeat' (first | refine aG ?_ | (refine aI ?_;  first | refine aD tabOk rfl rfl rfl (nb rfl) rfl ?_ | (refine aM rfl rfl rfl (nb rfl) rfl rfl rfl (fun hq => ?_) (fun hq => ?_) <;> (first | (simp only [sD, sE, sB, sC, sN, sM, sT, sF] at hq; try (exfalso; omega)) | skip)) | refine bB tabOk rfl rfl (nb rfl) rfl ?_) | (refine aN ?_;  first | refine aH ?_ | refine aQ ?_ | refine aT ?_ | refine bW ?_ | refine aA (b := false) rfl nFt (fun _ => ?_)) | (refine aK ?_;  first | refine aX ?_ | refine bM ?_) | (refine bA ?_;  first | refine bI ?_))
        all_goals first
          | (exfalso; omega)
          | (refine aV (by first | exact .inl rfl | exact .inr rfl) (aZ rfl (aC rfl)) rfl ?_; rfl))
end Go.Proofs.YtdajnmffoopcaaaGreatDoor.Ab
namespace Go.Proofs.YtdajnmffoopcaaaGreatDoor.Ab
set_option linter.unusedVariables false
set_option linter.unusedSimpArgs false
open Go.RowKit
attribute [local irreducible] AWP AOps AExit AThen ABlock ANoGoto FeetOk
/-- What within tells first. -/
def withinL (t : Tree) (l : Int) : Int := if (wholeP t l).1 = 0 then (wholeP t l).2 else match t with | .nil => l | .node .. => 0
set_option maxHeartbeats 8000000 in
set_option maxRecDepth 10000 in
theorem wE (t : Tree) : ∀ l : Int, 0 ≤ l → l ≤ 1000000 → ACalls Tryz.prog 56 [.imm t.iv, .imm (.lit (.int .i64 l))] [] (.imm (.tup [.lit (.int .i64 (withinL t l)), .lit (.int .i64 (wholeP t l).1)])) [] := by
  induction t using Tree.ind with
  | h1 => intro l h0 h1; exact vZ l
  | h2 k n a b kids ih =>
    intro l h0 h1
    by_cases hl0 : l = 0
    · subst hl0
      refine aJ Tryz.func56 rfl rfl (nb rfl) rfl ?_
      repeat' (first | refine aG ?_ | (refine aI ?_;  first | refine aD tabOk rfl rfl rfl (nb rfl) rfl ?_ | (refine aM rfl rfl rfl (nb rfl) rfl rfl rfl (fun hq => ?_) (fun hq => ?_) <;> (first | (simp only [sD, sE, sB, sC, sN, sM, sT, sF] at hq; try (exfalso; omega)) | skip)) | refine bB tabOk rfl rfl (nb rfl) rfl ?_) | (refine aN ?_;  first | refine aH ?_ | refine aQ ?_ | refine aT ?_ | refine aU ?_ | refine aA (b := true) rfl (fun _ => ?_) nTf | refine aA (b := false) rfl nFt (fun _ => ?_)) | (refine aK ?_;  first | refine aX ?_ | refine aR ?_))
      all_goals first
        | exact absurd rfl (by assumption)
        | (exfalso; omega)
        | (refine aV (by first | exact .inl rfl | exact .inr rfl) (bD rfl (aC rfl) (aC rfl)) rfl ?_; rfl)
    · obtain ⟨W, hW⟩ : ∃ W, wholeP (.node k n a b kids) l = W := ⟨_, rfl⟩
      have hwl : withinL (.node k n a b kids) l = if W.1 = 0 then W.2 else 0 := by unfold withinL; rw [hW]
      rw [hwl, hW]
      rw [wholeP, if_neg (by omega)] at hW
      have hbd : ∀ j, (wholePs (kids.take j) (l - 1)).1 = 0 → 0 ≤ (wholePs (kids.take j) (l - 1)).2 ∧ (wholePs (kids.take j) (l - 1)).2 + (kids.take j).length ≤ l - 1 := fun j h => fJ _ _ (by omega) h
      refine aJ Tryz.func56 rfl rfl (nb rfl) rfl ?_
      repeat' (first | refine aG ?_ | (refine aI ?_;  first | refine aD tabOk rfl rfl rfl (nb rfl) rfl ?_ | (refine aM rfl rfl rfl (nb rfl) rfl rfl rfl (fun hq => ?_) (fun hq => ?_) <;> (first | (simp only [sD, sE, sB, sC, sN, sM, sT, sF] at hq; try (exfalso; omega)) | skip)) | refine bV (z := l - 1) rfl rfl rfl (nb rfl) rfl rfl (by omega) (by omega) (by omega) ?_ | refine bB tabOk rfl rfl (nb rfl) rfl ?_) | (refine aN ?_;  first | refine aH ?_ | refine aQ ?_ | refine aY ?_ | refine aU ?_ | refine aA (b := false) rfl nFt (fun _ => ?_)) | (refine aK ?_;  first | refine aX ?_))
      all_goals first
        | exact absurd (by assumption) hl0
        | (exfalso; omega)
        | skip
      refine cI (ι := {j : Nat // j ≤ kids.length ∧ (wholePs (kids.take j) (l - 1)).1 = 0}) (fun j => S.f ⟨[(6, .imm (.lit (.int .i64 (j.1 : Int)))), (1, .imm (.lit (.int .i64 (wholePs (kids.take j.1) (l - 1)).2))), (0, .imm (Tree.iv (.node k n a b kids)))], []⟩) (fun j => kids.length - j.1) ⟨0, Nat.zero_le _, by rw [List.take_zero, wholePs]⟩ (by dsimp only; rw [List.take_zero, wholePs]; exact (cA (by repeat' first | exact trivial | refine ⟨rfl, ?_⟩) (by repeat' first | exact trivial | refine ⟨rfl, ?_⟩))) ?_
      rintro ⟨j, hj, hok⟩
      dsimp only
      have hb := hbd j hok
      rw [List.length_take, Nat.min_eq_left hj] at hb
      by_cases hlt : j < kids.length
      · have hm := List.getElem_mem hlt
        have hget := bX kids j hlt
        have hc := ih _ hm (wholePs (kids.take j) (l - 1)).2 hb.1 (by omega)
        have hstep := iF hlt hok
        have hstop := fun h => iG hlt hok h
        clear ih
        by_cases he : (wholeP kids[j] (wholePs (kids.take j) (l - 1)).2).1 = 0
        · have hok2 : (wholePs (kids.take (j + 1)) (l - 1)).1 = 0 := by rw [hstep]; exact he
          unfold withinL at hc
          rw [if_pos he, he, ← hstep] at hc
          clear hstop hstep he
          generalize (wholePs (kids.take j) (l - 1)).2 = X at *
          generalize hZ : (wholePs (kids.take (j + 1)) (l - 1)).2 = Z at hc
          repeat' (first | refine aG ?_ | (refine aI ?_;  first | refine aD tabOk rfl rfl rfl (nb rfl) rfl ?_ | (refine aM rfl rfl rfl (nb rfl) rfl rfl rfl (fun hq => ?_) (fun hq => ?_) <;> (first | (simp only [sD, sE, sB, sC, sN, sM, sT, sF] at hq; try (exfalso; omega)) | skip)) | refine bC tabOk rfl rfl rfl (nb rfl) rfl rfl rfl hget ?_ | refine aE rfl rfl (nb rfl) rfl rfl rfl rfl (hc) ?_ | refine bP rfl rfl rfl (nb rfl) rfl rfl (by omega) ?_ | refine bB tabOk rfl rfl (nb rfl) rfl ?_ | refine bG tabOk rfl rfl rfl (nb rfl) rfl rfl rfl rfl (by first | assumption | omega) ?_) | (refine aN ?_;  first | refine aH ?_ | refine aQ ?_ | refine bH ?_ | refine aY ?_ | refine aU ?_ | refine aA (b := true) rfl (fun _ => ?_) nTf | refine aA (b := false) rfl nFt (fun _ => ?_)) | (refine aK ?_;  first | refine aX ?_) | (refine bA ?_;  first | refine bU ?_))
          all_goals first
            | exact absurd rfl (by assumption)
            | (exfalso; omega)
            | (refine ⟨⟨j + 1, hlt, hok2⟩, (by show kids.length - (j + 1) < kids.length - j; omega), ?_⟩; dsimp only; rw [hZ]; exact (cA (by repeat' first | exact trivial | refine ⟨rfl, ?_⟩) (by repeat' first | exact trivial | refine ⟨rfl, ?_⟩)))
        · have e1 : W.1 = (wholeP kids[j] (wholePs (kids.take j) (l - 1)).2).1 := by rw [← hW, hstop he]
          rw [← e1] at hc he
          rw [if_neg he]
          clear hstop hstep
          generalize (wholePs (kids.take j) (l - 1)).2 = X at *
          generalize W.1 = E at *
          repeat' (first | refine aG ?_ | (refine aI ?_;  first | refine aD tabOk rfl rfl rfl (nb rfl) rfl ?_ | (refine aM rfl rfl rfl (nb rfl) rfl rfl rfl (fun hq => ?_) (fun hq => ?_) <;> (first | (simp only [sD, sE, sB, sC, sN, sM, sT, sF] at hq; try (exfalso; omega)) | skip)) | refine bC tabOk rfl rfl rfl (nb rfl) rfl rfl rfl hget ?_ | refine aE rfl rfl (nb rfl) rfl rfl rfl rfl (hc) ?_ | refine bB tabOk rfl rfl (nb rfl) rfl ?_ | refine bG tabOk rfl rfl rfl (nb rfl) rfl rfl rfl rfl (by first | assumption | omega) ?_) | (refine aN ?_;  first | refine aH ?_ | refine aQ ?_ | refine aY ?_ | refine aT ?_ | refine aU ?_ | refine aA (b := true) rfl (fun _ => ?_) nTf) | (refine aK ?_;  first | refine aX ?_ | refine aR ?_) | (refine bA ?_;  first | refine bF ?_))
          all_goals first
            | exact absurd (by assumption) he
            | (exfalso; omega)
            | (refine aV (by first | exact .inl rfl | exact .inr rfl) (bD rfl (aC rfl) (aC rfl)) rfl ?_; rfl)
      · have ej : j = kids.length := by omega
        subst ej
        rw [List.take_length] at hok ⊢
        rw [hW] at hok ⊢
        rw [hok, if_pos rfl]
        clear hbd ih
        repeat' (first | refine aG ?_ | (refine aI ?_;  first | refine aD tabOk rfl rfl rfl (nb rfl) rfl ?_ | (refine aM rfl rfl rfl (nb rfl) rfl rfl rfl (fun hq => ?_) (fun hq => ?_) <;> (first | (simp only [sD, sE, sB, sC, sN, sM, sT, sF] at hq; try (exfalso; omega)) | skip)) | refine bB tabOk rfl rfl (nb rfl) rfl ?_) | (refine aN ?_;  first | refine aH ?_ | refine aQ ?_ | refine aT ?_ | refine bW ?_ | refine aA (b := false) rfl nFt (fun _ => ?_)) | (refine aK ?_;  first | refine aX ?_ | refine bM ?_) | (refine bA ?_;  first | refine bI ?_))
        all_goals first
          | exact absurd rfl (by assumption)
          | (exfalso; omega)
          | (refine aV (by first | exact .inl rfl | exact .inr rfl) (bD rfl (aC rfl) (aC rfl)) rfl ?_; rfl)
set_option maxHeartbeats 4000000 in
set_option maxRecDepth 10000 in
theorem eB (t : Tree) (hs : t.size ≤ 1000000) : ACalls Tryz.prog 24 [.imm t.iv] [] (.imm (.lit (.int .i64 (checkP isConP t)))) [] := by
  have c1 := wE t 65536 (by omega) (by omega)
  unfold checkP
  by_cases hw : (wholeP t 65536).1 = 0
  · rw [if_pos hw]
    rw [hw] at c1
    have c2 := aAJ t (eT t _ hw) hs
    cases hc : isConP t <;> (
      rw [hc] at c2
      refine aJ Tryz.func24 rfl rfl (nb rfl) rfl ?_
      repeat' (first | refine aG ?_ | (refine aI ?_;  first | refine aD tabOk rfl rfl rfl (nb rfl) rfl ?_ | (refine aM rfl rfl rfl (nb rfl) rfl rfl rfl (fun hq => ?_) (fun hq => ?_) <;> (first | (simp only [sD, sE, sB, sC, sN, sM, sT, sF] at hq; try (exfalso; omega)) | skip)) | refine aE rfl rfl (nb rfl) rfl rfl rfl rfl (c1) ?_ | refine aE rfl rfl (nb rfl) rfl rfl rfl rfl (c2) ?_) | (refine aN ?_;  first | refine aH ?_ | refine aQ ?_ | refine aT ?_ | refine aU ?_ | refine aA (b := true) rfl (fun _ => ?_) nTf | refine aA (b := false) rfl nFt (fun _ => ?_)) | (refine aK ?_;  first | refine aX ?_ | refine aR ?_))
      all_goals first
        | exact absurd rfl (by assumption)
        | (refine aV (by first | exact .inl rfl | exact .inr rfl) (aZ rfl (aC rfl)) rfl ?_; rfl))
  · rw [if_neg hw]
    generalize (wholeP t 65536).1 = E at *
    refine aJ Tryz.func24 rfl rfl (nb rfl) rfl ?_
    repeat' (first | refine aG ?_ | (refine aI ?_;  first | refine aD tabOk rfl rfl rfl (nb rfl) rfl ?_ | (refine aM rfl rfl rfl (nb rfl) rfl rfl rfl (fun hq => ?_) (fun hq => ?_) <;> (first | (simp only [sD, sE, sB, sC, sN, sM, sT, sF] at hq; try (exfalso; omega)) | skip)) | refine aE rfl rfl (nb rfl) rfl rfl rfl rfl (c1) ?_) | (refine aN ?_;  first | refine aH ?_ | refine aQ ?_ | refine aT ?_ | refine aA (b := true) rfl (fun _ => ?_) nTf) | (refine aK ?_;  first | refine aR ?_))
    all_goals first
      | exact absurd (by assumption) hw
      | (refine aV (by first | exact .inl rfl | exact .inr rfl) (aZ rfl (aC rfl)) rfl ?_; rfl)
end Go.Proofs.YtdajnmffoopcaaaGreatDoor.Ab
namespace Go.Proofs.YtdajnmffoopcaaaGreatDoor.Ab
set_option linter.unusedVariables false
set_option linter.unusedSimpArgs false
theorem wF {σ : Type} (V : Int → Int → σ → Tree × σ) (hV : ∀ n d s, (V n d s).1.size = 1) (t : Tree) : ∀ d s, okVars t = true → (walkS V t d s).1.size = t.size := by
  induction t using Tree.ind with
  | h1 => intro d s h; simp [okVars] at h
  | h2 k n a b kids ih =>
    intro d s hv
    by_cases k0 : k = 110
    · obtain ⟨_, _, rfl, rfl, rfl⟩ := dB k0 hv
      subst k0
      rw [dP, hV]
      rfl
    · rw [eE V _ _ _ _ k0]
      have hvs := dA k0 hv
      have key : ∀ (l : List Tree) (s : σ), (∀ t ∈ l, t ∈ kids) → Tree.sizes (walkSs V l (d + bindsP k) s).1 = Tree.sizes l := by
        intro l
        induction l with
        | nil => intro s _; rw [dD]
        | cons t ts ih2 =>
          intro s hm
          rw [walkSs]
          simp only [Tree.sizes]
          rw [ih t (hm t (by simp)) _ _ (hvs _ (hm t (by simp))), ih2 _ fun t' h' => hm t' (by simp [h'])]
      simp only [Tree.size]
      rw [key kids s fun _ h => h]
theorem wG (i own : Int) (by_ : Tree) (n d : Int) (s : Int × Int) (h : s.2 ≠ 0) : (substV i own by_ n d s).2.2 ≠ 0 := by
  unfold substV
  rw [if_pos (.inl h)]
  exact h
theorem mR (by_ : Tree) (hb : checkP isConP by_ = 0) (d : Int) : shiftP by_ d 0 = if (walkS (shiftV d 0) by_ 0 true).2 = true then ((walkS (shiftV d 0) by_ 0 true).1, 0) else (.nil, 2) := by
  unfold shiftP
  rw [if_pos hb, decide_eq_true (Int.le_refl _)]
/-- What of a tree is made by the one is what is made by the other, as long as nothing is refused. -/
def Alike (own : Nat) (sz : Nat) (c : Nat) (R : Tree × (Int × Int)) (Q : Tree × Bool) (n : Nat) : Prop :=
  (Q.2 = true ∧ sz + c * own ≤ 65536 → R = (Q.1, ((sz + c * own : Nat) : Int), 0) ∧ Q.1.size + c = n + c * own) ∧ (¬ (Q.2 = true ∧ sz + c * own ≤ 65536) → R.2.2 ≠ 0)
theorem uC (i : Int) (hi : 0 ≤ i) (by_ : Tree) (hb : checkP isConP by_ = 0) (t : Tree) :
    ∀ (d : Int) (sz : Nat), sz ≤ 65536 → okVars t = true → Alike by_.size sz (cntP i t d) (walkS (substV i by_.size by_) t d ((sz : Nat), 0)) (walkS (putV i by_) t d true) t.size := by
  induction t using Tree.ind with
  | h1 => intro d sz _ h; simp [okVars] at h
  | h2 k n a b kids ih =>
    intro d sz hz hv
    by_cases k0 : k = 110
    · obtain ⟨q1, q2, rfl, rfl, rfl⟩ := dB k0 hv
      subst k0
      rw [dP, dP, cntP, cntPs]
      have hsz : (Tree.node 110 n emptyB emptyB []).size = 1 := rfl
      rw [hsz]
      unfold Alike
      by_cases h1 : n < d ∨ n - d < i
      · have eS : substV i by_.size by_ n d ((sz : Nat), 0) = (varT n, (((sz : Nat) : Int), 0)) := by unfold substV; rw [if_pos (.inr h1)]
        have eP : putV i by_ n d true = (varT n, true) := by unfold putV; rw [if_pos h1]
        rw [eS, eP, if_neg (by omega)]
        refine ⟨fun _ => ⟨by simp, by dsimp only; rw [gW]; omega⟩, fun h => absurd ⟨rfl, by omega⟩ h⟩
      · have h0 : ¬ ((((sz : Nat) : Int), (0 : Int)).2 ≠ 0 ∨ n < d ∨ n - d < i) := fun h => h.elim (fun h => h rfl) h1
        by_cases h2 : n - d > i
        · have eS : substV i by_.size by_ n d ((sz : Nat), 0) = (varT (n - 1), (((sz : Nat) : Int), 0)) := by unfold substV; rw [if_neg h0, if_pos h2]
          have eP : putV i by_ n d true = (varT (n - 1), true) := by unfold putV; rw [if_neg h1, if_pos h2]
          rw [eS, eP, if_neg (by omega)]
          refine ⟨fun _ => ⟨by simp, by dsimp only; rw [gW]; omega⟩, fun h => absurd ⟨rfl, by omega⟩ h⟩
        · obtain ⟨bw, bz, bf⟩ := bK hb
          have hs := wF (shiftV d 0) (fun n d' s => (eN d 0 n d' s).2) by_ 0 true (cY _ bf)
          have hsh := mR by_ hb d
          obtain ⟨W, hW⟩ : ∃ W, walkS (shiftV d 0) by_ 0 true = W := ⟨_, rfl⟩
          rw [hW] at hs hsh
          obtain ⟨W1, W2⟩ := W
          rw [if_pos ⟨rfl, by omega, by omega⟩]
          have e1 : (1 + 0) * by_.size = by_.size := by omega
          rw [e1]
          cases W2 with
          | false =>
            have eP : putV i by_ n d true = (varT n, false) := by unfold putV; rw [if_neg h1, if_neg h2, hW, if_neg (by simp)]
            have eS : substV i by_.size by_ n d ((sz : Nat), 0) = (varT n, (((sz : Nat) : Int) + by_.size, 3)) := by
              unfold substV; rw [if_neg h0, if_neg h2, if_pos (.inr (by rw [hsh]; simp))]
            rw [eS, eP]
            exact ⟨fun h => Bool.noConfusion h.1, fun _ => show (3 : Int) ≠ 0 by decide⟩
          | true =>
            rw [if_pos rfl] at hsh
            have eP : putV i by_ n d true = (W1, true) := by unfold putV; rw [if_neg h1, if_neg h2, hW, if_pos ⟨rfl, rfl⟩]
            rw [eP]
            by_cases hbig : sz + by_.size ≤ 65536
            · have eS : substV i by_.size by_ n d ((sz : Nat), 0) = (W1, (((sz : Nat) : Int) + by_.size, 0)) := by
                unfold substV; rw [if_neg h0, if_neg h2, if_neg (by rw [hsh]; dsimp only; omega), hsh]
              rw [eS]
              refine ⟨fun _ => ⟨by rw [show ((sz : Int) + (by_.size : Int)) = ((sz + by_.size : Nat) : Int) by omega], by dsimp only at hs ⊢; rw [hs]; omega⟩, fun h => absurd ⟨rfl, hbig⟩ h⟩
            · have eS : substV i by_.size by_ n d ((sz : Nat), 0) = (varT n, (((sz : Nat) : Int) + by_.size, 3)) := by
                unfold substV; rw [if_neg h0, if_neg h2, if_pos (.inl (by dsimp only; omega))]
              rw [eS]
              exact ⟨fun h => absurd h.2 hbig, fun _ => show (3 : Int) ≠ 0 by decide⟩
    · rw [eE _ _ _ _ _ k0, eE _ _ _ _ _ k0, cntP, if_neg (fun h => k0 h.1)]
      have hvs := dA k0 hv
      have key : ∀ (l : List Tree) (sz : Nat), (∀ t ∈ l, t ∈ kids) → sz ≤ 65536 →
          (((walkSs (putV i by_) l (d + bindsP k) true).2 = true ∧ sz + cntPs i l (d + bindsP k) * by_.size ≤ 65536 → walkSs (substV i by_.size by_) l (d + bindsP k) ((sz : Nat), 0) = ((walkSs (putV i by_) l (d + bindsP k) true).1, ((sz + cntPs i l (d + bindsP k) * by_.size : Nat) : Int), 0) ∧ Tree.sizes (walkSs (putV i by_) l (d + bindsP k) true).1 + cntPs i l (d + bindsP k) = Tree.sizes l + cntPs i l (d + bindsP k) * by_.size) ∧
           (¬ ((walkSs (putV i by_) l (d + bindsP k) true).2 = true ∧ sz + cntPs i l (d + bindsP k) * by_.size ≤ 65536) → (walkSs (substV i by_.size by_) l (d + bindsP k) ((sz : Nat), 0)).2.2 ≠ 0)) := by
        intro l
        induction l with
        | nil =>
          intro sz _ hz
          rw [dD, dD, cntPs]
          refine ⟨fun _ => ⟨by simp, by simp⟩, fun h => absurd ⟨rfl, by omega⟩ h⟩
        | cons t ts ih2 =>
          intro sz hm hz
          have h1 := ih t (hm t (by simp)) (d + bindsP k) sz hz (hvs _ (hm t (by simp)))
          rw [walkSs, walkSs, cntPs]
          unfold Alike at h1
          obtain ⟨Q, hQ⟩ : ∃ Q, walkS (putV i by_) t (d + bindsP k) true = Q := ⟨_, rfl⟩
          obtain ⟨R, hR⟩ : ∃ R, walkS (substV i by_.size by_) t (d + bindsP k) ((sz : Nat), 0) = R := ⟨_, rfl⟩
          rw [hQ, hR] at h1
          rw [hQ, hR]
          obtain ⟨c, hc⟩ : ∃ c, cntP i t (d + bindsP k) = c := ⟨_, rfl⟩
          rw [hc] at h1 ⊢
          obtain ⟨c2, hc2⟩ : ∃ c2, cntPs i ts (d + bindsP k) = c2 := ⟨_, rfl⟩
          by_cases hok : Q.2 = true ∧ sz + c * by_.size ≤ 65536
          · obtain ⟨e1, e2⟩ := h1.1 hok
            have h2 := ih2 (sz + c * by_.size) (fun t' h' => hm t' (by simp [h'])) hok.2
            subst e1
            rw [hok.1]
            rw [hc2] at h2 ⊢
            have em : (c + c2) * by_.size = c * by_.size + c2 * by_.size := Nat.add_mul _ _ _
            rw [em]
            have e3 : sz + (c * by_.size + c2 * by_.size) = sz + c * by_.size + c2 * by_.size := by omega
            rw [e3]
            dsimp only
            refine ⟨fun h => ?_, fun h => h2.2 h⟩
            obtain ⟨g1, g2⟩ := h2.1 h
            rw [g1]
            refine ⟨rfl, ?_⟩
            simp only [Tree.sizes]
            omega
          · have h3 := h1.2 hok
            refine ⟨fun h => ?_, fun _ => ?_⟩
            · exfalso
              apply hok
              rw [hc2] at h
              have em : (c + c2) * by_.size = c * by_.size + c2 * by_.size := Nat.add_mul _ _ _
              refine ⟨?_, by have := h.2; rw [em] at this; omega⟩
              cases hq2 : Q.2 with
              | true => rfl
              | false =>
                have := iM (putV i by_) (fun s => s = false) (fun n d s h => tZ i by_ n d s h) (d + bindsP k) ts Q.2 hq2
                have h4 := h.1
                dsimp only at h4
                rw [this] at h4
                cases h4
            · exact iM (substV i by_.size by_) (fun s => s.2 ≠ 0) (fun n d s h => wG i _ by_ n d s h) (d + bindsP k) ts R.2 h3
      have := key kids sz (fun _ h => h) hz
      unfold Alike
      dsimp only
      have e0 : 0 + cntPs i kids (d + bindsP k) = cntPs i kids (d + bindsP k) := Nat.zero_add _
      rw [e0]
      refine ⟨fun h => ?_, fun h => this.2 h⟩
      obtain ⟨g1, g2⟩ := this.1 h
      rw [g1]
      refine ⟨rfl, ?_⟩
      simp only [Tree.size]
      omega
/-- What Subst tells, as the reference tells it. -/
theorem pA (t : Tree) (i : Int) (by_ : Tree) (ht : checkP isConP t = 0) (hb : checkP isConP by_ = 0) (hi : 0 ≤ i) :
    substP t i by_ = if 65536 < cntP i t 0 * by_.size ∨ 65536 < t.size - cntP i t 0 + cntP i t 0 * by_.size ∨ (walkS (putV i by_) t 0 true).2 = false then (.nil, 3) else ((walkS (putV i by_) t 0 true).1, 0) := by
  unfold substP
  rw [if_neg (by simpa using ht), if_neg (by simpa using hb), if_neg (by omega)]
  obtain ⟨tw, tz, tf⟩ := bK ht
  have ha := uC i hi by_ hb t 0 0 (by omega) (cY t tf)
  have hcl := nK i t 0
  unfold Alike at ha
  rw [Nat.zero_add] at ha
  have e0 : (((0 : Nat) : Int), (0 : Int)) = (0, 0) := rfl
  rw [e0] at ha
  obtain ⟨Q, hQ⟩ : ∃ Q, walkS (putV i by_) t 0 true = Q := ⟨_, rfl⟩
  obtain ⟨R, hR⟩ : ∃ R, walkS (substV i by_.size by_) t 0 (0, 0) = R := ⟨_, rfl⟩
  rw [hQ, hR] at ha
  rw [hQ, hR]
  generalize cntP i t 0 = c at *
  generalize c * by_.size = cs at *
  by_cases hok : Q.2 = true ∧ cs ≤ 65536
  · obtain ⟨e1, e2⟩ := ha.1 hok
    subst e1
    dsimp only
    by_cases hbig : Q.1.size > 65536
    · rw [if_pos (.inr hbig), if_pos (.inr (.inl (by omega)))]
    · rw [if_neg (by intro h; rcases h with h | h; exact h rfl; exact hbig h), if_neg (by
        intro h
        rcases h with h | h | h
        · omega
        · omega
        · rw [hok.1] at h; cases h)]
  · have := ha.2 hok
    rw [if_pos (.inl this), if_pos]
    by_cases hc : 65536 < cs
    · exact .inl hc
    · right; right
      cases h2 : Q.2 with
      | false => rfl
      | true => exact absurd ⟨h2, by omega⟩ hok
end Go.Proofs.YtdajnmffoopcaaaGreatDoor.Ab
namespace Go.Proofs.YtdajnmffoopcaaaGreatDoor.Ab
set_option linter.unusedVariables false
set_option linter.unusedSimpArgs false
open Go.RowKit
attribute [local irreducible] AWP AOps AExit AThen ABlock ANoGoto FeetOk
section
variable {P : Program} {T : Tab} {keep : List Nat} {N : Nat} {ops : Array Oper} {K : List Foot → SF → Prop} {rest : List Oper} {ks : List Foot} {s : List (Nat × AV)} {m : Mem} {o : Oper} {d : Nat}
theorem lX {t u : TypeId} {x y : Operand} {a b z : Int} (ho : o.op = .binOp .mul t x y u) (hw : wantedA ops o (S.f ⟨s, m⟩) = some true) (hd : o.dst = some d) (hN : d < N) (hx : (S.f ⟨s, m⟩).ev x = some (.imm (.lit (.int .i64 a)))) (hy : (S.f ⟨s, m⟩).ev y = some (.imm (.lit (.int .i64 b)))) (hz : a * b = z) (h1 : -9223372036854775808 ≤ z) (h2 : z ≤ 9223372036854775807)
    (k : AOps P keep N ops K rest (kNo :: ks) (S.f ⟨(d, .imm (.lit (.int .i64 z))) :: s, m⟩)) : AOps P keep N ops K (o :: rest) ks (S.f ⟨s, m⟩) :=
  dK hw hd hN (fT ho hx hy (by simp [binLit]; rw [hz]; exact nF h1 h2)) k
end
theorem zC (R : Tree × Bool) : (R.2 = false ∧ told R = .nil) ∨ (R.2 = true ∧ told R = R.1) := by
  cases h : R.2 with
  | false => exact .inl ⟨rfl, by unfold told; rw [h]; rfl⟩
  | true => exact .inr ⟨rfl, by unfold told; rw [h]; rfl⟩
set_option maxHeartbeats 16000000 in
set_option maxRecDepth 10000 in
theorem aAN (t : Tree) (i : Int) (by_ : Tree) (hs : t.size ≤ 1000000) (hbs : by_.size ≤ 1000000) : ACalls Tryz.prog 82 [.imm t.iv, .imm (.lit (.int .i64 i)), .imm by_.iv] [] (.imm (.tup [(substP t i by_).1.iv, .lit (.int .i64 (substP t i by_).2)])) [] := by
  have c1 := eB t hs
  have c2 := eB by_ hbs
  by_cases h1 : checkP isConP t = 0
  · by_cases h2 : checkP isConP by_ = 0
    · by_cases h3 : i < 0
      · have e : substP t i by_ = (.nil, 2) := by unfold substP; rw [if_neg (by simpa using h1), if_neg (by simpa using h2), if_pos h3]
        rw [e]
        rw [h1] at c1
        rw [h2] at c2
        refine aJ Tryz.func82 rfl rfl (nb rfl) rfl ?_
        repeat' (first | refine aG ?_ | (refine aI ?_;  first | refine aD tabOk rfl rfl rfl (nb rfl) rfl ?_ | (refine aM rfl rfl rfl (nb rfl) rfl rfl rfl (fun hq => ?_) (fun hq => ?_) <;> (first | (simp only [sD, sE, sB, sC, sN, sM, sT, sF] at hq; try (exfalso; omega)) | skip)) | refine aE rfl rfl (nb rfl) rfl rfl rfl rfl (c1) ?_ | refine aE rfl rfl (nb rfl) rfl rfl rfl rfl (c2) ?_) | (refine aN ?_;  first | refine aH ?_ | refine aQ ?_ | refine aT ?_ | refine aU ?_ | refine aA (b := true) rfl (fun _ => ?_) nTf | refine aA (b := false) rfl nFt (fun _ => ?_)) | (refine aK ?_;  first | refine aX ?_ | refine aR ?_))
        all_goals first
          | exact absurd rfl (by assumption)
          | (exfalso; omega)
          | (refine aV (by first | exact .inl rfl | exact .inr rfl) (bD rfl (aC rfl) (aC rfl)) rfl ?_; rfl)
      · obtain ⟨tw, tz, tf⟩ := bK h1
        obtain ⟨bw, bz, bf⟩ := bK h2
        rw [pA t i by_ h1 h2 (by omega)]
        rw [h1] at c1
        rw [h2] at c2
        have c3 := uB i (by omega) t 0 (cY t tf) tw (by omega) (by omega)
        have c4 := nJ t tw hs
        have c5 := nJ by_ bw hbs
        have c6 := aCx i by_ (by omega) (cY _ bf) (iL _ bf) bw hbs t 0 (cY t tf) (iL t tf) tw (by omega) (by omega)
        have hcl := nK i t 0
        have htl := zC (walkS (putV i by_) t 0 true)
        obtain ⟨R, hR⟩ : ∃ R, walkS (putV i by_) t 0 true = R := ⟨_, rfl⟩
        rw [hR] at c6 htl ⊢
        obtain ⟨R1, R2⟩ := R
        dsimp only at c6 htl ⊢
        generalize cntP i t 0 = c at *
        generalize hbn : by_.size = bn at *
        generalize htn : t.size = tn at *
        have hdiv : 0 < c → ((65536 : Int).tdiv (c : Int) = ((65536 / c : Nat) : Int) ∧ (65536 / c < bn ↔ 65536 < bn * c)) := fun h => ⟨rfl, Nat.div_lt_iff_lt_mul h⟩
        have hmul : ((c : Int) * (bn : Int)) = ((c * bn : Nat) : Int) := by rw [Int.natCast_mul]
        have hcm : bn * c = c * bn := Nat.mul_comm _ _
        have hmb : c * bn ≤ 65536 * 65536 := Nat.mul_le_mul (by omega) (by omega)
        have hq0 : 65536 / c ≤ 65536 := Nat.div_le_self _ _
        rw [hcm] at hdiv
        generalize hcb : c * bn = cb at *
        generalize hqq : 65536 / c = q at *
        generalize told (R1, R2) = Z at *
        have hc0 : c = 0 → cb = 0 := fun h => by rw [← hcb, h, Nat.zero_mul]
        by_cases hbig : 65536 < cb ∨ 65536 < tn - c + cb
        · rw [if_pos (by rcases hbig with h | h; exact .inl h; exact .inr (.inl h))]
          clear c6 hR htl
          refine aJ Tryz.func82 rfl rfl (nb rfl) rfl ?_
          repeat' (first | refine aG ?_ | (refine aI ?_;  first | refine aD tabOk rfl rfl rfl (nb rfl) rfl ?_ | refine bE rfl rfl (nb rfl) ?_ | (refine aM rfl rfl rfl (nb rfl) rfl rfl rfl (fun hq => ?_) (fun hq => ?_) <;> (first | (simp only [sD, sE, sB, sC, sN, sM, sT, sF] at hq; try (exfalso; omega)) | skip)) | refine aE rfl rfl (nb rfl) rfl rfl rfl rfl (c1) ?_ | refine aE rfl rfl (nb rfl) rfl rfl rfl rfl (c2) ?_ | refine aE rfl rfl (nb rfl) rfl rfl rfl rfl (c3) ?_ | refine aE rfl rfl (nb rfl) rfl rfl rfl rfl (c4) ?_ | refine aE rfl rfl (nb rfl) rfl rfl rfl rfl (c5) ?_ | refine oF (z := q) rfl rfl rfl (nb rfl) rfl rfl (by omega) (hdiv (by omega)).1 (by omega) (by omega) ?_ | refine lX (z := cb) rfl rfl rfl (nb rfl) rfl rfl hmul (by omega) (by omega) ?_ | refine bY rfl rfl rfl (nb rfl) rfl rfl rfl (by omega) (by omega) ?_ | refine bV rfl rfl rfl (nb rfl) rfl rfl rfl (by omega) (by omega) ?_) | (refine aN ?_;  first | refine aH ?_ | refine aQ ?_ | refine aT ?_ | refine aU ?_ | refine aA (b := true) rfl (fun _ => ?_) nTf | refine aA (b := false) rfl nFt (fun _ => ?_) | refine aW mixed (by kernel_rfl) ?_) | (refine aK ?_;  first | refine aX ?_ | refine aR ?_) | refine bQ (bL (by kernel_rfl)) ?_)
          all_goals first
            | exact absurd rfl (by assumption)
            | (exfalso; omega)
            | (refine aV (by first | exact .inl rfl | exact .inr rfl) (bD rfl (aC rfl) (aC rfl)) rfl ?_; rfl)
        · rcases htl with ⟨rfl, rfl⟩ | ⟨rfl, rfl⟩
          · rw [if_pos (.inr (.inr rfl))]
            refine aJ Tryz.func82 rfl rfl (nb rfl) rfl ?_
            repeat' (first | refine aG ?_ | (refine aI ?_;  first | refine aD tabOk rfl rfl rfl (nb rfl) rfl ?_ | refine bE rfl rfl (nb rfl) ?_ | (refine aM rfl rfl rfl (nb rfl) rfl rfl rfl (fun hq => ?_) (fun hq => ?_) <;> (first | (simp only [sD, sE, sB, sC, sN, sM, sT, sF] at hq; try (exfalso; omega)) | skip)) | refine aE rfl rfl (nb rfl) rfl rfl rfl rfl (c1) ?_ | refine aE rfl rfl (nb rfl) rfl rfl rfl rfl (c2) ?_ | refine aE rfl rfl (nb rfl) rfl rfl rfl rfl (c3) ?_ | refine aE rfl rfl (nb rfl) rfl rfl rfl rfl (c4) ?_ | refine aE rfl rfl (nb rfl) rfl rfl rfl rfl (c5) ?_ | refine aE rfl rfl (nb rfl) rfl rfl rfl rfl (c6) ?_ | refine oF (z := q) rfl rfl rfl (nb rfl) rfl rfl (by omega) (hdiv (by omega)).1 (by omega) (by omega) ?_ | refine lX (z := cb) rfl rfl rfl (nb rfl) rfl rfl hmul (by omega) (by omega) ?_ | refine bY rfl rfl rfl (nb rfl) rfl rfl rfl (by omega) (by omega) ?_ | refine bV rfl rfl rfl (nb rfl) rfl rfl rfl (by omega) (by omega) ?_) | (refine aN ?_;  first | refine aH ?_ | refine aQ ?_ | refine aT ?_ | refine aU ?_ | refine aA (b := true) rfl (fun _ => ?_) nTf | refine aA (b := false) rfl nFt (fun _ => ?_) | refine aW mixed (by kernel_rfl) ?_) | (refine aK ?_;  first | refine aX ?_ | refine aR ?_) | refine bQ (bL (by kernel_rfl)) ?_)
            all_goals first
              | exact absurd rfl (by assumption)
              | (exfalso; omega)
              | (refine aV (by first | exact .inl rfl | exact .inr rfl) (bD rfl (aC rfl) (aC rfl)) rfl ?_; rfl)
          · rw [if_neg (by intro h; rcases h with h | h | h; exact hbig (.inl h); exact hbig (.inr h); cases h)]
            refine aJ Tryz.func82 rfl rfl (nb rfl) rfl ?_
            repeat' (first | refine aG ?_ | (refine aI ?_;  first | refine aD tabOk rfl rfl rfl (nb rfl) rfl ?_ | refine bE rfl rfl (nb rfl) ?_ | (refine aM rfl rfl rfl (nb rfl) rfl rfl rfl (fun hq => ?_) (fun hq => ?_) <;> (first | (simp only [sD, sE, sB, sC, sN, sM, sT, sF] at hq; try (exfalso; omega)) | skip)) | refine aE rfl rfl (nb rfl) rfl rfl rfl rfl (c1) ?_ | refine aE rfl rfl (nb rfl) rfl rfl rfl rfl (c2) ?_ | refine aE rfl rfl (nb rfl) rfl rfl rfl rfl (c3) ?_ | refine aE rfl rfl (nb rfl) rfl rfl rfl rfl (c4) ?_ | refine aE rfl rfl (nb rfl) rfl rfl rfl rfl (c5) ?_ | refine aE rfl rfl (nb rfl) rfl rfl rfl rfl (c6) ?_ | refine oF (z := q) rfl rfl rfl (nb rfl) rfl rfl (by omega) (hdiv (by omega)).1 (by omega) (by omega) ?_ | refine lX (z := cb) rfl rfl rfl (nb rfl) rfl rfl hmul (by omega) (by omega) ?_ | refine bY rfl rfl rfl (nb rfl) rfl rfl rfl (by omega) (by omega) ?_ | refine bV rfl rfl rfl (nb rfl) rfl rfl rfl (by omega) (by omega) ?_) | (refine aN ?_;  first | refine aH ?_ | refine aQ ?_ | refine aT ?_ | refine aU ?_ | refine aA (b := false) rfl nFt (fun _ => ?_) | refine aW mixed (by kernel_rfl) ?_) | (refine aK ?_;  first | refine aX ?_) | refine bQ (bL (by kernel_rfl)) ?_)
            all_goals first
              | exact absurd rfl (by assumption)
              | (exfalso; omega)
              | (refine aV (by first | exact .inl rfl | exact .inr rfl) (bD rfl (aC rfl) (aC rfl)) rfl ?_; rfl)
    · have e : substP t i by_ = (.nil, checkP isConP by_) := by unfold substP; rw [if_neg (by simpa using h1), if_pos (by simpa using h2)]
      rw [e]
      rw [h1] at c1
      generalize checkP isConP by_ = E at *
      refine aJ Tryz.func82 rfl rfl (nb rfl) rfl ?_
      repeat' (first | refine aG ?_ | (refine aI ?_;  first | refine aD tabOk rfl rfl rfl (nb rfl) rfl ?_ | (refine aM rfl rfl rfl (nb rfl) rfl rfl rfl (fun hq => ?_) (fun hq => ?_) <;> (first | (simp only [sD, sE, sB, sC, sN, sM, sT, sF] at hq; try (exfalso; omega)) | skip)) | refine aE rfl rfl (nb rfl) rfl rfl rfl rfl (c1) ?_ | refine aE rfl rfl (nb rfl) rfl rfl rfl rfl (c2) ?_) | (refine aN ?_;  first | refine aH ?_ | refine aQ ?_ | refine aT ?_ | refine aU ?_ | refine aA (b := true) rfl (fun _ => ?_) nTf | refine aA (b := false) rfl nFt (fun _ => ?_)) | (refine aK ?_;  first | refine aX ?_ | refine aR ?_))
      all_goals first
        | exact absurd rfl (by assumption)
        | exact absurd (by assumption) h2
        | (refine aV (by first | exact .inl rfl | exact .inr rfl) (bD rfl (aC rfl) (aC rfl)) rfl ?_; rfl)
  · have e : substP t i by_ = (.nil, checkP isConP t) := by unfold substP; rw [if_pos (by simpa using h1)]
    rw [e]
    generalize checkP isConP t = E at *
    refine aJ Tryz.func82 rfl rfl (nb rfl) rfl ?_
    repeat' (first | refine aG ?_ | (refine aI ?_;  first | refine aD tabOk rfl rfl rfl (nb rfl) rfl ?_ | (refine aM rfl rfl rfl (nb rfl) rfl rfl rfl (fun hq => ?_) (fun hq => ?_) <;> (first | (simp only [sD, sE, sB, sC, sN, sM, sT, sF] at hq; try (exfalso; omega)) | skip)) | refine aE rfl rfl (nb rfl) rfl rfl rfl rfl (c1) ?_) | (refine aN ?_;  first | refine aH ?_ | refine aQ ?_ | refine aT ?_ | refine aA (b := true) rfl (fun _ => ?_) nTf) | (refine aK ?_;  first | refine aR ?_))
    all_goals first
      | exact absurd (by assumption) h1
      | (refine aV (by first | exact .inl rfl | exact .inr rfl) (bD rfl (aC rfl) (aC rfl)) rfl ?_; rfl)
end Go.Proofs.YtdajnmffoopcaaaGreatDoor.Ab
namespace Go.Proofs.YtdajnmffoopcaaaGreatDoor.Ab
set_option linter.unusedVariables false
set_option linter.unusedSimpArgs false
open Go.RowKit
attribute [local irreducible] AWP AOps AExit AThen ABlock ANoGoto FeetOk
end Go.Proofs.YtdajnmffoopcaaaGreatDoor.Ab
namespace Go.Proofs.YtdajnmffoopcaaaGreatDoor.Ab
set_option linter.unusedVariables false
set_option linter.unusedSimpArgs false
/-- What is a signature, an abstract one, a functor's. -/
def tForm (t : Tree) : Prop := isSigP t = true ∨ isExP t = true ∨ isFunP t = true
theorem aAO {t : Tree} (h : sformP t = true) : tForm t := by
  unfold sformP at h
  simp only [Bool.or_eq_true] at h
  exact h
theorem aBV {t : Tree} (h : isExP t = true) : ∃ n a b c, t = .node 164 n a b [c] ∧ 0 ≤ n ∧ n ≤ 8192 ∧ isSigP c = true := by
  cases t with
  | nil => simp [isExP] at h
  | node k n a b kids =>
    by_cases h1 : kids.length = 1
    · obtain ⟨c, rfl⟩ := one_of h1
      have hk := yW h
      have hk : k = 164 := hk
      subst hk
      simp only [isExP, Bool.and_eq_true] at h
      have hn := jS h.1.2
      exact ⟨n, a, b, c, rfl, hn.1, hn.2, h.2⟩
    · rw [oI h1] at h; cases h
theorem aAP {t : Tree} (h : isFunP t = true) : ∃ n a b c e, t = .node 165 n a b [c, e] ∧ 0 ≤ n ∧ n ≤ 8192 ∧ isSigP c = true ∧ isExP e = true := by
  cases t with
  | nil => simp [isFunP] at h
  | node k n a b kids =>
    by_cases h1 : kids.length = 2
    · obtain ⟨c, e, rfl⟩ := two h1
      have hk := vR h
      have hk : k = 165 := hk
      subst hk
      simp only [isFunP, Bool.and_eq_true] at h
      have hn := jS h.1.2
      exact ⟨n, a, b, c, e, rfl, hn.1, hn.2, h.2.1, h.2.2⟩
    · rw [lW h1] at h; cases h
theorem zD (t : Tree) : t.whole = true → ∀ l : Int, (wholeP t l).1 = 0 ∨ (wholeP t l).1 = 3 := by
  induction t using Tree.ind with
  | h1 => intro h; simp [Tree.whole] at h
  | h2 k n a b kids ih =>
    intro hw l
    rw [wholeP]
    split
    · exact .inr rfl
    · have key : ∀ ls : List Tree, (∀ t ∈ ls, t ∈ kids) → ∀ l : Int, (wholePs ls l).1 = 0 ∨ (wholePs ls l).1 = 3 := by
        intro ls
        induction ls with
        | nil => intro _ l; rw [wholePs]; exact .inl rfl
        | cons t ts ih2 =>
          intro hm l
          rw [wholePs]
          split
          · exact ih2 (fun t' h' => hm t' (by simp [h'])) _
          · exact ih t (hm t (by simp)) (bS hw (hm t (by simp))) l
      exact key kids (fun _ h => h) _
theorem uD (t : Tree) (hw : t.whole = true) (l : Int) (hl : 0 ≤ l) (hs : l < t.size) : (wholeP t l).1 = 3 := by
  rcases zD t hw l with h | h
  · have h1 := iY t l hl h
    have h2 := eR t l hl h
    omega
  · exact h
theorem aAQ (t : Tree) (hw : t.whole = true) : sizedP t 0 = if (t.size : Int) > 65536 then (.nil, 3) else (t, 0) := by
  unfold sizedP
  rw [if_neg (by simp)]
  by_cases h : (t.size : Int) > 65536
  · rw [if_pos h, if_pos (by rw [uD t hw 65536 (by omega) h]; decide), uD t hw 65536 (by omega) h]
  · rw [if_neg h, if_neg (by rw [qM t hw 65536 (by omega)]; simp)]
end Go.Proofs.YtdajnmffoopcaaaGreatDoor.Ab
namespace Go.Proofs.YtdajnmffoopcaaaGreatDoor.Ab
set_option linter.unusedVariables false
set_option linter.unusedSimpArgs false
mutual
/-- A tree with other variables: g of their numbers and of the binders around. -/
def mapV (g : Int → Int → Int) : Tree → Int → Tree
  | .nil, _ => .nil
  | .node k n a b kids, d => if k = 110 then varT (g n d) else .node k n a b (mapVs g kids (d + bindsP k))
def mapVs (g : Int → Int → Int) : List Tree → Int → List Tree
  | [], _ => []
  | t :: ts, d => mapV g t d :: mapVs g ts d
end
mutual
/-- Does it hold of each variable? -/
def allV (p : Int → Int → Bool) : Tree → Int → Bool
  | .nil, _ => true
  | .node k n _ _ kids, d => if k = 110 then p n d else allVs p kids (d + bindsP k)
def allVs (p : Int → Int → Bool) : List Tree → Int → Bool
  | [], _ => true
  | t :: ts, d => allV p t d && allVs p ts d
end
theorem qO (g : Int → Int → Int) (d : Int) : ∀ l : List Tree, mapVs g l d = l.map fun t => mapV g t d
  | [] => by rw [mapVs]; rfl
  | t :: ts => by rw [mapVs, qO g d ts]; rfl
theorem qP (p : Int → Int → Bool) (d : Int) : ∀ l : List Tree, allVs p l d = l.all fun t => allV p t d
  | [] => by rw [allVs]; rfl
  | t :: ts => by rw [allVs, qP p d ts]; rfl
theorem dX (g : Int → Int → Int) {k n : Int} {a b : ByteArray} {kids : List Tree} (d : Int) (hk : ¬ k = 110) : mapV g (.node k n a b kids) d = .node k n a b (kids.map fun t => mapV g t (d + bindsP k)) := by rw [mapV, if_neg hk, qO]
theorem fZ (g : Int → Int → Int) {n : Int} {a b : ByteArray} {kids : List Tree} (d : Int) : mapV g (.node 110 n a b kids) d = varT (g n d) := by rw [mapV, if_pos rfl]
theorem fO (p : Int → Int → Bool) {k n : Int} {a b : ByteArray} {kids : List Tree} (d : Int) (hk : ¬ k = 110) : allV p (.node k n a b kids) d = kids.all fun t => allV p t (d + bindsP k) := by rw [allV, if_neg hk, qP]
theorem jE (p : Int → Int → Bool) {n : Int} {a b : ByteArray} {kids : List Tree} (d : Int) : allV p (.node 110 n a b kids) d = p n d := by rw [allV, if_pos rfl]
theorem wH (p : Int → Int → Bool) (g g' : Int → Int → Int) (t : Tree) : ∀ d, okVars t = true → allV p t d = true → (∀ n x, 0 ≤ n → n ≤ 65536 → d ≤ x → p n x = true → g n x = g' n x) → mapV g t d = mapV g' t d := by
  induction t using Tree.ind with
  | h1 => intro d h; simp [okVars] at h
  | h2 k n a b kids ih =>
    intro d hv hp hg
    by_cases hk : k = 110
    · subst hk
      obtain ⟨q1, q2, _⟩ := dB rfl hv
      rw [jE] at hp
      rw [fZ, fZ, hg n d q1 q2 (Int.le_refl _) hp]
    · rw [fO _ _ hk, List.all_eq_true] at hp
      have hvs := dA hk hv
      have hb := eI k
      rw [dX _ _ hk, dX _ _ hk]
      congr 1
      exact List.map_congr_left fun t ht => ih t ht _ (hvs t ht) (hp t ht) fun n x h1 h2 h3 h4 => hg n x h1 h2 (by omega) h4
theorem uE (p q : Int → Int → Bool) (t : Tree) : ∀ d, okVars t = true → allV p t d = true → (∀ n x, 0 ≤ n → n ≤ 65536 → d ≤ x → p n x = true → q n x = true) → allV q t d = true := by
  induction t using Tree.ind with
  | h1 => intro d h; simp [okVars] at h
  | h2 k n a b kids ih =>
    intro d hv hp hg
    by_cases hk : k = 110
    · subst hk
      obtain ⟨q1, q2, _⟩ := dB rfl hv
      rw [jE] at hp ⊢
      exact hg n d q1 q2 (Int.le_refl _) hp
    · have hvs := dA hk hv
      have hb := eI k
      rw [fO _ _ hk, List.all_eq_true] at hp ⊢
      exact fun t ht => ih t ht _ (hvs t ht) (hp t ht) fun n x h1 h2 h3 h4 => hg n x h1 h2 (by omega) h4
theorem aBW (t : Tree) : ∀ d, okVars t = true → mapV (fun n _ => n) t d = t := by
  induction t using Tree.ind with
  | h1 => intro d h; simp [okVars] at h
  | h2 k n a b kids ih =>
    intro d hv
    by_cases hk : k = 110
    · obtain ⟨_, _, rfl, rfl, rfl⟩ := dB hk hv
      subst hk
      exact fZ _ _
    · have hvs := dA hk hv
      rw [dX _ _ hk]
      congr 1
      conv => rhs; rw [← List.map_id kids]
      exact List.map_congr_left fun t ht => ih t ht _ (hvs t ht)
theorem zE (g : Int → Int → Int) (t : Tree) : ∀ d, okVars t = true → (mapV g t d).size = t.size := by
  induction t using Tree.ind with
  | h1 => intro d h; simp [okVars] at h
  | h2 k n a b kids ih =>
    intro d hv
    by_cases hk : k = 110
    · obtain ⟨_, _, rfl, rfl, rfl⟩ := dB hk hv
      subst hk
      rw [fZ]; rfl
    · have hvs := dA hk hv
      rw [dX _ _ hk, Tree.size, Tree.size]
      congr 1
      have key : ∀ l : List Tree, (∀ t ∈ l, t ∈ kids) → Tree.sizes (l.map fun t => mapV g t (d + bindsP k)) = Tree.sizes l := by
        intro l
        induction l with
        | nil => intro _; rfl
        | cons t ts ih2 =>
          intro hm
          rw [List.map_cons, Tree.sizes, Tree.sizes, ih t (hm t (by simp)) _ (hvs t (hm t (by simp))), ih2 fun t' h' => hm t' (by simp [h'])]
      exact key kids fun _ h => h
theorem wI (g : Int → Int → Int) (t : Tree) : ∀ d, t.whole = true → (mapV g t d).whole = true := by
  induction t using Tree.ind with
  | h1 => intro d h; simp [Tree.whole] at h
  | h2 k n a b kids ih =>
    intro d hw
    by_cases hk : k = 110
    · subst hk
      rw [fZ]; rfl
    · rw [dX _ _ hk]
      refine lV fun u hu => ?_
      obtain ⟨t, ht, rfl⟩ := List.mem_map.1 hu
      exact ih t ht _ (bS hw ht)
theorem zF (g : Int → Int → Int) (t : Tree) (d : Int) (hk : t.kind ≠ 110) : (mapV g t d).name = t.name := by
  cases t with
  | nil => rw [mapV]
  | node k n a b kids =>
    have hk : ¬ k = 110 := hk
    rw [dX _ _ hk]; rfl
theorem pB (f : Tree → Tree) : ∀ l : List Tree, (∀ t ∈ l, (f t).name = t.name) → risingP (l.map f) = risingP l
  | [], _ => rfl
  | [t], _ => by simp [risingP]
  | t :: u :: r, h => by
    have ih := pB f (u :: r) fun t' h' => h t' (by simp [h'])
    rw [List.map_cons] at ih
    rw [List.map_cons, List.map_cons, risingP, risingP, h t (by simp), h u (by simp), ih]
theorem lJ (f : Tree → Tree) : ∀ l : List Tree, (∀ t ∈ l, (f t).name = t.name) → distinctP (l.map f) = distinctP l
  | [], _ => rfl
  | t :: r, h => by
    have ih := lJ f r fun t' h' => h t' (by simp [h'])
    have e : ((r.map f).any fun u => eqB u.name t.name) = (r.any fun u => eqB u.name t.name) := by
      rw [List.any_map]
      refine Bool.eq_iff_iff.2 ?_
      rw [List.any_eq_true, List.any_eq_true]
      exact ⟨fun ⟨u, h1, h2⟩ => ⟨u, h1, by have : eqB (f u).name t.name = true := h2; rwa [h u (by simp [h1])] at this⟩, fun ⟨u, h1, h2⟩ => ⟨u, h1, by show eqB (f u).name t.name = true; rw [h u (by simp [h1])]; exact h2⟩⟩
    rw [List.map_cons, distinctP, distinctP, h t (by simp), e, ih]
theorem zG (g : Int → Int → Int) (t : Tree) : ∀ d, isKindP t = true → mapV g t d = t := by
  induction t using Tree.ind with
  | h1 => intro d h; simp [isKindP] at h
  | h2 k n a b kids ih =>
    intro d h
    rw [isKindP] at h
    by_cases k0 : k = 100
    · rw [if_pos k0, Bool.and_eq_true] at h
      have e0 : kids = [] := List.eq_nil_of_length_eq_zero (by simpa using h.2)
      subst e0
      rw [dX _ _ (by omega)]; rfl
    · rw [if_neg k0] at h
      by_cases k1 : k = 101
      · rw [if_pos k1, Bool.and_eq_true, fI] at h
        rw [dX _ _ (by omega)]
        congr 1
        conv => rhs; rw [← List.map_id kids]
        refine List.map_congr_left fun t ht => ih t ht _ ?_
        have := List.all_eq_true.1 h.2 (isKindP t) (List.mem_map.2 ⟨t, ht, rfl⟩)
        simpa using this
      · rw [if_neg k1] at h; cases h
/-- A constructor stays one, where its variables stay within what may be. -/
theorem aAR (g : Int → Int → Int) (t : Tree) : ∀ d, isConP t = true → allV (fun n x => decide (0 ≤ g n x ∧ g n x ≤ 65536)) t d = true → isConP (mapV g t d) = true := by
  induction t using Tree.sind with
  | h t ih =>
    intro d h hp
    cases t with
    | nil => simp [isConP] at h
    | node k n a b kids =>
      rw [isConP, Bool.and_eq_true] at h
      obtain ⟨hb, h⟩ := h
      by_cases k0 : k = 110
      · subst k0
        rw [jE, decide_eq_true_eq] at hp
        rw [fZ]
        unfold varT
        rw [isConP, if_pos rfl]
        have hbare : bareP (g n d) emptyB emptyB false ((110 : Int) == 110) = true := by
          unfold bareP
          rw [(dO _ _).2 rfl]
          simp
        rw [hbare, decide_eq_true (by omega : g n d ≥ 0), decide_eq_true hp.2]
        rfl
      · rw [fO _ _ k0, List.all_eq_true] at hp
        rw [dX _ _ k0, isConP, hb, if_neg k0]
        rw [if_neg k0] at h
        have kid : ∀ t ∈ kids, isConP t = true → isConP (mapV g t (d + bindsP k)) = true := fun t ht hc => ih t (cM ht) _ hc (hp t ht)
        have named : ∀ kind : Int, kind ≠ 110 → bindsP kind = 0 → ∀ t ∈ kids, okNamed kind t = true → okNamed kind (mapV g t (d + bindsP k)) = true ∧ (mapV g t (d + bindsP k)).name = t.name := fun kind hkd hbd t ht ho => by
          have hp1 := hp t ht
          have hz := cM (k := k) (n := n) (a := a) (b := b) ht
          cases t with
          | nil => simp [okNamed] at ho
          | node k' n' a' b' ks =>
            simp only [okNamed, Bool.and_eq_true, beq_iff_eq] at ho
            obtain ⟨⟨⟨rfl, h1⟩, h2⟩, h3⟩ := ho
            refine ⟨?_, zF _ _ _ hkd⟩
            by_cases hl : ks.length = 1
            · obtain ⟨c, rfl⟩ := one_of hl
              rw [fO _ _ hkd, List.all_eq_true] at hp1
              rw [dX _ _ hkd]
              simp only [okNamed, List.map_cons, List.map_nil, isCon1, Bool.and_eq_true, beq_iff_eq]
              have hz2 := cM (k := k') (n := n') (a := a') (b := b') (kids := [c]) (t := c) (by simp)
              exact ⟨⟨⟨trivial, h1⟩, h2⟩, ih c (by omega) _ (by simpa [isCon1] using h3) (hp1 c (by simp))⟩
            · rw [jQ hl] at h3; cases h3
        rw [Bool.true_and]
        by_cases k1 : k = 111 ∨ k = 112 ∨ k = 113
        · rw [if_pos k1] at h ⊢
          rw [List.length_map]; exact h
        · rw [if_neg k1] at h ⊢
          by_cases k2 : k = 114 ∨ k = 120
          · rw [if_pos k2, Bool.and_eq_true, kL] at h ⊢
            refine ⟨by rw [List.length_map]; exact h.1, ?_⟩
            rw [List.all_eq_true] at h ⊢
            intro u hu
            obtain ⟨t, ht, rfl⟩ := List.mem_map.1 hu
            exact kid t ht (h.2 t ht)
          · rw [if_neg k2] at h ⊢
            by_cases k3 : k = 115
            · rw [if_pos k3, Bool.and_eq_true, dV, List.all_eq_true] at h ⊢
              have hn := fun t ht => named 116 (by decide) (by decide) t ht (h.1 t ht)
              refine ⟨fun u hu => ?_, ?_⟩
              · obtain ⟨t, ht, rfl⟩ := List.mem_map.1 hu
                exact (hn t ht).1
              · rw [pB _ _ fun t ht => (hn t ht).2]; exact h.2
            · rw [if_neg k3] at h ⊢
              by_cases k4 : k = 117 ∨ k = 118 ∨ k = 119
              · rw [if_pos k4] at h ⊢
                by_cases h2 : kids.length = 2
                · obtain ⟨x, y, rfl⟩ := two h2
                  simp only [isCon2, Bool.and_eq_true] at h
                  simp only [List.map_cons, List.map_nil, isCon2, Bool.and_eq_true]
                  exact ⟨by rw [zG _ _ _ h.1]; exact h.1, kid y (by simp) h.2⟩
                · rw [eZ h2] at h; cases h
              · rw [if_neg k4] at h ⊢
                by_cases k5 : k = 121
                · rw [if_pos k5, Bool.and_eq_true, Bool.and_eq_true, dV, List.all_eq_true] at h ⊢
                  have hn := fun t ht => named 122 (by decide) (by decide) t ht (h.1.2 t ht)
                  refine ⟨⟨by rw [List.length_map]; exact h.1.1, fun u hu => ?_⟩, ?_⟩
                  · obtain ⟨t, ht, rfl⟩ := List.mem_map.1 hu
                    exact (hn t ht).1
                  · rw [lJ _ _ fun t ht => (hn t ht).2]; exact h.2
                · rw [if_neg k5] at h; cases h
/-- What Shift makes of a variable's number, and where it may. -/
def shG (b f : Int) (n d : Int) : Int := if n < d ∨ n - d < f then n else n + b
def okG (b f : Int) (n d : Int) : Bool := decide (n < d ∨ n - d < f ∨ (d - n ≤ b ∧ b ≤ 65536 - n))
theorem zH (b f n d : Int) (s : Bool) : (shiftV b f n d s).2 = (s && okG b f n d) ∧ ((s && okG b f n d) = true → (shiftV b f n d s).1 = varT (shG b f n d)) := by
  unfold shiftV okG shG
  by_cases h1 : n < d ∨ n - d < f
  · rw [if_pos h1, if_pos h1, decide_eq_true (by omega)]
    exact ⟨by simp, fun _ => rfl⟩
  · rw [if_neg h1, if_neg h1]
    by_cases h2 : s = true ∧ d - n ≤ b ∧ b ≤ 65536 - n
    · rw [if_pos h2, decide_eq_true (by omega), h2.1]
      exact ⟨rfl, fun _ => rfl⟩
    · rw [if_neg h2]
      have : (s && decide (n < d ∨ n - d < f ∨ (d - n ≤ b ∧ b ≤ 65536 - n))) = false := by
        cases s with
        | false => rfl
        | true =>
          rw [Bool.true_and, decide_eq_false_iff_not]
          intro h3
          exact h2 ⟨rfl, by omega⟩
      rw [this]
      exact ⟨rfl, fun h => by cases h⟩
theorem aAS (b f : Int) (t : Tree) : ∀ d s, okVars t = true → (walkS (shiftV b f) t d s).2 = (s && allV (okG b f) t d) ∧ ((s && allV (okG b f) t d) = true → (walkS (shiftV b f) t d s).1 = mapV (shG b f) t d) := by
  induction t using Tree.ind with
  | h1 => intro d s h; simp [okVars] at h
  | h2 k n a b' kids ih =>
    intro d s hv
    by_cases hk : k = 110
    · subst hk
      rw [dP, jE, fZ]
      exact zH b f n d s
    · have hvs := dA hk hv
      rw [eE _ _ _ _ kids hk, fO _ _ hk, dX _ _ hk]
      have key : ∀ l : List Tree, (∀ t ∈ l, t ∈ kids) → ∀ s, (walkSs (shiftV b f) l (d + bindsP k) s).2 = (s && l.all fun t => allV (okG b f) t (d + bindsP k)) ∧ ((s && l.all fun t => allV (okG b f) t (d + bindsP k)) = true → (walkSs (shiftV b f) l (d + bindsP k) s).1 = l.map fun t => mapV (shG b f) t (d + bindsP k)) := by
        intro l
        induction l with
        | nil => intro _ s; rw [walkSs]; simp
        | cons t ts ih2 =>
          intro hm s
          obtain ⟨g1, g2⟩ := ih t (hm t (by simp)) (d + bindsP k) s (hvs t (hm t (by simp)))
          obtain ⟨g3, g4⟩ := ih2 (fun t' h' => hm t' (by simp [h'])) (walkS (shiftV b f) t (d + bindsP k) s).2
          rw [walkSs, List.all_cons, List.map_cons]
          dsimp only
          rw [g1] at g3 g4
          rw [Bool.and_assoc] at g3 g4
          refine ⟨by rw [g1]; exact g3, fun h => ?_⟩
          rw [g1, g4 h]
          rw [← Bool.and_assoc, Bool.and_eq_true] at h
          rw [g2 h.1]
      obtain ⟨g1, g2⟩ := key kids (fun _ h => h) s
      exact ⟨g1, fun h => by dsimp only; rw [g2 h]⟩
theorem lY (t : Tree) (hc : checkP isConP t = 0) (b f : Int) (hf : 0 ≤ f) : shiftP t b f = if allV (okG b f) t 0 = true then (mapV (shG b f) t 0, 0) else (.nil, 2) := by
  obtain ⟨_, _, hcon⟩ := bK hc
  obtain ⟨g1, g2⟩ := aAS b f t 0 true (cY t hcon)
  rw [Bool.true_and] at g1 g2
  unfold shiftP
  rw [if_pos hc, decide_eq_true hf, g1]
  by_cases h : allV (okG b f) t 0 = true
  · rw [if_pos h, if_pos h, g2 h]
  · rw [if_neg h, if_neg h]
/-- All kids are walked, or none. -/
theorem jF (C : Tree → Int → Tree × Int) (d : Int) : ∀ l : List Tree, (swalkPs C l d).2 = 0 → (∀ t ∈ l, (swalkP C t d).2 = 0) ∧ (swalkPs C l d).1 = l.map fun t => (swalkP C t d).1
  | [], _ => by rw [swalkPs]; exact ⟨fun t h => (List.not_mem_nil h).elim, rfl⟩
  | t :: ts, h => by
    rw [swalkPs] at h ⊢
    by_cases h1 : (swalkP C t d).2 = 0
    · rw [if_neg (by simpa using h1)] at h ⊢
      by_cases h2 : (swalkPs C ts d).2 = 0
      · rw [if_neg (by simpa using h2)]
        obtain ⟨g1, g2⟩ := jF C d ts h2
        exact ⟨fun u hu => by rcases List.mem_cons.1 hu with rfl | hu; exact h1; exact g1 u hu, by rw [g2]; rfl⟩
      · rw [if_pos h2] at h; exact absurd h h2
    · rw [if_pos h1] at h; exact absurd h h1
theorem pC (C : Tree → Int → Tree × Int) (d : Int) : ∀ l : List Tree, (∀ t ∈ l, (swalkP C t d).2 = 0) → swalkPs C l d = (l.map fun t => (swalkP C t d).1, 0)
  | [], _ => by rw [swalkPs]; rfl
  | t :: ts, h => by
    have ih := pC C d ts fun u hu => h u (by simp [hu])
    rw [swalkPs, if_neg (by simpa using h t (by simp)), ih]
    rfl
theorem mS {C : Tree → Int → Tree × Int} {k n : Int} {a b : ByteArray} {kids : List Tree} {d : Int} (hk : ¬ k < 160) (h : (swalkP C (.node k n a b kids) d).2 = 0) :
    (∀ t ∈ kids, (swalkP C t (d + sbindsP k n)).2 = 0) ∧ (swalkP C (.node k n a b kids) d).1 = .node k n a b (kids.map fun t => (swalkP C t (d + sbindsP k n)).1) := by
  rw [swalkP, if_neg hk] at h ⊢
  by_cases h1 : (swalkPs C kids (d + sbindsP k n)).2 = 0
  · rw [if_neg (by simpa using h1)]
    obtain ⟨g1, g2⟩ := jF C _ kids h1
    exact ⟨g1, by rw [g2]⟩
  · rw [if_pos h1] at h; exact absurd h h1
theorem zI {C : Tree → Int → Tree × Int} {k n : Int} {a b : ByteArray} {kids : List Tree} {d : Int} (hk : ¬ k < 160) (h : ∀ t ∈ kids, (swalkP C t (d + sbindsP k n)).2 = 0) :
    swalkP C (.node k n a b kids) d = (.node k n a b (kids.map fun t => (swalkP C t (d + sbindsP k n)).1), 0) := by
  rw [swalkP, if_neg hk, pC C _ kids h]
  rfl
theorem pD {C : Tree → Int → Tree × Int} {c : Tree} (hc : checkP isConP c = 0) (d : Int) : swalkP C c d = C c d := by
  obtain ⟨k, n, a, b, ks, rfl, hk⟩ := rQ hc
  rw [swalkP, if_pos hk]
theorem gA {k n : Int} (h : ¬ (k = 164 ∨ k = 165)) : sbindsP k n = 0 := by unfold sbindsP; rw [if_neg h]
theorem zJ (c : Tree) (hc : checkP isConP c = 0) (b f : Int) (hf : 0 ≤ f) (h : (shiftP c b f).2 = 0) : isConP (shiftP c b f).1 = true := by
  obtain ⟨_, _, hcon⟩ := bK hc
  rw [lY c hc b f hf] at h ⊢
  by_cases ha : allV (okG b f) c 0 = true
  · rw [if_pos ha]
    refine aAR _ c 0 hcon (uE _ _ c 0 (cY c hcon) ha fun n x h1 h2 h3 h4 => ?_)
    unfold okG at h4
    rw [decide_eq_true_eq] at h4 ⊢
    unfold shG
    split <;> omega
  · rw [if_neg ha] at h; cases h
end Go.Proofs.YtdajnmffoopcaaaGreatDoor.Ab
