/- Words, walks and laws under the claim's statement: what it uses of them. No condition of its own. -/
import Derived.Test.YtocaohipfiapkaaGreatTML0
import Derived.Test.YtocaohipfiapkaaGreatTMAb1
import Derived.Test.YtocaohipfiapkaaGreatTMAb0
import Derived.Test.YtocaohipfiapkaaGreatTMS0
import Derived.Shelf.Spec.SlicesGrow
namespace Go.Proofs.YtocaohipfiapkaaGreat.Ab
set_option linter.unusedVariables false
set_option linter.unusedSimpArgs false
open Go.RowKit
attribute [local irreducible] AWP AOps AExit AThen ABlock ANoGoto FeetOk
end Go.Proofs.YtocaohipfiapkaaGreat.Ab
namespace Go.Proofs.YtocaohipfiapkaaGreat.Ab
set_option linter.unusedVariables false
set_option linter.unusedSimpArgs false
open Go.RowKit
attribute [local irreducible] AWP AOps AExit AThen ABlock ANoGoto FeetOk
set_option maxHeartbeats 4000000 in
set_option maxRecDepth 10000 in
theorem tD (l : List Tree) (F : FuncId) (R : Tree → Bool) (hl : l.length < 1000000000)
    (hf : ∀ j (h : j < l.length), ACalls Tryz.prog F [.imm l[j].iv] [] (.imm (.lit (.bool (R l[j])))) []) :
    ACalls Tryz.prog 27 [.imm (.sl false l.length (Tree.ivs l)), .imm (.func F [] [])] [] (.imm (.lit (.int .i64 (findP R l 0)))) [] := by
  generalize hR : findP R l 0 = Q
  refine bZ [] Tryz.func27 rfl rfl (nb rfl) rfl rfl ?_
  repeat' (first | refine aG ?_ | (refine aI ?_;  first | refine aC tabOk rfl rfl rfl (nb rfl) rfl ?_ | refine aY tabOk rfl rfl (nb rfl) rfl ?_) | (refine aN ?_;  first | refine aH ?_ | refine aQ ?_ | refine aX ?_))
  refine cH (ι := {j : Nat // j ≤ l.length ∧ findP R (l.drop j) j = Q}) (fun j => S.f ⟨[(8, .imm (.lit (.int .i64 (j.1 : Int)))), (7, .imm (.lit (.int .i64 (l.length : Int)))), (0, .imm (.sl false l.length (Tree.ivs l))), (1, .imm (.func F [] []))], []⟩) (fun j => l.length - j.1) ⟨0, Nat.zero_le _, hR⟩ (bW (by repeat' first | exact trivial | refine ⟨rfl, ?_⟩) (by repeat' first | exact trivial | refine ⟨rfl, ?_⟩)) ?_
  clear hR
  rintro ⟨j, hj, hR⟩
  dsimp only
  by_cases hlt : j < l.length
  · have hget := cS l j hlt
    have hc := hf j hlt
    rw [List.drop_eq_getElem_cons hlt, findP] at hR
    cases hRj : R l[j] with
    | true =>
      rw [hRj] at hc hR
      rw [if_pos rfl] at hR
      subst hR
      repeat' (first | refine aG ?_ | (refine aI ?_;  first | refine aC tabOk rfl rfl rfl (nb rfl) rfl ?_ | (refine aK rfl rfl rfl (nb rfl) rfl rfl rfl (fun hq => ?_) (fun hq => ?_) <;> (first | (simp only [sD, sE, sB, sC, sN, sM, sT, sF] at hq; try (exfalso; omega)) | skip)) | refine cD rfl rfl (nb rfl) rfl rfl rfl rfl hc (by repeat' first | exact trivial | refine ⟨rfl, ?_⟩) rfl (by show ([] : List Nat).Nodup; decide) ?_ | refine bH tabOk rfl rfl rfl (nb rfl) rfl rfl rfl rfl (by first | assumption | omega) ?_ | refine bO tabOk rfl rfl rfl (nb rfl) rfl rfl rfl (by assumption) ?_) | (refine aN ?_;  first | refine aH ?_ | refine aQ ?_ | refine aX ?_ | refine aT ?_ | refine aZ ?_ | refine aE (b := true) rfl (fun _ => ?_) nTf) | (refine aM ?_;  first | refine bA ?_ | refine aV ?_) | (refine aW ?_;  first | refine bD ?_))
      all_goals first
        | (exfalso; omega)
        | (refine cG (cF (by first | exact .inl rfl | exact .inr rfl) (bC rfl (aA rfl)) rfl (by repeat' first | exact trivial | refine ⟨rfl, ?_⟩) rfl ?_); rfl)
    | false =>
      rw [hRj] at hc hR
      rw [if_neg (by simp)] at hR
      repeat' (first | refine aG ?_ | (refine aI ?_;  first | refine aC tabOk rfl rfl rfl (nb rfl) rfl ?_ | (refine aK rfl rfl rfl (nb rfl) rfl rfl rfl (fun hq => ?_) (fun hq => ?_) <;> (first | (simp only [sD, sE, sB, sC, sN, sM, sT, sF] at hq; try (exfalso; omega)) | skip)) | refine cD rfl rfl (nb rfl) rfl rfl rfl rfl hc (by repeat' first | exact trivial | refine ⟨rfl, ?_⟩) rfl (by show ([] : List Nat).Nodup; decide) ?_ | refine bX rfl rfl rfl (nb rfl) rfl rfl (by omega) ?_ | refine bH tabOk rfl rfl rfl (nb rfl) rfl rfl rfl rfl (by first | assumption | omega) ?_ | refine bO tabOk rfl rfl rfl (nb rfl) rfl rfl rfl (by assumption) ?_) | (refine aN ?_;  first | refine aH ?_ | refine aQ ?_ | refine bI ?_ | refine aX ?_ | refine aZ ?_ | refine aE (b := true) rfl (fun _ => ?_) nTf | refine aE (b := false) rfl nFt (fun _ => ?_)) | (refine aM ?_;  first | refine bA ?_) | (refine aW ?_;  first | refine bS ?_))
      all_goals first
        | (exfalso; omega)
        | exact ⟨⟨j + 1, hlt, hR⟩, (by show l.length - (j + 1) < l.length - j; omega), (bW (by repeat' first | exact trivial | refine ⟨rfl, ?_⟩) (by repeat' first | exact trivial | refine ⟨rfl, ?_⟩))⟩
  · have ej : j = l.length := by omega
    subst ej
    rw [List.drop_length, findP] at hR
    subst hR
    repeat' (first | refine aG ?_ | (refine aI ?_;  first | refine aC tabOk rfl rfl rfl (nb rfl) rfl ?_ | (refine aK rfl rfl rfl (nb rfl) rfl rfl rfl (fun hq => ?_) (fun hq => ?_) <;> (first | (simp only [sD, sE, sB, sC, sN, sM, sT, sF] at hq; try (exfalso; omega)) | skip))) | (refine aN ?_;  first | refine aH ?_ | refine aQ ?_ | refine aT ?_ | refine bY ?_ | refine aE (b := false) rfl nFt (fun _ => ?_)) | (refine aM ?_;  first | refine bA ?_ | refine bN ?_) | (refine aW ?_;  first | refine bJ ?_))
    all_goals first
      | (exfalso; omega)
      | (refine cG (cF (by first | exact .inl rfl | exact .inr rfl) (bC rfl (aA rfl)) rfl (by repeat' first | exact trivial | refine ⟨rfl, ?_⟩) rfl ?_); rfl)
set_option maxHeartbeats 4000000 in
set_option maxRecDepth 10000 in
theorem iT (l : List Tree) (F : FuncId) (R : Tree → Bool) (hl : l.length < 1000000000)
    (hf : ∀ j (h : j < l.length), ACalls Tryz.prog F [.imm l[j].iv] [] (.imm (.lit (.bool (R l[j])))) []) :
    ACalls Tryz.prog 16 [.imm (.sl false l.length (Tree.ivs l)), .imm (.func F [] [])] [] (.imm (.lit (.bool (l.any R)))) [] := by
  have hc := tD l F R hl hf
  have ha := mI R l 0
  generalize findP R l 0 = Q at *
  refine bZ [] Tryz.func16 rfl rfl (nb rfl) rfl rfl ?_
  repeat' (first | refine aG ?_ | (refine aI ?_;  first | refine aC tabOk rfl rfl rfl (nb rfl) rfl ?_ | (refine aK rfl rfl rfl (nb rfl) rfl rfl rfl (fun hq => ?_) (fun hq => ?_) <;> (first | (simp only [sD, sE, sB, sC, sN, sM, sT, sF] at hq; try (exfalso; omega)) | skip)) | refine cD rfl rfl (nb rfl) rfl rfl rfl rfl hc (by repeat' first | exact trivial | refine ⟨rfl, ?_⟩) rfl (by show ([] : List Nat).Nodup; decide) ?_) | (refine aN ?_;  first | refine aH ?_ | refine aT ?_))
  all_goals
    (have e : l.any R = decide (Q ≥ 0) := by
       cases h : l.any R with
       | true => exact (decide_eq_true (ha.2 h)).symm
       | false => exact (decide_eq_false (fun hq => by rw [ha.1 hq] at h; cases h)).symm
     rw [e]
     refine cG (cF (by first | exact .inl rfl | exact .inr rfl) (bC rfl (aA rfl)) rfl (by repeat' first | exact trivial | refine ⟨rfl, ?_⟩) rfl ?_); refine cR ?_; first | exact (decide_eq_true (by assumption)).symm | exact (decide_eq_false (by assumption)).symm)
end Go.Proofs.YtocaohipfiapkaaGreat.Ab
namespace Go.Proofs.YtocaohipfiapkaaGreat.Ab
set_option linter.unusedVariables false
set_option linter.unusedSimpArgs false
open Go.RowKit
attribute [local irreducible] AWP AOps AExit AThen ABlock ANoGoto FeetOk
structure CellD where
  f : Bool
  k : Int
  n : Int
  a : ByteArray
  b : ByteArray
  kids : List Int
def intIVs (l : List Int) : List IV := l.map fun x => .lit (.int .i64 x)
def cellIV (c : CellD) : List IV := [.lit (.int .i64 c.k), .lit (.int .i64 c.n), .lit (.string c.a), .lit (.string c.b), .sl c.f c.kids.length (intIVs c.kids)]
def cellIVs : List CellD → List IV
  | [] => []
  | c :: l => cellIV c ++ cellIVs l
theorem pJ (l : List Int) (j : Nat) (h : j < l.length) : (intIVs l)[j * 1]? = some (.lit (.int .i64 l[j])) := by unfold intIVs; simp [h]
theorem pL (l : List Int) : (intIVs l).length = l.length := by unfold intIVs; simp
theorem nG : ∀ l m : List CellD, cellIVs (l ++ m) = cellIVs l ++ cellIVs m
  | [], m => rfl
  | c :: l, m => by rw [List.cons_append, cellIVs, cellIVs, nG l m, List.append_assoc]
theorem fD : ∀ (l : List CellD) (j : Nat) (h : j < l.length), ((cellIVs l).drop (j * 5)).take 5 = cellIV l[j]
  | c :: l, 0, h => by rw [Nat.zero_mul, List.drop_zero, cellIVs, List.take_append_of_le_length (by simp [cellIV])]; rfl
  | c :: l, j + 1, h => by
    have e : (j + 1) * 5 = 5 + j * 5 := by omega
    have e5 : (cellIV c).length = 5 := rfl
    rw [e, ← List.drop_drop, cellIVs]
    conv => lhs; rw [← e5, List.drop_left]
    rw [e5, fD l j (by simpa using h)]
    rfl
theorem wV (l : List CellD) (j i : Nat) (h : j < l.length) (hi : i < 5) : (cellIVs l)[j * 5 + i]? = (cellIV l[j])[i]? := by
  rw [← fD l j h, List.getElem?_take, if_pos hi, List.getElem?_drop]
/-- The tree at a cell. -/
def growT (l : List CellD) : Nat → Nat → Tree
  | 0, _ => .nil
  | f + 1, i => match l[i]? with
    | none => .nil
    | some c => .node c.k c.n c.a c.b (c.kids.map fun x => growT l f x.toNat)
def below (l : List CellD) : Prop := ∀ i (h : i < l.length), ∀ x ∈ l[i].kids, 0 ≤ x ∧ x < (i : Int)
theorem zM (l : List CellD) (f i : Nat) (h : i < f) (hi : i < l.length) : ∃ cs, (growT l f i).iv = .ptr cs 0 := by
  cases f with
  | zero => omega
  | succ f => rw [growT, List.getElem?_eq_getElem hi]; exact ⟨_, rfl⟩
theorem aAN (l : List Tree) (t : Tree) : Tree.ivs (l ++ [t]) = Tree.ivs l ++ [t.iv] := by rw [cX, cX, List.map_append]; rfl
set_option maxHeartbeats 16000000 in
set_option maxRecDepth 10000 in
theorem aCj (l : List CellD) (hb : below l) (hlen : l.length ≤ 8192) (hk : ∀ c ∈ l, c.kids.length ≤ 8192) : ∀ (f i : Nat), i < f → i < l.length →
    ACalls Tryz.prog 22 [.imm (.agg [.sl false l.length (cellIVs l)]), .imm (.lit (.int .i64 (i : Int)))] [] (.imm (growT l f i).iv) [] := by
  intro f
  induction f with
  | zero => intro i h; omega
  | succ f ih =>
    intro i hif hil
    have hT : growT l (f + 1) i = .node l[i].k l[i].n l[i].a l[i].b (l[i].kids.map fun x => growT l f x.toNat) := by
      rw [growT, List.getElem?_eq_getElem hil]
    rw [hT]
    have hrow := fD l i hil
    have hbi := hb i hil
    have hki := hk l[i] (List.getElem_mem hil)
    generalize hc : l[i] = c at *
    change _ = [IV.lit (.int .i64 c.k), .lit (.int .i64 c.n), .lit (.string c.a), .lit (.string c.b), .sl c.f c.kids.length (intIVs c.kids)] at hrow
    refine cL Tryz.func22 rfl rfl (nb rfl) rfl ?_
    repeat' (first | refine aG ?_ | (refine aI ?_;  first | refine aC tabOk rfl rfl rfl (nb rfl) rfl ?_ | refine eT tabOk rfl rfl rfl (nb rfl) rfl rfl rfl hrow rfl ?_ | refine gI tabOk rfl rfl rfl (nb rfl) rfl rfl rfl rfl rfl ?_ | refine qV (t := 36) rfl rfl rfl (nb rfl) rfl rfl rfl rfl rfl rfl rfl ?_ | refine aY tabOk rfl rfl (nb rfl) rfl ?_ | refine dC tabOk rfl rfl rfl (nb rfl) rfl rfl rfl rfl rfl rfl ?_ | refine bM tabOk rfl rfl rfl (nb rfl) rfl rfl rfl rfl ?_ | refine bP tabOk rfl rfl rfl rfl rfl rfl rfl rfl rfl rfl rfl ?_ | refine bH tabOk rfl rfl rfl (nb rfl) rfl rfl rfl rfl (by first | assumption | omega) ?_) | (refine aN ?_;  first | refine aH ?_ | refine aQ ?_ | refine aX ?_))
    have hTs : ∀ j (hj : j < c.kids.length), Tree.ivs ((c.kids.take (j + 1)).map fun x => growT l f x.toNat) = Tree.ivs ((c.kids.take j).map fun x => growT l f x.toNat) ++ [(growT l f (c.kids[j]).toNat).iv] := fun j hj => by
      rw [List.take_succ_eq_append_getElem hj, List.map_append, List.map_singleton, aAN]
    refine cW (eX (h0 := 22) (k0 := 4) 500 28 1 rfl rfl (by simp) rfl rfl) ?_
    refine cH (ι := {j : Nat // j ≤ c.kids.length}) (fun j => S.f ⟨[(7, .imm (.lit (.int .i64 (j.1 : Int)))), (6, .obj 22 0), (5, .obj 5 0), (2, .imm (.ptr [.sl false l.length (cellIVs l)] 0))], [(500, .arr 28 1 j.1 (Tree.ivs ((c.kids.take j.1).map fun x => growT l f x.toNat))), (22, .cells [.imm (.lit (.int .i64 c.k)), .imm (.lit (.int .i64 c.n)), .imm (.lit (.string c.a)), .imm (.lit (.string c.b)), .ref 500 j.1]), (5, .cells [.imm (.lit (.int .i64 c.k)), .imm (.lit (.int .i64 c.n)), .imm (.lit (.string c.a)), .imm (.lit (.string c.b)), .imm (.sl c.f c.kids.length (intIVs c.kids))])]⟩) (fun j => c.kids.length - j.1) ⟨0, Nat.zero_le _⟩ (bW (by repeat' first | exact trivial | refine ⟨rfl, ?_⟩) (by repeat' first | exact trivial | refine ⟨rfl, ?_⟩)) ?_
    rintro ⟨j, hj⟩
    dsimp only
    by_cases hlt : j < c.kids.length
    · have hx := hbi c.kids[j] (List.getElem_mem hlt)
      have hcall := ih (c.kids[j]).toNat (by omega) (by omega)
      have hxe : ((c.kids[j]).toNat : Int) = c.kids[j] := Int.toNat_of_nonneg hx.1
      rw [hxe] at hcall
      obtain ⟨pc, hpc⟩ := zM l f (c.kids[j]).toNat (by omega) (by omega)
      have hTj := hTs j hlt
      rw [hpc] at hcall hTj
      repeat' (first | refine aG ?_ | (refine aI ?_;  first | refine aC tabOk rfl rfl rfl (nb rfl) rfl ?_ | (refine aK rfl rfl rfl (nb rfl) rfl rfl rfl (fun hq => ?_) (fun hq => ?_) <;> (first | (simp only [sD, sE, sB, sC, sN, sM, sT, sF] at hq; try (exfalso; omega)) | skip)) | refine aD rfl rfl (nb rfl) rfl rfl rfl rfl (hcall) ?_ | refine bO tabOk rfl rfl rfl (nb rfl) rfl rfl rfl (pJ _ _ hlt) ?_ | refine cN tabOk rfl rfl rfl (nb rfl) rfl rfl rfl rfl rfl rfl rfl (by first | omega | decide) rfl (by first | omega | (dsimp only; omega)) (by first | omega | (dsimp only; omega)) ?_ | refine bX rfl rfl rfl (nb rfl) rfl rfl (by omega) ?_ | refine cI tabOk rfl rfl rfl (nb rfl) rfl rfl rfl rfl rfl rfl rfl rfl rfl ?_ | refine aY tabOk rfl rfl (nb rfl) rfl ?_ | refine bM tabOk rfl rfl rfl (nb rfl) rfl rfl rfl rfl ?_ | refine bP tabOk rfl rfl rfl rfl rfl rfl rfl rfl rfl rfl rfl ?_ | refine bH tabOk rfl rfl rfl (nb rfl) rfl rfl rfl rfl (by first | assumption | omega) ?_) | (refine aN ?_;  first | refine aH ?_ | refine aQ ?_ | refine bI ?_ | refine aX ?_ | refine aZ ?_ | refine aE (b := true) rfl (fun _ => ?_) nTf | refine aR mixed (by kernel_rfl) ?_) | (refine aM ?_;  first | refine bA ?_) | (refine aW ?_;  first | refine bS ?_) | refine bG (bF (by kernel_rfl)) ?_)
      refine ⟨⟨j + 1, hlt⟩, (by show c.kids.length - (j + 1) < c.kids.length - j; omega), ?_⟩
      dsimp only
      rw [hTj]
      exact (bW (by repeat' first | exact trivial | refine ⟨rfl, ?_⟩) (by repeat' first | exact trivial | refine ⟨rfl, ?_⟩))
    · have ej : j = c.kids.length := by omega
      subst ej
      repeat' (first | refine aG ?_ | (refine aI ?_;  first | refine aC tabOk rfl rfl rfl (nb rfl) rfl ?_ | (refine aK rfl rfl rfl (nb rfl) rfl rfl rfl (fun hq => ?_) (fun hq => ?_) <;> (first | (simp only [sD, sE, sB, sC, sN, sM, sT, sF] at hq; try (exfalso; omega)) | skip)) | refine aY tabOk rfl rfl (nb rfl) rfl ?_ | refine bM tabOk rfl rfl rfl (nb rfl) rfl rfl rfl rfl ?_) | (refine aN ?_;  first | refine aH ?_ | refine aQ ?_ | refine aT ?_ | refine bY ?_ | refine aE (b := false) rfl nFt (fun _ => ?_)) | (refine aM ?_;  first | refine bA ?_ | refine bN ?_) | (refine aW ?_;  first | refine bJ ?_))
      have hlen : (c.kids.map fun x => growT l f x.toNat).length = c.kids.length := by simp
      rw [List.take_length]
      refine dU ((Imp.of_le (σ' := S.f ⟨[(4, .obj 22 0)], [(500, .arr 28 1 c.kids.length (Tree.ivs (c.kids.map fun x => growT l f x.toNat))), (22, .cells [.imm (.lit (.int .i64 c.k)), .imm (.lit (.int .i64 c.n)), .imm (.lit (.string c.a)), .imm (.lit (.string c.b)), .ref 500 c.kids.length])]⟩) (bW (by repeat' first | exact trivial | refine ⟨rfl, ?_⟩) (by repeat' first | exact trivial | refine ⟨rfl, ?_⟩))).trans ((cU (g := 500) rfl (by repeat' first | exact trivial | exact fun _ => rfl | refine ⟨?_, ?_⟩) (by repeat' first | exact trivial | exact fun _ => rfl | refine ⟨?_, ?_⟩)).trans (eH (g := 22) rfl rfl))) ?_
      refine aU (by first | exact .inl rfl | exact .inr rfl) (bC rfl (aA rfl)) rfl ?_
      show AV.imm _ = AV.imm _
      rw [Tree.iv, hlen]
      rfl
end Go.Proofs.YtocaohipfiapkaaGreat.Ab
namespace Go.Proofs.YtocaohipfiapkaaGreat.Ab
set_option linter.unusedVariables false
set_option linter.unusedSimpArgs false
open Go.RowKit
attribute [local irreducible] AWP AOps AExit AThen ABlock ANoGoto FeetOk
def allK : List CellD → List Int
  | [] => []
  | c :: l => c.kids ++ allK l
theorem uP : ∀ l m : List CellD, allK (l ++ m) = allK l ++ allK m
  | [], m => rfl
  | c :: l, m => by rw [List.cons_append, allK, allK, uP l m, List.append_assoc]
theorem rE (l : List CellD) (i : Nat) (h : i < l.length) : allK (l.take (i + 1)) = allK (l.take i) ++ l[i].kids := by
  rw [List.take_succ_eq_append_getElem h, uP]
  simp [allK]
theorem uQ (K : Nat) : ∀ l : List CellD, (∀ c ∈ l, c.kids.length ≤ K) → (allK l).length ≤ l.length * K
  | [], _ => by simp [allK]
  | c :: l, h => by
    have h1 := h c List.mem_cons_self
    have h2 := uQ K l (fun d hd => h d (List.mem_cons_of_mem _ hd))
    rw [allK, List.length_append, List.length_cons, Nat.add_mul]
    omega
def cntIVs (n : Nat) (l : List Int) : List IV := (List.range n).map fun (j : Nat) => .lit (.int .i64 ((l.count (j : Int) : Nat) : Int))
theorem aAO (n : Nat) : List.replicate n (IV.lit (.int .i64 0)) = cntIVs n [] := by
  apply List.ext_getElem
  · simp [cntIVs]
  · intro i h1 h2
    simp [cntIVs]
theorem xX (n : Nat) (l : List Int) (x : Int) (h0 : 0 ≤ x) (h : x < (n : Int)) : (cntIVs n l)[x.toNat * 1]? = some (.lit (.int .i64 ((l.count x : Nat) : Int))) := by
  unfold cntIVs
  rw [Nat.mul_one, List.getElem?_map, List.getElem?_range (by omega)]
  rw [Option.map_some, Int.toNat_of_nonneg h0]
theorem aBD (n : Nat) (l : List Int) (x : Int) (h0 : 0 ≤ x) (h : x < (n : Int)) : (cntIVs n l).set (x.toNat * 1) (.lit (.int .i64 ((l.count x + 1 : Nat) : Int))) = cntIVs n (l ++ [x]) := by
  rw [Nat.mul_one]
  apply List.ext_getElem
  · simp [cntIVs]
  · intro i h1 h2
    rw [List.getElem_set]
    by_cases e : x.toNat = i
    · rw [if_pos e]
      have ex : x = (i : Int) := by omega
      subst ex
      simp [cntIVs, List.count_append]
    · rw [if_neg e]
      have ne : ¬ x = (i : Int) := by omega
      simp [cntIVs, List.count_append, List.count_singleton, ne]
def once (l : List CellD) : Prop := ∀ j : Nat, j < l.length - 1 → (allK l).count (j : Int) = 1
open Classical in
/-- What is made of a row of cells; what is told of it. -/
noncomputable def openR (l : List CellD) : Tree × Int :=
  if l.length = 0 then (.nil, 1) else if 8192 < l.length then (.nil, 3) else if below l ∧ once l then (growT l l.length (l.length - 1), 0) else (.nil, 16)
theorem aBE {l : List CellD} {i k : Nat} (hi : i < l.length) (hk : k < l[i].kids.length) (h : l[i].kids[k] < 0 ∨ (i : Int) ≤ l[i].kids[k]) : ¬ below l := fun hb => by
  have := hb i hi _ (List.getElem_mem hk)
  omega
theorem zN {l : List CellD} {i : Nat} (hi : i < l.length) : (cellIVs l)[i * 5 + 4]? = some (.sl l[i].f l[i].kids.length (intIVs l[i].kids)) := by
  rw [wV l i 4 hi (by omega)]; rfl
set_option maxHeartbeats 16000000 in
set_option maxRecDepth 10000 in
theorem aAP (l : List CellD) (hk : ∀ c ∈ l, c.kids.length ≤ 8192) :
    ACalls Tryz.prog 11 [.imm (.agg [.sl false l.length (cellIVs l)])] [] (.imm (.tup [(openR l).1.iv, .lit (.int .i64 (openR l).2)])) [] := by
  have hR : openR l = openR l := rfl
  conv at hR => rhs; unfold openR
  generalize openR l = R at *
  by_cases h0 : l.length = 0
  · rw [if_pos h0] at hR
    subst hR
    refine aJ Tryz.func11 rfl rfl (nb rfl) rfl ?_
    repeat' (first | refine aG ?_ | (refine aI ?_;  first | refine aC tabOk rfl rfl rfl (nb rfl) rfl ?_ | (refine aK rfl rfl rfl (nb rfl) rfl rfl rfl (fun hq => ?_) (fun hq => ?_) <;> (first | (simp only [sD, sE, sB, sC, sN, sM, sT, sF] at hq; try (exfalso; omega)) | skip)) | refine aY tabOk rfl rfl (nb rfl) rfl ?_) | (refine aN ?_;  first | refine aH ?_ | refine aQ ?_ | refine aT ?_ | refine aE (b := true) rfl (fun _ => ?_) nTf) | (refine aM ?_;  first | refine aV ?_))
    all_goals first
      | (exfalso; omega)
      | (refine aU (by first | exact .inl rfl | exact .inr rfl) (bB rfl (aA rfl) (aA rfl)) rfl ?_; rfl)
  · rw [if_neg h0] at hR
    by_cases h1 : 8192 < l.length
    · rw [if_pos h1] at hR
      subst hR
      refine aJ Tryz.func11 rfl rfl (nb rfl) rfl ?_
      repeat' (first | refine aG ?_ | (refine aI ?_;  first | refine aC tabOk rfl rfl rfl (nb rfl) rfl ?_ | (refine aK rfl rfl rfl (nb rfl) rfl rfl rfl (fun hq => ?_) (fun hq => ?_) <;> (first | (simp only [sD, sE, sB, sC, sN, sM, sT, sF] at hq; try (exfalso; omega)) | skip)) | refine aY tabOk rfl rfl (nb rfl) rfl ?_) | (refine aN ?_;  first | refine aH ?_ | refine aQ ?_ | refine aT ?_ | refine aZ ?_ | refine aE (b := true) rfl (fun _ => ?_) nTf | refine aE (b := false) rfl nFt (fun _ => ?_)) | (refine aM ?_;  first | refine bA ?_ | refine aV ?_))
      all_goals first
        | (exfalso; omega)
        | (refine aU (by first | exact .inl rfl | exact .inr rfl) (bB rfl (aA rfl) (aA rfl)) rfl ?_; rfl)
    · rw [if_neg h1] at hR
      have hbad : ¬ (below l ∧ once l) → R = (.nil, 16) := fun h => by rw [hR, if_neg h]
      have hgood : below l ∧ once l → R = (growT l l.length (l.length - 1), 0) := fun h => by rw [hR, if_pos h]
      clear hR
      have hcz := aAO l.length
      have hlimit : ∀ m : List Int, m.length ≤ 67108864 → ∀ x, m.count x < 9223372036854775807 := fun m hm x => by
        have := List.count_le_length (l := m) (a := x)
        omega
      have hpre : ∀ i, (allK (l.take i)).length ≤ l.length * 8192 := fun i => Nat.le_trans (uQ 8192 _ (fun c hc => hk c (List.mem_of_mem_take hc))) (Nat.mul_le_mul_right _ (by rw [List.length_take]; omega))
      refine aJ Tryz.func11 rfl rfl (nb rfl) rfl ?_
      repeat' (first | refine aG ?_ | (refine aI ?_;  first | refine aC tabOk rfl rfl rfl (nb rfl) rfl ?_ | (refine aK rfl rfl rfl (nb rfl) rfl rfl rfl (fun hq => ?_) (fun hq => ?_) <;> (first | (simp only [sD, sE, sB, sC, sN, sM, sT, sF] at hq; try (exfalso; omega)) | skip)) | refine oR 600 tabOk rfl rfl rfl (nb rfl) rfl rfl rfl rfl rfl rfl rfl (by simp only [slMax]; omega) (by dsimp only; omega) (by simp) rfl rfl ?_ | refine aY tabOk rfl rfl (nb rfl) rfl ?_) | (refine aN ?_;  first | refine aH ?_ | refine aQ ?_ | refine aX ?_ | refine aZ ?_ | refine aE (b := false) rfl nFt (fun _ => ?_)) | (refine aM ?_;  first | refine bA ?_))
      all_goals first | (exfalso; omega) | skip
      rw [hcz]
      refine cH (ι := {i : Nat // i ≤ l.length ∧ ∀ j (h : j < l.length), j < i → ∀ x ∈ l[j].kids, 0 ≤ x ∧ x < (j : Int)}) (fun i => S.f ⟨[(6, .imm (.lit (.int .i64 (i.1 : Int)))), (5, .ref 600 l.length), (4, .imm (.lit (.int .i64 (l.length : Int)))), (1, .imm (.ptr [.sl false l.length (cellIVs l)] 0))], [(600, .arr 3 1 l.length (cntIVs l.length (allK (l.take i.1))))]⟩) (fun i => l.length - i.1) ⟨0, Nat.zero_le _, fun j h h2 => by omega⟩ (bW (by repeat' first | exact trivial | refine ⟨rfl, ?_⟩) (by repeat' first | exact trivial | refine ⟨rfl, ?_⟩)) ?_
      rintro ⟨i, hi, hpr⟩
      dsimp only
      by_cases hil : i < l.length
      · have hck := zN hil
        have hki := hk _ (List.getElem_mem hil)
        have hstep := rE l i hil
        repeat' (first | refine aG ?_ | (refine aI ?_;  first | refine aC tabOk rfl rfl rfl (nb rfl) rfl ?_ | (refine aK rfl rfl rfl (nb rfl) rfl rfl rfl (fun hq => ?_) (fun hq => ?_) <;> (first | (simp only [sD, sE, sB, sC, sN, sM, sT, sF] at hq; try (exfalso; omega)) | skip))) | (refine aN ?_;  first | refine aH ?_ | refine aQ ?_ | refine aX ?_ | refine aZ ?_ | refine aE (b := true) rfl (fun _ => ?_) nTf) | (refine aM ?_;  first | refine bA ?_))
        have e0 : cntIVs l.length (allK (l.take i)) = cntIVs l.length (allK (l.take i) ++ l[i].kids.take 0) := by rw [List.take_zero, List.append_nil]
        rw [e0]
        refine cH (ι := {k : Nat // k ≤ l[i].kids.length ∧ ∀ x ∈ l[i].kids.take k, 0 ≤ x ∧ x < (i : Int)}) (fun k => S.f ⟨[(7, .imm (.lit (.int .i64 (k.1 : Int)))), (6, .imm (.lit (.int .i64 (i : Int)))), (5, .ref 600 l.length), (4, .imm (.lit (.int .i64 (l.length : Int)))), (1, .imm (.ptr [.sl false l.length (cellIVs l)] 0))], [(600, .arr 3 1 l.length (cntIVs l.length (allK (l.take i) ++ l[i].kids.take k.1)))]⟩) (fun k => l[i].kids.length - k.1) ⟨0, Nat.zero_le _, fun x hx => by rw [List.take_zero] at hx; cases hx⟩ (bW (by repeat' first | exact trivial | refine ⟨rfl, ?_⟩) (by repeat' first | exact trivial | refine ⟨rfl, ?_⟩)) ?_
        rintro ⟨k, hkk, hkr⟩
        dsimp only
        by_cases hkl : k < l[i].kids.length
        · have hix := pJ l[i].kids k hkl
          have hbk := @aBE l i k hil hkl
          have hnx : l[i].kids.take (k + 1) = l[i].kids.take k ++ [l[i].kids[k]] := List.take_succ_eq_append_getElem hkl
          have hpk : (allK (l.take i) ++ l[i].kids.take k).length ≤ 67108864 := by
            have := hpre i
            have h2 : l.length * 8192 ≤ 8192 * 8192 := Nat.mul_le_mul_right _ (by omega)
            have h3 : allK (l.take (i + 1)) = allK (l.take i) ++ l[i].kids := hstep
            have h4 := hpre (i + 1)
            rw [h3, List.length_append] at h4
            rw [List.length_append, List.length_take]
            omega
          have hcl := hlimit _ hpk l[i].kids[k]
          by_cases hx : 0 ≤ l[i].kids[k] ∧ l[i].kids[k] < (i : Int)
          · have hg1 := xX l.length (allK (l.take i) ++ l[i].kids.take k) l[i].kids[k] hx.1 (by omega)
            have hs1 := aBD l.length (allK (l.take i) ++ l[i].kids.take k) l[i].kids[k] hx.1 (by omega)
            have hxe : l[i].kids[k] = ((l[i].kids[k]).toNat : Int) := (Int.toNat_of_nonneg hx.1).symm
            have hxl : (l[i].kids[k]).toNat < l.length := by omega
            have hkr2 : ∀ x ∈ l[i].kids.take (k + 1), 0 ≤ x ∧ x < (i : Int) := fun x hm => by
              rw [hnx, List.mem_append] at hm
              rcases hm with hm | hm
              · exact hkr x hm
              · rw [List.mem_singleton.1 hm]; exact hx
            rw [List.append_assoc, ← hnx] at hs1
            generalize (allK (l.take i) ++ l[i].kids.take k).count l[i].kids[k] = cn at *
            repeat' (first | refine aG ?_ | (refine aI ?_;  first | refine aC tabOk rfl rfl rfl (nb rfl) rfl ?_ | (refine aK rfl rfl rfl (nb rfl) rfl rfl rfl (fun hq => ?_) (fun hq => ?_) <;> (first | (simp only [sD, sE, sB, sC, sN, sM, sT, sF] at hq; try (exfalso; omega)) | skip)) | refine bO tabOk rfl rfl rfl (nb rfl) rfl rfl rfl hck ?_ | refine bO tabOk rfl rfl rfl (nb rfl) rfl rfl rfl hix ?_ | refine eV tabOk rfl rfl rfl (nb rfl) rfl rfl rfl rfl rfl rfl hxe hxl ?_ | refine jE tabOk rfl rfl rfl (nb rfl) rfl rfl rfl rfl (by omega) hg1 ?_ | refine bX rfl rfl rfl (nb rfl) rfl rfl hcl ?_ | refine lO tabOk rfl rfl rfl rfl rfl rfl rfl rfl rfl rfl (by omega) (by show (l[i].kids[k]).toNat * 1 < l.length * 1; omega) ?_ | refine bX rfl rfl rfl (nb rfl) rfl rfl (by omega) ?_ | refine aY tabOk rfl rfl (nb rfl) rfl ?_ | refine bH tabOk rfl rfl rfl (nb rfl) rfl rfl rfl rfl (by first | assumption | omega) ?_) | (refine aN ?_;  first | refine aH ?_ | refine aQ ?_ | refine bI ?_ | refine aX ?_ | refine aZ ?_ | refine aE (b := true) rfl (fun _ => ?_) nTf | refine aE (b := false) rfl nFt (fun _ => ?_)) | (refine aM ?_;  first | refine bA ?_) | (refine aW ?_;  first | refine bS ?_))
            all_goals first | (exfalso; omega) | skip
            refine ⟨⟨k + 1, hkl, hkr2⟩, (by show l[i].kids.length - (k + 1) < l[i].kids.length - k; omega), ?_⟩
            dsimp only
            rw [← hs1]
            exact (bW (by repeat' first | exact trivial | refine ⟨rfl, ?_⟩) (by repeat' first | exact trivial | refine ⟨rfl, ?_⟩))
          · have e := hbad (fun h => hbk (by omega) h.1)
            subst e
            repeat' (first | refine aG ?_ | (refine aI ?_;  first | refine aC tabOk rfl rfl rfl (nb rfl) rfl ?_ | refine cA rfl rfl (nb rfl) ?_ | (refine aK rfl rfl rfl (nb rfl) rfl rfl rfl (fun hq => ?_) (fun hq => ?_) <;> (first | (simp only [sD, sE, sB, sC, sN, sM, sT, sF] at hq; try (exfalso; omega)) | skip)) | refine bO tabOk rfl rfl rfl (nb rfl) rfl rfl rfl hck ?_ | refine bO tabOk rfl rfl rfl (nb rfl) rfl rfl rfl hix ?_ | refine aY tabOk rfl rfl (nb rfl) rfl ?_ | refine bH tabOk rfl rfl rfl (nb rfl) rfl rfl rfl rfl (by first | assumption | omega) ?_) | (refine aN ?_;  first | refine aH ?_ | refine aQ ?_ | refine aX ?_ | refine aT ?_ | refine aZ ?_ | refine aE (b := true) rfl (fun _ => ?_) nTf) | (refine aM ?_;  first | refine bA ?_ | refine aV ?_) | (refine aW ?_;  first | refine bD ?_))
            all_goals first
              | (exfalso; omega)
              | (refine aU (by first | exact .inl rfl | exact .inr rfl) (bB rfl (aA rfl) (aA rfl)) rfl ?_; rfl)
        · have ek : k = l[i].kids.length := by omega
          subst ek
          rw [List.take_length] at *
          rw [← hstep]
          have hpr2 : ∀ j (h : j < l.length), j < i + 1 → ∀ x ∈ l[j].kids, 0 ≤ x ∧ x < (j : Int) := fun j h hj x hx => by
            rcases Nat.lt_or_ge j i with h2 | h2
            · exact hpr j h h2 x hx
            · have e : j = i := by omega
              subst e
              exact hkr x hx
          repeat' (first | refine aG ?_ | (refine aI ?_;  first | refine aC tabOk rfl rfl rfl (nb rfl) rfl ?_ | (refine aK rfl rfl rfl (nb rfl) rfl rfl rfl (fun hq => ?_) (fun hq => ?_) <;> (first | (simp only [sD, sE, sB, sC, sN, sM, sT, sF] at hq; try (exfalso; omega)) | skip)) | refine bO tabOk rfl rfl rfl (nb rfl) rfl rfl rfl hck ?_ | refine bX rfl rfl rfl (nb rfl) rfl rfl (by omega) ?_ | refine aY tabOk rfl rfl (nb rfl) rfl ?_ | refine bH tabOk rfl rfl rfl (nb rfl) rfl rfl rfl rfl (by first | assumption | omega) ?_) | (refine aN ?_;  first | refine aH ?_ | refine aQ ?_ | refine bI ?_ | refine bY ?_ | refine aE (b := false) rfl nFt (fun _ => ?_)) | (refine aM ?_;  first | refine bA ?_ | refine bN ?_) | (refine aW ?_;  first | refine bS ?_ | refine bJ ?_))
          all_goals first
            | (exfalso; omega)
            | exact ⟨⟨i + 1, hil, hpr2⟩, (by show l.length - (i + 1) < l.length - i; omega), (bW (by repeat' first | exact trivial | refine ⟨rfl, ?_⟩) (by repeat' first | exact trivial | refine ⟨rfl, ?_⟩))⟩
      · have ei : i = l.length := by omega
        subst ei
        have hbl : below l := fun j h x hx => hpr j h h x hx
        rw [List.take_length]
        repeat' (first | refine aG ?_ | (refine aI ?_;  first | refine aC tabOk rfl rfl rfl (nb rfl) rfl ?_ | (refine aK rfl rfl rfl (nb rfl) rfl rfl rfl (fun hq => ?_) (fun hq => ?_) <;> (first | (simp only [sD, sE, sB, sC, sN, sM, sT, sF] at hq; try (exfalso; omega)) | skip))) | (refine aN ?_;  first | refine aH ?_ | refine aQ ?_ | refine aX ?_ | refine bY ?_ | refine aE (b := false) rfl nFt (fun _ => ?_)) | (refine aM ?_;  first | refine bA ?_ | refine bN ?_) | (refine aW ?_;  first | refine bJ ?_))
        refine cH (ι := {j : Nat // j ≤ l.length - 1 ∧ ∀ q : Nat, q < j → (allK l).count (q : Int) = 1}) (fun j => S.f ⟨[(9, .imm (.lit (.int .i64 (j.1 : Int)))), (5, .ref 600 l.length), (4, .imm (.lit (.int .i64 (l.length : Int)))), (1, .imm (.ptr [.sl false l.length (cellIVs l)] 0))], [(600, .arr 3 1 l.length (cntIVs l.length (allK l)))]⟩) (fun j => l.length - j.1) ⟨0, Nat.zero_le _, fun q h => by omega⟩ (bW (by repeat' first | exact trivial | refine ⟨rfl, ?_⟩) (by repeat' first | exact trivial | refine ⟨rfl, ?_⟩)) ?_
        rintro ⟨j, hj, hone⟩
        dsimp only
        by_cases hjl : j < l.length - 1
        · have hg1 : (cntIVs l.length (allK l))[j * 1]? = some (.lit (.int .i64 (((allK l).count (j : Int) : Nat) : Int))) := xX l.length (allK l) (j : Int) (by omega) (by omega)
          by_cases hc1 : (allK l).count (j : Int) = 1
          · rw [hc1] at hg1
            have hone2 : ∀ q : Nat, q < j + 1 → (allK l).count (q : Int) = 1 := fun q hq => by
              rcases Nat.lt_or_ge q j with h2 | h2
              · exact hone q h2
              · have e : q = j := by omega
                subst e
                exact hc1
            repeat' (first | refine aG ?_ | (refine aI ?_;  first | refine aC tabOk rfl rfl rfl (nb rfl) rfl ?_ | (refine aK rfl rfl rfl (nb rfl) rfl rfl rfl (fun hq => ?_) (fun hq => ?_) <;> (first | (simp only [sD, sE, sB, sC, sN, sM, sT, sF] at hq; try (exfalso; omega)) | skip)) | refine eV tabOk rfl rfl rfl (nb rfl) rfl rfl rfl rfl rfl rfl rfl (by omega) ?_ | refine jE tabOk rfl rfl rfl (nb rfl) rfl rfl rfl rfl (by omega) hg1 ?_ | refine bX rfl rfl rfl (nb rfl) rfl rfl (by omega) ?_ | refine dB rfl rfl rfl (nb rfl) rfl rfl rfl (by omega) (by omega) ?_) | (refine aN ?_;  first | refine aH ?_ | refine aQ ?_ | refine bI ?_ | refine aX ?_ | refine aZ ?_ | refine aE (b := true) rfl (fun _ => ?_) nTf | refine aE (b := false) rfl nFt (fun _ => ?_)) | (refine aM ?_;  first | refine bA ?_) | (refine aW ?_;  first | refine bS ?_))
            all_goals first
              | (exfalso; omega)
              | exact absurd rfl (by assumption)
              | exact ⟨⟨j + 1, hjl, hone2⟩, (by show l.length - (j + 1) < l.length - j; omega), (bW (by repeat' first | exact trivial | refine ⟨rfl, ?_⟩) (by repeat' first | exact trivial | refine ⟨rfl, ?_⟩))⟩
          · have e := hbad (fun h => hc1 (h.2 j hjl))
            subst e
            repeat' (first | refine aG ?_ | (refine aI ?_;  first | refine aC tabOk rfl rfl rfl (nb rfl) rfl ?_ | (refine aK rfl rfl rfl (nb rfl) rfl rfl rfl (fun hq => ?_) (fun hq => ?_) <;> (first | (simp only [sD, sE, sB, sC, sN, sM, sT, sF] at hq; try (exfalso; omega)) | skip)) | refine eV tabOk rfl rfl rfl (nb rfl) rfl rfl rfl rfl rfl rfl rfl (by omega) ?_ | refine jE tabOk rfl rfl rfl (nb rfl) rfl rfl rfl rfl (by omega) hg1 ?_ | refine dB rfl rfl rfl (nb rfl) rfl rfl rfl (by omega) (by omega) ?_) | (refine aN ?_;  first | refine aH ?_ | refine aQ ?_ | refine aX ?_ | refine aT ?_ | refine aZ ?_ | refine aE (b := true) rfl (fun _ => ?_) nTf) | (refine aM ?_;  first | refine bA ?_ | refine aV ?_) | (refine aW ?_;  first | refine bD ?_))
            all_goals first
              | (exfalso; omega)
              | (refine aU (by first | exact .inl rfl | exact .inr rfl) (bB rfl (aA rfl) (aA rfl)) rfl ?_; rfl)
        · have ej : j = l.length - 1 := by omega
          subst ej
          have e := hgood ⟨hbl, hone⟩
          subst e
          have hcall := aCj l hbl (by omega) hk l.length (l.length - 1) (by omega) (by omega)
          repeat' (first | refine aG ?_ | (refine aI ?_;  first | refine aC tabOk rfl rfl rfl (nb rfl) rfl ?_ | (refine aK rfl rfl rfl (nb rfl) rfl rfl rfl (fun hq => ?_) (fun hq => ?_) <;> (first | (simp only [sD, sE, sB, sC, sN, sM, sT, sF] at hq; try (exfalso; omega)) | skip)) | refine dB (z := ((l.length - 1 : Nat) : Int)) rfl rfl rfl (nb rfl) rfl rfl (by omega) (by omega) (by omega) ?_ | refine aD rfl rfl (nb rfl) rfl rfl rfl rfl (hcall) ?_) | (refine aN ?_;  first | refine aH ?_ | refine aQ ?_ | refine aT ?_ | refine bY ?_ | refine aE (b := false) rfl nFt (fun _ => ?_)) | (refine aM ?_;  first | refine bA ?_ | refine bN ?_) | (refine aW ?_;  first | refine bJ ?_))
          all_goals first
            | (exfalso; omega)
            | (refine aU (by first | exact .inl rfl | exact .inr rfl) (bB rfl (aA rfl) (aA rfl)) rfl ?_; rfl)
end Go.Proofs.YtocaohipfiapkaaGreat.Ab
namespace Go.Proofs.YtocaohipfiapkaaGreat.Ab
set_option linter.unusedVariables false
set_option linter.unusedSimpArgs false
open Go.RowKit
attribute [local irreducible] AWP AOps AExit AThen ABlock ANoGoto FeetOk
theorem eE (n K : Nat) : (if (K : Int) < (n : Int) then (K : Int) else (n : Int)) = ((min n K : Nat) : Int) := by split <;> omega
def cutB (K : Nat) (s : ByteArray) : ByteArray := s.extract 0 (min s.size K)
theorem rF (K : Nat) (s : ByteArray) : (cutB K s).size ≤ K := by unfold cutB; rw [ByteArray.size_extract]; omega
def fewCell (c : CellD) : CellD := ⟨decide (c.kids.length = 0), c.k, c.n, cutB 165 c.a, cutB 20 c.b, c.kids.take 12⟩
theorem uR (l : List Int) : IV.sl false (min l.length 12 - 0) (((intIVs l).drop (0 * 1)).take ((min l.length 12 - 0) * 1)) = .sl false (l.take 12).length (intIVs (l.take 12)) := by
  unfold intIVs
  rw [Nat.zero_mul, List.drop_zero, Nat.sub_zero, Nat.mul_one, List.length_take, List.map_take, Nat.min_comm]
  congr 1
  conv => rhs; rw [List.take_eq_take_min, List.length_map]
theorem lT (l : List CellD) (c : CellD) : cellIVs (l ++ [c]) = cellIVs l ++ cellIV c := by
  rw [nG]
  show _ ++ (cellIV c ++ []) = _
  rw [List.append_nil]
def fewCells13 (l : List CellD) : List CellD := (l.take 80).map fewCell
set_option maxHeartbeats 16000000 in
set_option maxRecDepth 10000 in
theorem uS (l : List CellD) (hff : ∀ c ∈ l, c.f = false) : ACalls Tryz.prog 5 [.imm (.agg [.sl false l.length (cellIVs l)])] [] (.imm (openR (fewCells13 l)).1.iv) [] := by
  have hkids : ∀ c ∈ fewCells13 l, c.kids.length ≤ 8192 := fun c hc => by
    unfold fewCells13 at hc
    obtain ⟨d, _, rfl⟩ := List.mem_map.1 hc
    show (d.kids.take 12).length ≤ 8192
    rw [List.length_take]; omega
  have hopen := aAP (fewCells13 l) hkids
  refine aJ Tryz.func5 rfl rfl (nb rfl) rfl ?_
  repeat' (first | refine aG ?_ | (refine aI ?_;  first | refine aC tabOk rfl rfl rfl (nb rfl) rfl ?_ | refine aY tabOk rfl rfl (nb rfl) rfl ?_ | refine dC tabOk rfl rfl rfl (nb rfl) rfl rfl rfl rfl rfl rfl ?_) | (refine aN ?_;  first | refine aH ?_ | refine aQ ?_ | refine aX ?_))
  refine cW (eX (h0 := 3) (k0 := 0) 500 41 5 rfl rfl (by simp) rfl rfl) ?_
  refine cH (ι := {i : Nat // i ≤ l.length ∧ i ≤ 80}) (fun i => S.f ⟨[(4, .imm (.lit (.int .i64 (i.1 : Int)))), (3, .obj 3 0), (1, .imm (.ptr [.sl false l.length (cellIVs l)] 0))], [(500, .arr 41 5 i.1 (cellIVs ((l.take i.1).map fewCell))), (3, .cells [.ref 500 i.1])]⟩) (fun i => l.length - i.1) ⟨0, Nat.zero_le _, Nat.zero_le _⟩ (bW (by repeat' first | exact trivial | refine ⟨rfl, ?_⟩) (by repeat' first | exact trivial | refine ⟨rfl, ?_⟩)) ?_
  rintro ⟨i, hi, hiK⟩
  dsimp only
  by_cases hgo : i < l.length ∧ i < 80
  · obtain ⟨hil, hik⟩ := hgo
    have hrow := fD l i hil
    have hcf := hff l[i] (List.getElem_mem hil)
    have hnx : cellIVs ((l.take (i + 1)).map fewCell) = cellIVs ((l.take i).map fewCell) ++ cellIV (fewCell l[i]) := by
      rw [List.take_succ_eq_append_getElem hil, List.map_append, List.map_singleton, lT]
    generalize l[i] = c at *
    change _ = [IV.lit (.int .i64 c.k), .lit (.int .i64 c.n), .lit (.string c.a), .lit (.string c.b), .sl c.f c.kids.length (intIVs c.kids)] at hrow
    rw [hcf] at hrow
    have hkc := uR c.kids
    by_cases hz : c.kids.length = 0
    · have hk0 : c.kids = [] := List.eq_nil_of_length_eq_zero hz
      have hfc : cellIV (fewCell c) = [IV.lit (.int .i64 c.k), .lit (.int .i64 c.n), .lit (.string (cutB 165 c.a)), .lit (.string (cutB 20 c.b)), .sl true 0 []] := by
        unfold fewCell cellIV
        rw [hk0]
        rfl
      rw [hk0] at hrow hkc
      rw [hfc] at hnx
      repeat' (first | refine aG ?_ | (refine aI ?_;  first | refine aC tabOk rfl rfl rfl (nb rfl) rfl ?_ | (refine aK rfl rfl rfl (nb rfl) rfl rfl rfl (fun hq => ?_) (fun hq => ?_) <;> (first | (simp only [sD, sE, sB, sC, sN, sM, sT, sF] at hq; try (exfalso; omega)) | skip)) | refine eT tabOk rfl rfl rfl (nb rfl) rfl rfl rfl hrow rfl ?_ | refine dT rfl rfl rfl (nb rfl) rfl rfl (eE c.a.size 165) ?_ | refine dT rfl rfl rfl (nb rfl) rfl rfl (eE c.b.size 20) ?_ | refine dT (r := 0) rfl rfl rfl (nb rfl) rfl rfl rfl ?_ | refine eW (l := 0) (h := min c.a.size 165) (r := cutB 165 c.a) tabOk rfl rfl rfl (nb rfl) rfl rfl rfl rfl (by omega) (by omega) rfl ?_ | refine eW (l := 0) (h := min c.b.size 20) (r := cutB 20 c.b) tabOk rfl rfl rfl (nb rfl) rfl rfl rfl rfl (by omega) (by omega) rfl ?_ | refine dQ (l := 0) (h := 0) tabOk rfl rfl rfl (nb rfl) rfl rfl rfl rfl rfl (Nat.le_refl _) (Nat.zero_le _) rfl ?_ | refine iB tabOk rfl rfl rfl (nb rfl) rfl rfl rfl rfl ?_ | refine cN tabOk rfl rfl rfl (nb rfl) rfl rfl rfl rfl rfl rfl rfl (by first | omega | decide) rfl (by first | omega | (dsimp only; omega)) (by first | omega | (dsimp only; omega)) ?_ | refine bX rfl rfl rfl (nb rfl) rfl rfl (by omega) ?_ | refine cI tabOk rfl rfl rfl (nb rfl) rfl rfl rfl rfl rfl rfl rfl rfl rfl ?_ | refine aY tabOk rfl rfl (nb rfl) rfl ?_ | refine dC tabOk rfl rfl rfl (nb rfl) rfl rfl rfl rfl rfl rfl ?_ | refine bM tabOk rfl rfl rfl (nb rfl) rfl rfl rfl rfl ?_ | refine bP tabOk rfl rfl rfl rfl rfl rfl rfl rfl rfl rfl rfl ?_ | refine bH tabOk rfl rfl rfl (nb rfl) rfl rfl rfl rfl (by first | assumption | omega) ?_) | (refine aN ?_;  first | refine aH ?_ | refine aQ ?_ | refine bI ?_ | refine aX ?_ | refine aZ ?_ | refine aE (b := true) rfl (fun _ => ?_) nTf | refine aR mixed (by kernel_rfl) ?_) | (refine aM ?_;  first | refine bA ?_) | (refine aW ?_;  first | refine bS ?_) | refine bG (bF (by kernel_rfl)) ?_)
      refine ⟨⟨i + 1, hil, hik⟩, (by show l.length - (i + 1) < l.length - i; omega), ?_⟩
      dsimp only
      rw [hnx]
      exact (bW (by repeat' first | exact trivial | refine ⟨rfl, ?_⟩) (by repeat' first | exact trivial | refine ⟨rfl, ?_⟩))
    · have hfc : cellIV (fewCell c) = [IV.lit (.int .i64 c.k), .lit (.int .i64 c.n), .lit (.string (cutB 165 c.a)), .lit (.string (cutB 20 c.b)), .sl false (0 + (c.kids.take 12).length) (intIVs (c.kids.take 12))] := by
        unfold fewCell cellIV
        dsimp only
        rw [decide_eq_false hz, Nat.zero_add]
      have hkl : 0 < (c.kids.take 12).length := by rw [List.length_take]; omega
      have hkl2 : (c.kids.take 12).length ≤ 12 := by rw [List.length_take]; omega
      have hil2 := pL (c.kids.take 12)
      rw [hfc] at hnx
      repeat' (first | refine aG ?_ | (refine aI ?_;  first | refine aC tabOk rfl rfl rfl (nb rfl) rfl ?_ | (refine aK rfl rfl rfl (nb rfl) rfl rfl rfl (fun hq => ?_) (fun hq => ?_) <;> (first | (simp only [sD, sE, sB, sC, sN, sM, sT, sF] at hq; try (exfalso; omega)) | skip)) | refine eT tabOk rfl rfl rfl (nb rfl) rfl rfl rfl hrow rfl ?_ | refine dT rfl rfl rfl (nb rfl) rfl rfl (eE c.a.size 165) ?_ | refine dT rfl rfl rfl (nb rfl) rfl rfl (eE c.b.size 20) ?_ | refine eW (l := 0) (h := min c.a.size 165) (r := cutB 165 c.a) tabOk rfl rfl rfl (nb rfl) rfl rfl rfl rfl (by omega) (by omega) rfl ?_ | refine eW (l := 0) (h := min c.b.size 20) (r := cutB 20 c.b) tabOk rfl rfl rfl (nb rfl) rfl rfl rfl rfl (by omega) (by omega) rfl ?_ | refine dT rfl rfl rfl (nb rfl) rfl rfl (eE c.kids.length 12) ?_ | refine dQ (l := 0) (h := min c.kids.length 12) tabOk rfl rfl rfl (nb rfl) rfl rfl rfl rfl rfl (Nat.zero_le _) (by omega) hkc ?_ | refine fG (zs := intIVs (c.kids.take 12)) tabOk rfl rfl rfl (nb rfl) rfl rfl rfl rfl (.inl rfl) rfl rfl hkl (by rw [hil2]; exact (Nat.mul_one _).symm) (by omega) (by dsimp only; omega) rfl ?_ | refine cN tabOk rfl rfl rfl (nb rfl) rfl rfl rfl rfl rfl rfl rfl (by first | omega | decide) rfl (by first | omega | (dsimp only; omega)) (by first | omega | (dsimp only; omega)) ?_ | refine bX rfl rfl rfl (nb rfl) rfl rfl (by omega) ?_ | refine cI tabOk rfl rfl rfl (nb rfl) rfl rfl rfl rfl rfl rfl rfl rfl rfl ?_ | refine aY tabOk rfl rfl (nb rfl) rfl ?_ | refine dC tabOk rfl rfl rfl (nb rfl) rfl rfl rfl rfl rfl rfl ?_ | refine bM tabOk rfl rfl rfl (nb rfl) rfl rfl rfl rfl ?_ | refine bP tabOk rfl rfl rfl rfl rfl rfl rfl rfl rfl rfl rfl ?_ | refine bH tabOk rfl rfl rfl (nb rfl) rfl rfl rfl rfl (by first | assumption | omega) ?_) | (refine aN ?_;  first | refine aH ?_ | refine aQ ?_ | refine bI ?_ | refine aX ?_ | refine aZ ?_ | refine aE (b := true) rfl (fun _ => ?_) nTf | refine aR mixed (by kernel_rfl) ?_) | (refine aM ?_;  first | refine bA ?_) | (refine aW ?_;  first | refine bS ?_) | refine bG (bF (by kernel_rfl)) ?_)
      refine ⟨⟨i + 1, hil, hik⟩, (by show l.length - (i + 1) < l.length - i; omega), ?_⟩
      dsimp only
      rw [hnx]
      exact (bW (by repeat' first | exact trivial | refine ⟨rfl, ?_⟩) (by repeat' first | exact trivial | refine ⟨rfl, ?_⟩))
  · have htk : (l.take i).map fewCell = fewCells13 l := by
      unfold fewCells13
      congr 1
      by_cases hK : i = 80
      · rw [hK]
      · rw [List.take_of_length_le (by omega), List.take_of_length_le (by omega)]
    have hfl : i = (fewCells13 l).length := by rw [← htk, List.length_map, List.length_take]; omega
    rw [htk]
    refine cW ((Imp.of_le (σ' := S.f ⟨[(4, .imm (.lit (.int .i64 (i : Int)))), (3, .obj 3 0), (1, .imm (.ptr [.sl false l.length (cellIVs l)] 0))], [(500, .arr 41 5 (fewCells13 l).length (cellIVs (fewCells13 l))), (3, .cells [.ref 500 (fewCells13 l).length])]⟩) (by rw [← hfl]; exact (bW (by repeat' first | exact trivial | refine ⟨rfl, ?_⟩) (by repeat' first | exact trivial | refine ⟨rfl, ?_⟩)))).trans (cU (g := 500) rfl (by repeat' first | exact trivial | exact fun _ => rfl | refine ⟨?_, ?_⟩) (by repeat' first | exact trivial | exact fun _ => rfl | refine ⟨?_, ?_⟩))) ?_
    generalize fewCells13 l = L at *
    generalize openR L = R at *
    obtain ⟨R1, R2⟩ := R
    dsimp only at *
    repeat' (first | refine aG ?_ | (refine aI ?_;  first | refine aC tabOk rfl rfl rfl (nb rfl) rfl ?_ | refine cA rfl rfl (nb rfl) ?_ | (refine aK rfl rfl rfl (nb rfl) rfl rfl rfl (fun hq => ?_) (fun hq => ?_) <;> (first | (simp only [sD, sE, sB, sC, sN, sM, sT, sF] at hq; try (exfalso; omega)) | skip)) | refine aD rfl rfl (nb rfl) rfl rfl rfl rfl (hopen) ?_ | refine aY tabOk rfl rfl (nb rfl) rfl ?_ | refine bM tabOk rfl rfl rfl (nb rfl) rfl rfl rfl rfl ?_) | (refine aN ?_;  first | refine aH ?_ | refine aQ ?_ | refine aT ?_ | refine bY ?_ | refine aE (b := false) rfl nFt (fun _ => ?_)) | (refine aM ?_;  first | refine bA ?_ | refine bN ?_) | (refine aW ?_;  first | refine bJ ?_))
    all_goals first
      | exact dW (by first | exact .inl rfl | exact .inr rfl) (bC rfl (aA rfl)) rfl
      | (exfalso; omega)
def fewCells10 (l : List CellD) : List CellD := (l.take 60).map fewCell
set_option maxHeartbeats 16000000 in
set_option maxRecDepth 10000 in
theorem uT (l : List CellD) (hff : ∀ c ∈ l, c.f = false) : ACalls Tryz.prog 6 [.imm (.agg [.sl false l.length (cellIVs l)])] [] (.imm (openR (fewCells10 l)).1.iv) [] := by
  have hkids : ∀ c ∈ fewCells10 l, c.kids.length ≤ 8192 := fun c hc => by
    unfold fewCells10 at hc
    obtain ⟨d, _, rfl⟩ := List.mem_map.1 hc
    show (d.kids.take 12).length ≤ 8192
    rw [List.length_take]; omega
  have hopen := aAP (fewCells10 l) hkids
  refine aJ Tryz.func6 rfl rfl (nb rfl) rfl ?_
  repeat' (first | refine aG ?_ | (refine aI ?_;  first | refine aC tabOk rfl rfl rfl (nb rfl) rfl ?_ | refine aY tabOk rfl rfl (nb rfl) rfl ?_ | refine dC tabOk rfl rfl rfl (nb rfl) rfl rfl rfl rfl rfl rfl ?_) | (refine aN ?_;  first | refine aH ?_ | refine aQ ?_ | refine aX ?_))
  refine cW (eX (h0 := 3) (k0 := 0) 500 41 5 rfl rfl (by simp) rfl rfl) ?_
  refine cH (ι := {i : Nat // i ≤ l.length ∧ i ≤ 60}) (fun i => S.f ⟨[(4, .imm (.lit (.int .i64 (i.1 : Int)))), (3, .obj 3 0), (1, .imm (.ptr [.sl false l.length (cellIVs l)] 0))], [(500, .arr 41 5 i.1 (cellIVs ((l.take i.1).map fewCell))), (3, .cells [.ref 500 i.1])]⟩) (fun i => l.length - i.1) ⟨0, Nat.zero_le _, Nat.zero_le _⟩ (bW (by repeat' first | exact trivial | refine ⟨rfl, ?_⟩) (by repeat' first | exact trivial | refine ⟨rfl, ?_⟩)) ?_
  rintro ⟨i, hi, hiK⟩
  dsimp only
  by_cases hgo : i < l.length ∧ i < 60
  · obtain ⟨hil, hik⟩ := hgo
    have hrow := fD l i hil
    have hcf := hff l[i] (List.getElem_mem hil)
    have hnx : cellIVs ((l.take (i + 1)).map fewCell) = cellIVs ((l.take i).map fewCell) ++ cellIV (fewCell l[i]) := by
      rw [List.take_succ_eq_append_getElem hil, List.map_append, List.map_singleton, lT]
    generalize l[i] = c at *
    change _ = [IV.lit (.int .i64 c.k), .lit (.int .i64 c.n), .lit (.string c.a), .lit (.string c.b), .sl c.f c.kids.length (intIVs c.kids)] at hrow
    rw [hcf] at hrow
    have hkc := uR c.kids
    by_cases hz : c.kids.length = 0
    · have hk0 : c.kids = [] := List.eq_nil_of_length_eq_zero hz
      have hfc : cellIV (fewCell c) = [IV.lit (.int .i64 c.k), .lit (.int .i64 c.n), .lit (.string (cutB 165 c.a)), .lit (.string (cutB 20 c.b)), .sl true 0 []] := by
        unfold fewCell cellIV
        rw [hk0]
        rfl
      rw [hk0] at hrow hkc
      rw [hfc] at hnx
      repeat' (first | refine aG ?_ | (refine aI ?_;  first | refine aC tabOk rfl rfl rfl (nb rfl) rfl ?_ | (refine aK rfl rfl rfl (nb rfl) rfl rfl rfl (fun hq => ?_) (fun hq => ?_) <;> (first | (simp only [sD, sE, sB, sC, sN, sM, sT, sF] at hq; try (exfalso; omega)) | skip)) | refine eT tabOk rfl rfl rfl (nb rfl) rfl rfl rfl hrow rfl ?_ | refine dT rfl rfl rfl (nb rfl) rfl rfl (eE c.a.size 165) ?_ | refine dT rfl rfl rfl (nb rfl) rfl rfl (eE c.b.size 20) ?_ | refine dT (r := 0) rfl rfl rfl (nb rfl) rfl rfl rfl ?_ | refine eW (l := 0) (h := min c.a.size 165) (r := cutB 165 c.a) tabOk rfl rfl rfl (nb rfl) rfl rfl rfl rfl (by omega) (by omega) rfl ?_ | refine eW (l := 0) (h := min c.b.size 20) (r := cutB 20 c.b) tabOk rfl rfl rfl (nb rfl) rfl rfl rfl rfl (by omega) (by omega) rfl ?_ | refine dQ (l := 0) (h := 0) tabOk rfl rfl rfl (nb rfl) rfl rfl rfl rfl rfl (Nat.le_refl _) (Nat.zero_le _) rfl ?_ | refine iB tabOk rfl rfl rfl (nb rfl) rfl rfl rfl rfl ?_ | refine cN tabOk rfl rfl rfl (nb rfl) rfl rfl rfl rfl rfl rfl rfl (by first | omega | decide) rfl (by first | omega | (dsimp only; omega)) (by first | omega | (dsimp only; omega)) ?_ | refine bX rfl rfl rfl (nb rfl) rfl rfl (by omega) ?_ | refine cI tabOk rfl rfl rfl (nb rfl) rfl rfl rfl rfl rfl rfl rfl rfl rfl ?_ | refine aY tabOk rfl rfl (nb rfl) rfl ?_ | refine dC tabOk rfl rfl rfl (nb rfl) rfl rfl rfl rfl rfl rfl ?_ | refine bM tabOk rfl rfl rfl (nb rfl) rfl rfl rfl rfl ?_ | refine bP tabOk rfl rfl rfl rfl rfl rfl rfl rfl rfl rfl rfl ?_ | refine bH tabOk rfl rfl rfl (nb rfl) rfl rfl rfl rfl (by first | assumption | omega) ?_) | (refine aN ?_;  first | refine aH ?_ | refine aQ ?_ | refine bI ?_ | refine aX ?_ | refine aZ ?_ | refine aE (b := true) rfl (fun _ => ?_) nTf | refine aR mixed (by kernel_rfl) ?_) | (refine aM ?_;  first | refine bA ?_) | (refine aW ?_;  first | refine bS ?_) | refine bG (bF (by kernel_rfl)) ?_)
      refine ⟨⟨i + 1, hil, hik⟩, (by show l.length - (i + 1) < l.length - i; omega), ?_⟩
      dsimp only
      rw [hnx]
      exact (bW (by repeat' first | exact trivial | refine ⟨rfl, ?_⟩) (by repeat' first | exact trivial | refine ⟨rfl, ?_⟩))
    · have hfc : cellIV (fewCell c) = [IV.lit (.int .i64 c.k), .lit (.int .i64 c.n), .lit (.string (cutB 165 c.a)), .lit (.string (cutB 20 c.b)), .sl false (0 + (c.kids.take 12).length) (intIVs (c.kids.take 12))] := by
        unfold fewCell cellIV
        dsimp only
        rw [decide_eq_false hz, Nat.zero_add]
      have hkl : 0 < (c.kids.take 12).length := by rw [List.length_take]; omega
      have hkl2 : (c.kids.take 12).length ≤ 12 := by rw [List.length_take]; omega
      have hil2 := pL (c.kids.take 12)
      rw [hfc] at hnx
      repeat' (first | refine aG ?_ | (refine aI ?_;  first | refine aC tabOk rfl rfl rfl (nb rfl) rfl ?_ | (refine aK rfl rfl rfl (nb rfl) rfl rfl rfl (fun hq => ?_) (fun hq => ?_) <;> (first | (simp only [sD, sE, sB, sC, sN, sM, sT, sF] at hq; try (exfalso; omega)) | skip)) | refine eT tabOk rfl rfl rfl (nb rfl) rfl rfl rfl hrow rfl ?_ | refine dT rfl rfl rfl (nb rfl) rfl rfl (eE c.a.size 165) ?_ | refine dT rfl rfl rfl (nb rfl) rfl rfl (eE c.b.size 20) ?_ | refine eW (l := 0) (h := min c.a.size 165) (r := cutB 165 c.a) tabOk rfl rfl rfl (nb rfl) rfl rfl rfl rfl (by omega) (by omega) rfl ?_ | refine eW (l := 0) (h := min c.b.size 20) (r := cutB 20 c.b) tabOk rfl rfl rfl (nb rfl) rfl rfl rfl rfl (by omega) (by omega) rfl ?_ | refine dT rfl rfl rfl (nb rfl) rfl rfl (eE c.kids.length 12) ?_ | refine dQ (l := 0) (h := min c.kids.length 12) tabOk rfl rfl rfl (nb rfl) rfl rfl rfl rfl rfl (Nat.zero_le _) (by omega) hkc ?_ | refine fG (zs := intIVs (c.kids.take 12)) tabOk rfl rfl rfl (nb rfl) rfl rfl rfl rfl (.inl rfl) rfl rfl hkl (by rw [hil2]; exact (Nat.mul_one _).symm) (by omega) (by dsimp only; omega) rfl ?_ | refine cN tabOk rfl rfl rfl (nb rfl) rfl rfl rfl rfl rfl rfl rfl (by first | omega | decide) rfl (by first | omega | (dsimp only; omega)) (by first | omega | (dsimp only; omega)) ?_ | refine bX rfl rfl rfl (nb rfl) rfl rfl (by omega) ?_ | refine cI tabOk rfl rfl rfl (nb rfl) rfl rfl rfl rfl rfl rfl rfl rfl rfl ?_ | refine aY tabOk rfl rfl (nb rfl) rfl ?_ | refine dC tabOk rfl rfl rfl (nb rfl) rfl rfl rfl rfl rfl rfl ?_ | refine bM tabOk rfl rfl rfl (nb rfl) rfl rfl rfl rfl ?_ | refine bP tabOk rfl rfl rfl rfl rfl rfl rfl rfl rfl rfl rfl ?_ | refine bH tabOk rfl rfl rfl (nb rfl) rfl rfl rfl rfl (by first | assumption | omega) ?_) | (refine aN ?_;  first | refine aH ?_ | refine aQ ?_ | refine bI ?_ | refine aX ?_ | refine aZ ?_ | refine aE (b := true) rfl (fun _ => ?_) nTf | refine aR mixed (by kernel_rfl) ?_) | (refine aM ?_;  first | refine bA ?_) | (refine aW ?_;  first | refine bS ?_) | refine bG (bF (by kernel_rfl)) ?_)
      refine ⟨⟨i + 1, hil, hik⟩, (by show l.length - (i + 1) < l.length - i; omega), ?_⟩
      dsimp only
      rw [hnx]
      exact (bW (by repeat' first | exact trivial | refine ⟨rfl, ?_⟩) (by repeat' first | exact trivial | refine ⟨rfl, ?_⟩))
  · have htk : (l.take i).map fewCell = fewCells10 l := by
      unfold fewCells10
      congr 1
      by_cases hK : i = 60
      · rw [hK]
      · rw [List.take_of_length_le (by omega), List.take_of_length_le (by omega)]
    have hfl : i = (fewCells10 l).length := by rw [← htk, List.length_map, List.length_take]; omega
    rw [htk]
    refine cW ((Imp.of_le (σ' := S.f ⟨[(4, .imm (.lit (.int .i64 (i : Int)))), (3, .obj 3 0), (1, .imm (.ptr [.sl false l.length (cellIVs l)] 0))], [(500, .arr 41 5 (fewCells10 l).length (cellIVs (fewCells10 l))), (3, .cells [.ref 500 (fewCells10 l).length])]⟩) (by rw [← hfl]; exact (bW (by repeat' first | exact trivial | refine ⟨rfl, ?_⟩) (by repeat' first | exact trivial | refine ⟨rfl, ?_⟩)))).trans (cU (g := 500) rfl (by repeat' first | exact trivial | exact fun _ => rfl | refine ⟨?_, ?_⟩) (by repeat' first | exact trivial | exact fun _ => rfl | refine ⟨?_, ?_⟩))) ?_
    generalize fewCells10 l = L at *
    generalize openR L = R at *
    obtain ⟨R1, R2⟩ := R
    dsimp only at *
    repeat' (first | refine aG ?_ | (refine aI ?_;  first | refine aC tabOk rfl rfl rfl (nb rfl) rfl ?_ | refine cA rfl rfl (nb rfl) ?_ | (refine aK rfl rfl rfl (nb rfl) rfl rfl rfl (fun hq => ?_) (fun hq => ?_) <;> (first | (simp only [sD, sE, sB, sC, sN, sM, sT, sF] at hq; try (exfalso; omega)) | skip)) | refine aD rfl rfl (nb rfl) rfl rfl rfl rfl (hopen) ?_ | refine aY tabOk rfl rfl (nb rfl) rfl ?_ | refine bM tabOk rfl rfl rfl (nb rfl) rfl rfl rfl rfl ?_) | (refine aN ?_;  first | refine aH ?_ | refine aQ ?_ | refine aT ?_ | refine bY ?_ | refine aE (b := false) rfl nFt (fun _ => ?_)) | (refine aM ?_;  first | refine bA ?_ | refine bN ?_) | (refine aW ?_;  first | refine bJ ?_))
    all_goals first
      | exact dW (by first | exact .inl rfl | exact .inr rfl) (bC rfl (aA rfl)) rfl
      | (exfalso; omega)
end Go.Proofs.YtocaohipfiapkaaGreat.Ab
namespace Go.Proofs.YtocaohipfiapkaaGreat.Ab
set_option linter.unusedVariables false
set_option linter.unusedSimpArgs false
open Go.RowKit
theorem pM (l : List CellD) (hb : below l) : ∀ (f f' i : Nat), i < f → i < f' → i < l.length → growT l f i = growT l f' i
  | 0, _, _, h, _, _ => by omega
  | f + 1, 0, _, _, h, _ => by omega
  | f + 1, f' + 1, i, h, h', hi => by
    rw [growT, growT, List.getElem?_eq_getElem hi]
    dsimp only
    congr 1
    refine List.map_congr_left fun x hx => ?_
    have := hb i hi x hx
    exact pM l hb f f' x.toNat (by omega) (by omega) (by omega)
theorem nH (l : List CellD) (hb : below l) : ∀ (f i : Nat), i < f → i < l.length → (growT l f i).whole = true
  | 0, _, h, _ => by omega
  | f + 1, i, h, hi => by
    rw [growT, List.getElem?_eq_getElem hi]
    show Tree.wholes (List.map _ _) = true
    have key : ∀ ks : List Int, (∀ x ∈ ks, 0 ≤ x ∧ x < (i : Int)) → Tree.wholes (ks.map fun x => growT l f x.toNat) = true := by
      intro ks
      induction ks with
      | nil => intro _; rfl
      | cons x ks ih =>
        intro hk
        have hx := hk x List.mem_cons_self
        rw [List.map_cons, Tree.wholes, nH l hb f x.toNat (by omega) (by omega), ih (fun y hy => hk y (List.mem_cons_of_mem _ hy))]
        rfl
    exact key _ (hb i hi)
theorem rG : ∀ ts : List Tree, Tree.sizes ts = (ts.map Tree.size).sum
  | [] => rfl
  | t :: ts => by rw [Tree.sizes, rG ts]; simp
theorem wW (l : List CellD) (hb : below l) (i : Nat) (hi : i < l.length) : (growT l l.length i).size = 1 + (l[i].kids.map fun x => (growT l l.length x.toNat).size).sum := by
  obtain ⟨f, hf⟩ : ∃ f, l.length = f + 1 := ⟨l.length - 1, by omega⟩
  conv => lhs; rw [hf]
  rw [growT, List.getElem?_eq_getElem hi]
  show 1 + Tree.sizes (List.map _ _) = _
  rw [rG, List.map_map]
  congr 2
  refine List.map_congr_left fun x hx => ?_
  have := hb i hi x hx
  show (growT l f x.toNat).size = _
  rw [pM l hb f l.length x.toNat (by omega) (by omega) (by omega)]
theorem xY (l : List CellD) (hb : below l) : ∀ n, n ≤ l.length → ((List.range n).map fun i => (growT l l.length i).size).sum = n + ((allK (l.take n)).map fun x => (growT l l.length x.toNat).size).sum
  | 0, _ => by simp [allK]
  | n + 1, h => by
    rw [List.range_succ, List.map_append, List.sum_append, xY l hb n (by omega), rE l n (by omega), List.map_append, List.sum_append, List.map_singleton, List.sum_singleton, wW l hb n (by omega)]
    omega
theorem aAQ (l : List CellD) (x : Int) (h : x ∈ allK l) : ∃ i, ∃ hi : i < l.length, x ∈ l[i].kids := by
  induction l with
  | nil => cases h
  | cons c l ih =>
    rw [allK, List.mem_append] at h
    rcases h with h | h
    · exact ⟨0, by simp, h⟩
    · obtain ⟨i, hi, hx⟩ := ih h
      exact ⟨i + 1, by simpa using hi, by simpa using hx⟩
theorem zO (l : List CellD) (hb : below l) (ho : once l) : List.Perm (allK l) ((List.range (l.length - 1)).map fun (j : Nat) => (j : Int)) := by
  rw [List.perm_iff_count]
  intro a
  by_cases h : 0 ≤ a ∧ a < ((l.length - 1 : Nat) : Int)
  · obtain ⟨j, rfl⟩ : ∃ j : Nat, a = (j : Int) := ⟨a.toNat, by omega⟩
    rw [ho j (by omega)]
    have hn : ((List.range (l.length - 1)).map fun (j : Nat) => (j : Int)).Nodup := by
      rw [List.nodup_iff_pairwise_ne, List.pairwise_map]
      exact List.nodup_range.imp (fun h1 h2 => h1 (by omega))
    rw [hn.count, if_pos]
    exact List.mem_map.2 ⟨j, List.mem_range.2 (by omega), rfl⟩
  · rw [List.count_eq_zero.2, List.count_eq_zero.2]
    · intro hm
      obtain ⟨j, hj, rfl⟩ := List.mem_map.1 hm
      rw [List.mem_range] at hj
      exact h ⟨by omega, by omega⟩
    · intro hm
      obtain ⟨i, hi, hx⟩ := aAQ l a hm
      have := hb i hi a hx
      exact h ⟨this.1, by omega⟩
theorem zP (l : List CellD) (hb : below l) (ho : once l) (h0 : 0 < l.length) : (growT l l.length (l.length - 1)).size = l.length := by
  have h1 := xY l hb l.length (Nat.le_refl _)
  rw [List.take_length] at h1
  have h2 := ((zO l hb ho).map (fun x => (growT l l.length x.toNat).size)).sum_nat
  rw [h2, List.map_map] at h1
  obtain ⟨n, hn⟩ : ∃ n, l.length = n + 1 := ⟨l.length - 1, by omega⟩
  have e : l.length - 1 = n := by omega
  rw [e] at h1 ⊢
  have h3 : (List.range l.length) = List.range n ++ [n] := by rw [hn, List.range_succ]
  rw [h3, List.map_append, List.sum_append, List.map_singleton, List.sum_singleton] at h1
  have h4 : ((fun x : Int => (growT l l.length x.toNat).size) ∘ fun (j : Nat) => (j : Int)) = fun i => (growT l l.length i).size := rfl
  rw [h4] at h1
  omega
theorem uU (l : List CellD) (A B : Nat) (hb : below l) (hc : ∀ c ∈ l, c.a.size ≤ A ∧ c.b.size ≤ B) : ∀ (f i : Nat), i < f → i < l.length → (growT l f i).wt ≤ (1 + A + B) * (growT l f i).size
  | 0, _, h, _ => by omega
  | f + 1, i, h, hi => by
    rw [growT, List.getElem?_eq_getElem hi]
    dsimp only
    have h1 := hc l[i] (List.getElem_mem hi)
    have key : ∀ ks : List Int, (∀ x ∈ ks, 0 ≤ x ∧ x < (i : Int)) → Tree.wts (ks.map fun x => growT l f x.toNat) ≤ (1 + A + B) * Tree.sizes (ks.map fun x => growT l f x.toNat) := by
      intro ks
      induction ks with
      | nil => intro _; exact Nat.zero_le _
      | cons x ks ih =>
        intro hk
        have hx := hk x List.mem_cons_self
        have h2 := uU l A B hb hc f x.toNat (by omega) (by omega)
        have h3 := ih (fun y hy => hk y (List.mem_cons_of_mem _ hy))
        rw [List.map_cons, Tree.wts, Tree.sizes, Nat.mul_add]
        omega
    have h4 := key _ (hb i hi)
    rw [Tree.wt, Tree.size, Nat.mul_add]
    omega
theorem pN (L : List CellD) (A B : Nat) (hc : ∀ c ∈ L, c.a.size ≤ A ∧ c.b.size ≤ B) : (openR L).1 = .nil ∨ ((openR L).1.whole = true ∧ (openR L).1.size ≤ L.length ∧ (openR L).1.wt ≤ (1 + A + B) * L.length) := by
  unfold openR
  split
  · exact .inl rfl
  · split
    · exact .inl rfl
    · split
      · rename_i h0 h1 h
        obtain ⟨hb, ho⟩ := h
        have hs := zP L hb ho (by omega)
        have hw := uU L A B hb hc L.length (L.length - 1) (by omega) (by omega)
        rw [hs] at hw
        exact .inr ⟨nH L hb _ _ (by omega) (by omega), by rw [hs]; exact Nat.le_refl _, hw⟩
      · exact .inl rfl
theorem uV (K : Nat) (l : List CellD) : ∀ c ∈ (l.take K).map fewCell, c.a.size ≤ 165 ∧ c.b.size ≤ 20 := fun c hc => by
  obtain ⟨d, _, rfl⟩ := List.mem_map.1 hc
  exact ⟨rF _ _, rF _ _⟩
theorem wX (l : List CellD) (hff : ∀ c ∈ l, c.f = false) : ∃ t : Tree, (t = .nil ∨ (t.whole = true ∧ t.size ≤ 80 ∧ t.wt ≤ 14880)) ∧ ACalls Tryz.prog 5 [.imm (.agg [.sl false l.length (cellIVs l)])] [] (.imm t.iv) [] := by
  refine ⟨_, ?_, uS l hff⟩
  rcases pN (fewCells13 l) 165 20 (uV 80 l) with h | ⟨h1, h2, h3⟩
  · exact .inl h
  · have hl : (fewCells13 l).length ≤ 80 := by unfold fewCells13; rw [List.length_map, List.length_take]; omega
    exact .inr ⟨h1, by omega, by omega⟩
theorem wY (l : List CellD) (hff : ∀ c ∈ l, c.f = false) : ∃ t : Tree, (t = .nil ∨ (t.whole = true ∧ t.size ≤ 60 ∧ t.wt ≤ 11160)) ∧ ACalls Tryz.prog 6 [.imm (.agg [.sl false l.length (cellIVs l)])] [] (.imm t.iv) [] := by
  refine ⟨_, ?_, uT l hff⟩
  rcases pN (fewCells10 l) 165 20 (uV 60 l) with h | ⟨h1, h2, h3⟩
  · exact .inl h
  · have hl : (fewCells10 l).length ≤ 60 := by unfold fewCells10; rw [List.length_map, List.length_take]; omega
    exact .inr ⟨h1, by omega, by omega⟩
abbrev tyCell : Ty := .struct [.int .i64, .int .i64, .string, .string, .slice (.int .i64)]
abbrev tyTree : Ty := .struct [.slice tyCell]
theorem rH : ∀ (xs : List (List IV)), (∀ x ∈ xs, Fits (.int .i64) x) → ∃ l : List Int, l.length = xs.length ∧ xs.flatten = intIVs l
  | [], h => ⟨[], rfl, rfl⟩
  | x :: xs, h => by
    obtain ⟨l, h1, h2⟩ := rH xs (fun y hy => h y (List.mem_cons_of_mem _ hy))
    cases h x List.mem_cons_self with
    | int k n hn => exact ⟨n :: l, by simp [h1], by rw [List.flatten_cons, h2]; rfl⟩
theorem zQ {x : List IV} (h : Fits tyCell x) : ∃ c : CellD, c.f = false ∧ x = cellIV c := by
  cases h with
  | struct fs xs h =>
    cases h with
    | cons t ts x xs h1 h =>
      cases h1 with
      | int k n hn =>
        cases h with
        | cons t ts x xs h2 h =>
          cases h2 with
          | int k n2 hn2 =>
            cases h with
            | cons t ts x xs h3 h =>
              cases h3 with
              | string a ha =>
                cases h with
                | cons t ts x xs h4 h =>
                  cases h4 with
                  | string b hb =>
                    cases h with
                    | cons t ts x xs h5 h =>
                      cases h
                      cases h5 with
                      | slice e ys hy hys =>
                        obtain ⟨l, hl1, hl2⟩ := rH ys hys
                        refine ⟨⟨false, n, n2, a, b, l⟩, rfl, ?_⟩
                        rw [hl2, ← hl1]
                        rfl
theorem pO : ∀ (xs : List (List IV)), (∀ x ∈ xs, Fits tyCell x) → ∃ l : List CellD, l.length = xs.length ∧ xs.flatten = cellIVs l ∧ ∀ c ∈ l, c.f = false
  | [], h => ⟨[], rfl, rfl, fun c hc => by cases hc⟩
  | x :: xs, h => by
    obtain ⟨l, h1, h2, h3⟩ := pO xs (fun y hy => h y (List.mem_cons_of_mem _ hy))
    obtain ⟨c, hc, rfl⟩ := zQ (h x List.mem_cons_self)
    refine ⟨c :: l, by simp [h1], by rw [List.flatten_cons, h2]; rfl, fun d hd => ?_⟩
    rcases List.mem_cons.1 hd with rfl | hd
    · exact hc
    · exact h3 d hd
theorem mJ {x : IV} (h : FitsV tyTree x) : ∃ l : List CellD, x = .agg [.sl false l.length (cellIVs l)] ∧ ∀ c ∈ l, c.f = false := by
  obtain ⟨xs, rfl, h⟩ := h
  cases h with
  | struct fs xs h =>
    cases h with
    | cons t ts x xs h1 h =>
      cases h
      cases h1 with
      | slice e ys hy hys =>
        obtain ⟨l, h1, h2, h3⟩ := pO ys hys
        exact ⟨l, by rw [h2, ← h1]; rfl, h3⟩
end Go.Proofs.YtocaohipfiapkaaGreat.Ab
namespace Go.Proofs.YtocaohipfiapkaaGreat.Ab
set_option linter.unusedVariables false
set_option linter.unusedSimpArgs false
open Go.RowKit
attribute [local irreducible] AWP AOps AExit AThen ABlock ANoGoto FeetOk
instance : DecidableEq Tree := fun a b => decidable_of_iff (sameP a b = true) (rD a b)
abbrev lt : ByteArray := ⟨#[116, 58, 116]⟩
end Go.Proofs.YtocaohipfiapkaaGreat.Ab
namespace Go.Proofs.YtocaohipfiapkaaGreat.Ab
set_option linter.unusedVariables false
set_option linter.unusedSimpArgs false
open Go.RowKit
attribute [local irreducible] AWP AOps AExit AThen ABlock ANoGoto FeetOk
end Go.Proofs.YtocaohipfiapkaaGreat.Ab
namespace Go.Proofs.YtocaohipfiapkaaGreat.Ab
set_option linter.unusedVariables false
set_option linter.unusedSimpArgs false
open Go.RowKit
attribute [local irreducible] AWP AOps AExit AThen ABlock ANoGoto FeetOk
end Go.Proofs.YtocaohipfiapkaaGreat.Ab
namespace Go.Proofs.YtocaohipfiapkaaGreat.Ab
set_option linter.unusedVariables false
set_option linter.unusedSimpArgs false
open Go.RowKit
attribute [local irreducible] AWP AOps AExit AThen ABlock ANoGoto FeetOk
end Go.Proofs.YtocaohipfiapkaaGreat.Ab
namespace Go.Proofs.YtocaohipfiapkaaGreat.Ab
set_option linter.unusedVariables false
set_option linter.unusedSimpArgs false
open Go.RowKit
attribute [local irreducible] AWP AOps AExit AThen ABlock ANoGoto FeetOk
end Go.Proofs.YtocaohipfiapkaaGreat.Ab
namespace Go.Proofs.YtocaohipfiapkaaGreat.Ab
set_option linter.unusedVariables false
set_option linter.unusedSimpArgs false
open Go.RowKit
attribute [local irreducible] AWP AOps AExit AThen ABlock ANoGoto FeetOk
theorem zR (t : Tree) : t.whole = true → ∀ l : Int, (t.size : Int) ≤ l → wholeP t l = (0, l - t.size) := by
  induction t using Tree.ind with
  | h1 => intro h; simp [Tree.whole] at h
  | h2 k n a b kids ih =>
    intro h l hl
    have hz : (Tree.node k n a b kids).size = 1 + Tree.sizes kids := rfl
    rw [wholeP, if_neg (by omega)]
    have key : ∀ (ts : List Tree), (∀ t ∈ ts, t ∈ kids) → ∀ l : Int, (Tree.sizes ts : Int) ≤ l → wholePs ts l = (0, l - Tree.sizes ts) := by
      intro ts
      induction ts with
      | nil => intro _ l _; simp [wholePs, Tree.sizes]
      | cons x ts ihs =>
        intro hm l hl
        rw [Tree.sizes] at hl
        have hx := ih x (hm x List.mem_cons_self) (bL h (hm x List.mem_cons_self)) l (by omega)
        rw [wholePs, hx, if_pos rfl, ihs (fun t ht => hm t (List.mem_cons_of_mem _ ht)) _ (by omega), Tree.sizes]
        congr 1
        omega
    rw [key kids (fun t ht => ht) _ (by omega), hz]
    congr 1
    omega
theorem rI (form : Tree → Bool) (t : Tree) (h : t.whole = true) (hs : t.size ≤ 65536) : checkP form t = if form t = true then 0 else 16 := by
  unfold checkP
  rw [zR t h 65536 (by omega), if_pos rfl]
end Go.Proofs.YtocaohipfiapkaaGreat.Ab
namespace Go.Proofs.YtocaohipfiapkaaGreat.Ab
set_option linter.unusedVariables false
set_option linter.unusedSimpArgs false
open Go.RowKit
attribute [local irreducible] AWP AOps AExit AThen ABlock ANoGoto FeetOk
end Go.Proofs.YtocaohipfiapkaaGreat.Ab
namespace Go.Proofs.YtocaohipfiapkaaGreat.Ab
set_option linter.unusedVariables false
set_option linter.unusedSimpArgs false
open Go.RowKit
attribute [local irreducible] AWP AOps AExit AThen ABlock ANoGoto FeetOk
end Go.Proofs.YtocaohipfiapkaaGreat.Ab
namespace Go.Proofs.YtocaohipfiapkaaGreat.Ab
set_option linter.unusedVariables false
set_option linter.unusedSimpArgs false
open Go.RowKit
attribute [local irreducible] AWP AOps AExit AThen ABlock ANoGoto FeetOk
end Go.Proofs.YtocaohipfiapkaaGreat.Ab
namespace Go.Proofs.YtocaohipfiapkaaGreat.Ab
set_option linter.unusedVariables false
set_option linter.unusedSimpArgs false
open Go.RowKit
attribute [local irreducible] AWP AOps AExit AThen ABlock ANoGoto FeetOk
section
variable {P : Program} {T : Tab} {keep : List Nat} {N : Nat} {ops : Array Oper} {K : List Foot → SF → Prop} {o : Oper} {rest : List Oper} {ks : List Foot} {s : List (Nat × AV)} {m : Mem} {d : Nat}
/-- A boxed value, by a name that was reserved. -/
theorem zS (g : Nat) {t : Nat} {x : Operand} {y : AV} (ho : o.op = .box t x) (hw : wantedA ops o (S.f ⟨s, m⟩) = some true) (hd : o.dst = some d) (hN : d < N) (hx : (S.f ⟨s, m⟩).ev x = some y) (h1 : y.cells.all AV.one = true) (hg : m.get g = some .fut) (hy : (AV.namesL y.cells).contains g = false)
    {cs : List AV} (hcs : y.cells = cs) (k : AOps P keep N ops K rest (⟨[g], false, false⟩ :: ks) (S.f ⟨(d, .obj g 0) :: s, m.put g (.cells cs)⟩)) : AOps P keep N ops K (o :: rest) ks (S.f ⟨s, m⟩) := by
  subst hcs
  exact jA hw hd hN (kT g ho hx h1 (by simpa using hy)).fut hg k
end
section
variable {σ : Type} (V : Int → Int → σ → Tree × σ) (B : σ → Prop)
theorem rJ {k : Int} (n d : Int) (s : σ) {a b : ByteArray} (kids : List Tree) (hk : ¬ k = 110) : walkS V (.node k n a b kids) d s = (.node k n a b (walkSs V kids (d + bindsP k) s).1, (walkSs V kids (d + bindsP k) s).2) := by
  by_cases h : kids.length = 0
  · have e0 : kids = [] := List.eq_nil_of_length_eq_zero h
    subst e0
    rw [fY _ _ _ _ hk, gA]
  · rw [fZ _ _ _ _ hk h]
end
/-- What is told of what was made anew: it, or nil. -/
def told (R : Tree × Bool) : Tree := if R.2 = true then R.1 else .nil
end Go.Proofs.YtocaohipfiapkaaGreat.Ab
namespace Go.Proofs.YtocaohipfiapkaaGreat.Ab
set_option linter.unusedVariables false
set_option linter.unusedSimpArgs false
open Go.RowKit
attribute [local irreducible] AWP AOps AExit AThen ABlock ANoGoto FeetOk
end Go.Proofs.YtocaohipfiapkaaGreat.Ab
namespace Go.Proofs.YtocaohipfiapkaaGreat.Ab
set_option linter.unusedVariables false
set_option linter.unusedSimpArgs false
open Go.RowKit
attribute [local irreducible] AWP AOps AExit AThen ABlock ANoGoto FeetOk
mutual
/-- How often a variable stands in a tree, within so many binders. -/
def cntP (i : Int) : Tree → Int → Nat
  | .nil, _ => 0
  | .node k n _ _ kids, d => (if k = 110 ∧ d ≤ n ∧ n - d = i then 1 else 0) + cntPs i kids (d + bindsP k)
def cntPs (i : Int) : List Tree → Int → Nat
  | [], _ => 0
  | t :: ts, d => cntP i t d + cntPs i ts d
end
end Go.Proofs.YtocaohipfiapkaaGreat.Ab
namespace Go.Proofs.YtocaohipfiapkaaGreat.Ab
set_option linter.unusedVariables false
set_option linter.unusedSimpArgs false
open Go.RowKit
attribute [local irreducible] AWP AOps AExit AThen ABlock ANoGoto FeetOk
end Go.Proofs.YtocaohipfiapkaaGreat.Ab
namespace Go.Proofs.YtocaohipfiapkaaGreat.Ab
set_option linter.unusedVariables false
set_option linter.unusedSimpArgs false
open Go.RowKit
attribute [local irreducible] AWP AOps AExit AThen ABlock ANoGoto FeetOk
end Go.Proofs.YtocaohipfiapkaaGreat.Ab
namespace Go.Proofs.YtocaohipfiapkaaGreat.Ab
set_option linter.unusedVariables false
set_option linter.unusedSimpArgs false
open Go.RowKit
attribute [local irreducible] AWP AOps AExit AThen ABlock ANoGoto FeetOk
end Go.Proofs.YtocaohipfiapkaaGreat.Ab
namespace Go.Proofs.YtocaohipfiapkaaGreat.Ab
set_option linter.unusedVariables false
set_option linter.unusedSimpArgs false
mutual
/-- A tree with other variables: g of their numbers and of the binders around. -/
def mapV (g : Int → Int → Int) : Tree → Int → Tree
  | .nil, _ => .nil
  | .node k n a b kids, d => if k = 110 then varT (g n d) else .node k n a b (mapVs g kids (d + bindsP k))
def mapVs (g : Int → Int → Int) : List Tree → Int → List Tree
  | [], _ => []
  | t :: ts, d => mapV g t d :: mapVs g ts d
end
mutual
/-- Does it hold of each variable? -/
def allV (p : Int → Int → Bool) : Tree → Int → Bool
  | .nil, _ => true
  | .node k n _ _ kids, d => if k = 110 then p n d else allVs p kids (d + bindsP k)
def allVs (p : Int → Int → Bool) : List Tree → Int → Bool
  | [], _ => true
  | t :: ts, d => allV p t d && allVs p ts d
end
theorem rK (g : Int → Int → Int) (d : Int) : ∀ l : List Tree, mapVs g l d = l.map fun t => mapV g t d
  | [] => by rw [mapVs]; rfl
  | t :: ts => by rw [mapVs, rK g d ts]; rfl
theorem rL (p : Int → Int → Bool) (d : Int) : ∀ l : List Tree, allVs p l d = l.all fun t => allV p t d
  | [] => by rw [allVs]; rfl
  | t :: ts => by rw [allVs, rL p d ts]; rfl
theorem eA (g : Int → Int → Int) {k n : Int} {a b : ByteArray} {kids : List Tree} (d : Int) (hk : ¬ k = 110) : mapV g (.node k n a b kids) d = .node k n a b (kids.map fun t => mapV g t (d + bindsP k)) := by rw [mapV, if_neg hk, rK]
theorem jL (g : Int → Int → Int) {n : Int} {a b : ByteArray} {kids : List Tree} (d : Int) : mapV g (.node 110 n a b kids) d = varT (g n d) := by rw [mapV, if_pos rfl]
theorem dO (p : Int → Int → Bool) {k n : Int} {a b : ByteArray} {kids : List Tree} (d : Int) (hk : ¬ k = 110) : allV p (.node k n a b kids) d = kids.all fun t => allV p t (d + bindsP k) := by rw [allV, if_neg hk, rL]
theorem gB (p : Int → Int → Bool) {n : Int} {a b : ByteArray} {kids : List Tree} (d : Int) : allV p (.node 110 n a b kids) d = p n d := by rw [allV, if_pos rfl]
theorem aAR (p : Int → Int → Bool) (h : Int → Int → Int) (e : Int) (t : Tree) : ∀ d, allV p (mapV h t d) (d + e) = allV (fun n x => p (h n x) (x + e)) t d := by
  induction t using Tree.ind with
  | h1 => intro d; rw [mapV, allV, allV]
  | h2 k n a b kids ih =>
    intro d
    by_cases hk : k = 110
    · subst hk
      rw [jL, gB]
      exact gB _ _
    · rw [eA _ _ hk, dO _ _ hk, dO _ _ hk, List.all_map]
      refine Bool.eq_iff_iff.2 ?_
      rw [List.all_eq_true, List.all_eq_true]
      have key : ∀ t ∈ kids, allV p (mapV h t (d + bindsP k)) (d + e + bindsP k) = allV (fun n x => p (h n x) (x + e)) t (d + bindsP k) := fun t ht => by
        rw [show d + e + bindsP k = (d + bindsP k) + e by omega]
        exact ih t ht _
      exact ⟨fun h t ht => by rw [← key t ht]; exact h t ht, fun h t ht => by show allV p (mapV _ t _) _ = true; rw [key t ht]; exact h t ht⟩
theorem pP (p q : Int → Int → Bool) (t : Tree) : ∀ d, okVars t = true → allV p t d = true → (∀ n x, 0 ≤ n → n ≤ 65536 → d ≤ x → p n x = true → q n x = true) → allV q t d = true := by
  induction t using Tree.ind with
  | h1 => intro d h; simp [okVars] at h
  | h2 k n a b kids ih =>
    intro d hv hp hg
    by_cases hk : k = 110
    · subst hk
      obtain ⟨q1, q2, _⟩ := dS rfl hv
      rw [gB] at hp ⊢
      exact hg n d q1 q2 (Int.le_refl _) hp
    · have hvs := dM hk hv
      have hb := fT k
      rw [dO _ _ hk, List.all_eq_true] at hp ⊢
      exact fun t ht => ih t ht _ (hvs t ht) (hp t ht) fun n x h1 h2 h3 h4 => hg n x h1 h2 (by omega) h4
theorem zT (g : Int → Int → Int) (t : Tree) : ∀ d, okVars t = true → (mapV g t d).size = t.size := by
  induction t using Tree.ind with
  | h1 => intro d h; simp [okVars] at h
  | h2 k n a b kids ih =>
    intro d hv
    by_cases hk : k = 110
    · obtain ⟨_, _, rfl, rfl, rfl⟩ := dS hk hv
      subst hk
      rw [jL]; rfl
    · have hvs := dM hk hv
      rw [eA _ _ hk, Tree.size, Tree.size]
      congr 1
      have key : ∀ l : List Tree, (∀ t ∈ l, t ∈ kids) → Tree.sizes (l.map fun t => mapV g t (d + bindsP k)) = Tree.sizes l := by
        intro l
        induction l with
        | nil => intro _; rfl
        | cons t ts ih2 =>
          intro hm
          rw [List.map_cons, Tree.sizes, Tree.sizes, ih t (hm t (by simp)) _ (hvs t (hm t (by simp))), ih2 fun t' h' => hm t' (by simp [h'])]
      exact key kids fun _ h => h
theorem wZ (g : Int → Int → Int) (t : Tree) : ∀ d, t.whole = true → (mapV g t d).whole = true := by
  induction t using Tree.ind with
  | h1 => intro d h; simp [Tree.whole] at h
  | h2 k n a b kids ih =>
    intro d hw
    by_cases hk : k = 110
    · subst hk
      rw [jL]; rfl
    · rw [eA _ _ hk]
      refine rB fun u hu => ?_
      obtain ⟨t, ht, rfl⟩ := List.mem_map.1 hu
      exact ih t ht _ (bL hw ht)
theorem zU (g : Int → Int → Int) (t : Tree) (d : Int) (hk : t.kind ≠ 110) : (mapV g t d).name = t.name := by
  cases t with
  | nil => rw [mapV]
  | node k n a b kids =>
    have hk : ¬ k = 110 := hk
    rw [eA _ _ hk]; rfl
theorem pQ (f : Tree → Tree) : ∀ l : List Tree, (∀ t ∈ l, (f t).name = t.name) → risingP (l.map f) = risingP l
  | [], _ => rfl
  | [t], _ => by simp [risingP]
  | t :: u :: r, h => by
    have ih := pQ f (u :: r) fun t' h' => h t' (by simp [h'])
    rw [List.map_cons] at ih
    rw [List.map_cons, List.map_cons, risingP, risingP, h t (by simp), h u (by simp), ih]
theorem lU (f : Tree → Tree) : ∀ l : List Tree, (∀ t ∈ l, (f t).name = t.name) → distinctP (l.map f) = distinctP l
  | [], _ => rfl
  | t :: r, h => by
    have ih := lU f r fun t' h' => h t' (by simp [h'])
    have e : ((r.map f).any fun u => eqB u.name t.name) = (r.any fun u => eqB u.name t.name) := by
      rw [List.any_map]
      refine Bool.eq_iff_iff.2 ?_
      rw [List.any_eq_true, List.any_eq_true]
      exact ⟨fun ⟨u, h1, h2⟩ => ⟨u, h1, by have : eqB (f u).name t.name = true := h2; rwa [h u (by simp [h1])] at this⟩, fun ⟨u, h1, h2⟩ => ⟨u, h1, by show eqB (f u).name t.name = true; rw [h u (by simp [h1])]; exact h2⟩⟩
    rw [List.map_cons, distinctP, distinctP, h t (by simp), e, ih]
theorem zV (g : Int → Int → Int) (t : Tree) : ∀ d, isKindP t = true → mapV g t d = t := by
  induction t using Tree.ind with
  | h1 => intro d h; simp [isKindP] at h
  | h2 k n a b kids ih =>
    intro d h
    rw [isKindP] at h
    by_cases k0 : k = 100
    · rw [if_pos k0, Bool.and_eq_true] at h
      have e0 : kids = [] := List.eq_nil_of_length_eq_zero (by simpa using h.2)
      subst e0
      rw [eA _ _ (by omega)]; rfl
    · rw [if_neg k0] at h
      by_cases k1 : k = 101
      · rw [if_pos k1, Bool.and_eq_true, dR] at h
        rw [eA _ _ (by omega)]
        congr 1
        conv => rhs; rw [← List.map_id kids]
        refine List.map_congr_left fun t ht => ih t ht _ ?_
        have := List.all_eq_true.1 h.2 (isKindP t) (List.mem_map.2 ⟨t, ht, rfl⟩)
        simpa using this
      · rw [if_neg k1] at h; cases h
theorem zW (p : Int → Int → Bool) (t : Tree) : ∀ d, isKindP t = true → allV p t d = true := by
  induction t using Tree.ind with
  | h1 => intro d h; simp [isKindP] at h
  | h2 k n a b kids ih =>
    intro d h
    rw [isKindP] at h
    by_cases k0 : k = 100
    · rw [if_pos k0, Bool.and_eq_true] at h
      have e0 : kids = [] := List.eq_nil_of_length_eq_zero (by simpa using h.2)
      subst e0
      rw [dO _ _ (by omega)]; rfl
    · rw [if_neg k0] at h
      by_cases k1 : k = 101
      · rw [if_pos k1, Bool.and_eq_true, dR] at h
        rw [dO _ _ (by omega), List.all_eq_true]
        intro t ht
        refine ih t ht _ ?_
        have := List.all_eq_true.1 h.2 (isKindP t) (List.mem_map.2 ⟨t, ht, rfl⟩)
        simpa using this
      · rw [if_neg k1] at h; cases h
/-- A constructor stays one, where its variables stay within what may be. -/
theorem aAS (g : Int → Int → Int) (t : Tree) : ∀ d, isConP t = true → allV (fun n x => decide (0 ≤ g n x ∧ g n x ≤ 65536)) t d = true → isConP (mapV g t d) = true := by
  induction t using Tree.sind with
  | h t ih =>
    intro d h hp
    cases t with
    | nil => simp [isConP] at h
    | node k n a b kids =>
      rw [isConP, Bool.and_eq_true] at h
      obtain ⟨hb, h⟩ := h
      by_cases k0 : k = 110
      · subst k0
        rw [gB, decide_eq_true_eq] at hp
        rw [jL]
        unfold varT
        rw [isConP, if_pos rfl]
        have hbare : bareP (g n d) emptyB emptyB false ((110 : Int) == 110) = true := by
          unfold bareP
          rw [(dV _ _).2 rfl]
          simp
        rw [hbare, decide_eq_true (by omega : g n d ≥ 0), decide_eq_true hp.2]
        rfl
      · rw [dO _ _ k0, List.all_eq_true] at hp
        rw [eA _ _ k0, isConP, hb, if_neg k0]
        rw [if_neg k0] at h
        have kid : ∀ t ∈ kids, isConP t = true → isConP (mapV g t (d + bindsP k)) = true := fun t ht hc => ih t (bR ht) _ hc (hp t ht)
        have named : ∀ kind : Int, kind ≠ 110 → bindsP kind = 0 → ∀ t ∈ kids, okNamed kind t = true → okNamed kind (mapV g t (d + bindsP k)) = true ∧ (mapV g t (d + bindsP k)).name = t.name := fun kind hkd hbd t ht ho => by
          have hp1 := hp t ht
          have hz := bR (k := k) (n := n) (a := a) (b := b) ht
          cases t with
          | nil => simp [okNamed] at ho
          | node k' n' a' b' ks =>
            simp only [okNamed, Bool.and_eq_true, beq_iff_eq] at ho
            obtain ⟨⟨⟨rfl, h1⟩, h2⟩, h3⟩ := ho
            refine ⟨?_, zU _ _ _ hkd⟩
            by_cases hl : ks.length = 1
            · obtain ⟨c, rfl⟩ := one_of hl
              rw [dO _ _ hkd, List.all_eq_true] at hp1
              rw [eA _ _ hkd]
              simp only [okNamed, List.map_cons, List.map_nil, isCon1, Bool.and_eq_true, beq_iff_eq]
              have hz2 := bR (k := k') (n := n') (a := a') (b := b') (kids := [c]) (t := c) (by simp)
              exact ⟨⟨⟨trivial, h1⟩, h2⟩, ih c (by omega) _ (by simpa [isCon1] using h3) (hp1 c (by simp))⟩
            · rw [gZ hl] at h3; cases h3
        rw [Bool.true_and]
        by_cases k1 : k = 111 ∨ k = 112 ∨ k = 113
        · rw [if_pos k1] at h ⊢
          rw [List.length_map]; exact h
        · rw [if_neg k1] at h ⊢
          by_cases k2 : k = 114 ∨ k = 120
          · rw [if_pos k2, Bool.and_eq_true, iC] at h ⊢
            refine ⟨by rw [List.length_map]; exact h.1, ?_⟩
            rw [List.all_eq_true] at h ⊢
            intro u hu
            obtain ⟨t, ht, rfl⟩ := List.mem_map.1 hu
            exact kid t ht (h.2 t ht)
          · rw [if_neg k2] at h ⊢
            by_cases k3 : k = 115
            · rw [if_pos k3, Bool.and_eq_true, dF, List.all_eq_true] at h ⊢
              have hn := fun t ht => named 116 (by decide) (by decide) t ht (h.1 t ht)
              refine ⟨fun u hu => ?_, ?_⟩
              · obtain ⟨t, ht, rfl⟩ := List.mem_map.1 hu
                exact (hn t ht).1
              · rw [pQ _ _ fun t ht => (hn t ht).2]; exact h.2
            · rw [if_neg k3] at h ⊢
              by_cases k4 : k = 117 ∨ k = 118 ∨ k = 119
              · rw [if_pos k4] at h ⊢
                by_cases h2 : kids.length = 2
                · obtain ⟨x, y, rfl⟩ := two h2
                  simp only [isCon2, Bool.and_eq_true] at h
                  simp only [List.map_cons, List.map_nil, isCon2, Bool.and_eq_true]
                  exact ⟨by rw [zV _ _ _ h.1]; exact h.1, kid y (by simp) h.2⟩
                · rw [fQ h2] at h; cases h
              · rw [if_neg k4] at h ⊢
                by_cases k5 : k = 121
                · rw [if_pos k5, Bool.and_eq_true, Bool.and_eq_true, dF, List.all_eq_true] at h ⊢
                  have hn := fun t ht => named 122 (by decide) (by decide) t ht (h.1.2 t ht)
                  refine ⟨⟨by rw [List.length_map]; exact h.1.1, fun u hu => ?_⟩, ?_⟩
                  · obtain ⟨t, ht, rfl⟩ := List.mem_map.1 hu
                    exact (hn t ht).1
                  · rw [lU _ _ fun t ht => (hn t ht).2]; exact h.2
                · rw [if_neg k5] at h; cases h
/-- What Shift makes of a variable's number, and where it may. -/
def shG (b f : Int) (n d : Int) : Int := if n < d ∨ n - d < f then n else n + b
def okG (b f : Int) (n d : Int) : Bool := decide (n < d ∨ n - d < f ∨ (d - n ≤ b ∧ b ≤ 65536 - n))
theorem zX (b f n d : Int) (s : Bool) : (shiftV b f n d s).2 = (s && okG b f n d) ∧ ((s && okG b f n d) = true → (shiftV b f n d s).1 = varT (shG b f n d)) := by
  unfold shiftV okG shG
  by_cases h1 : n < d ∨ n - d < f
  · rw [if_pos h1, if_pos h1, decide_eq_true (by omega)]
    exact ⟨by simp, fun _ => rfl⟩
  · rw [if_neg h1, if_neg h1]
    by_cases h2 : s = true ∧ d - n ≤ b ∧ b ≤ 65536 - n
    · rw [if_pos h2, decide_eq_true (by omega), h2.1]
      exact ⟨rfl, fun _ => rfl⟩
    · rw [if_neg h2]
      have : (s && decide (n < d ∨ n - d < f ∨ (d - n ≤ b ∧ b ≤ 65536 - n))) = false := by
        cases s with
        | false => rfl
        | true =>
          rw [Bool.true_and, decide_eq_false_iff_not]
          intro h3
          exact h2 ⟨rfl, by omega⟩
      rw [this]
      exact ⟨rfl, fun h => by cases h⟩
theorem aAT (b f : Int) (t : Tree) : ∀ d s, okVars t = true → (walkS (shiftV b f) t d s).2 = (s && allV (okG b f) t d) ∧ ((s && allV (okG b f) t d) = true → (walkS (shiftV b f) t d s).1 = mapV (shG b f) t d) := by
  induction t using Tree.ind with
  | h1 => intro d s h; simp [okVars] at h
  | h2 k n a b' kids ih =>
    intro d s hv
    by_cases hk : k = 110
    · subst hk
      rw [fU, gB, jL]
      exact zX b f n d s
    · have hvs := dM hk hv
      rw [rJ _ _ _ _ kids hk, dO _ _ hk, eA _ _ hk]
      have key : ∀ l : List Tree, (∀ t ∈ l, t ∈ kids) → ∀ s, (walkSs (shiftV b f) l (d + bindsP k) s).2 = (s && l.all fun t => allV (okG b f) t (d + bindsP k)) ∧ ((s && l.all fun t => allV (okG b f) t (d + bindsP k)) = true → (walkSs (shiftV b f) l (d + bindsP k) s).1 = l.map fun t => mapV (shG b f) t (d + bindsP k)) := by
        intro l
        induction l with
        | nil => intro _ s; rw [walkSs]; simp
        | cons t ts ih2 =>
          intro hm s
          obtain ⟨g1, g2⟩ := ih t (hm t (by simp)) (d + bindsP k) s (hvs t (hm t (by simp)))
          obtain ⟨g3, g4⟩ := ih2 (fun t' h' => hm t' (by simp [h'])) (walkS (shiftV b f) t (d + bindsP k) s).2
          rw [walkSs, List.all_cons, List.map_cons]
          dsimp only
          rw [g1] at g3 g4
          rw [Bool.and_assoc] at g3 g4
          refine ⟨by rw [g1]; exact g3, fun h => ?_⟩
          rw [g1, g4 h]
          rw [← Bool.and_assoc, Bool.and_eq_true] at h
          rw [g2 h.1]
      obtain ⟨g1, g2⟩ := key kids (fun _ h => h) s
      exact ⟨g1, fun h => by dsimp only; rw [g2 h]⟩
theorem rM (t : Tree) (hc : checkP isConP t = 0) (b f : Int) (hf : 0 ≤ f) : shiftP t b f = if allV (okG b f) t 0 = true then (mapV (shG b f) t 0, 0) else (.nil, 2) := by
  obtain ⟨_, _, hcon⟩ := bQ hc
  obtain ⟨g1, g2⟩ := aAT b f t 0 true (dN t hcon)
  rw [Bool.true_and] at g1 g2
  unfold shiftP
  rw [if_pos hc, decide_eq_true hf, g1]
  by_cases h : allV (okG b f) t 0 = true
  · rw [if_pos h, if_pos h, g2 h]
  · rw [if_neg h, if_neg h]
theorem rN (c : Tree) (hc : checkP isConP c = 0) (b f : Int) (hf : 0 ≤ f) (h : (shiftP c b f).2 = 0) : isConP (shiftP c b f).1 = true := by
  obtain ⟨_, _, hcon⟩ := bQ hc
  rw [rM c hc b f hf] at h ⊢
  by_cases ha : allV (okG b f) c 0 = true
  · rw [if_pos ha]
    refine aAS _ c 0 hcon (pP _ _ c 0 (dN c hcon) ha fun n x h1 h2 h3 h4 => ?_)
    unfold okG at h4
    rw [decide_eq_true_eq] at h4 ⊢
    unfold shG
    split <;> omega
  · rw [if_neg ha] at h; cases h
end Go.Proofs.YtocaohipfiapkaaGreat.Ab
namespace Go.Proofs.YtocaohipfiapkaaGreat.Ab
set_option linter.unusedVariables false
set_option linter.unusedSimpArgs false
attribute [local irreducible] AWP AOps AExit AThen ABlock ANoGoto FeetOk
set_option maxHeartbeats 8000000 in
set_option maxRecDepth 10000 in
theorem aBF {σ : Type} (V : Int → Int → σ → Tree × σ) (F : FuncId) (X0 X1 : σ → IV) (J : σ → Prop)
    (hV : ∀ (n d : Int) s, J s → 0 ≤ n → n ≤ 65536 → 0 ≤ d → d ≤ 100000000 → ACalls Tryz.prog F ([.imm (varT n).iv, .imm (.lit (.int .i64 d)), .obj 1000 0, .obj 1001 0]) [(1000, .cells [.imm (X0 s)]), (1001, .cells [.imm (X1 s)])] (.imm (V n d s).1.iv) [(1000, .cells [.imm (X0 ((V n d s).2))]), (1001, .cells [.imm (X1 ((V n d s).2))])] ∧ J (V n d s).2 ∧ (V n d s).1 ≠ .nil) (t : Tree) :
    ∀ (d : Int) s, okVars t = true → t.whole = true → 0 ≤ d → d + t.size ≤ 100000000 → J s → ACalls Tryz.prog 72 [.imm t.iv, .imm (.lit (.int .i64 d)), .func F [] [.obj 1000 0, .obj 1001 0]] [(1000, .cells [.imm (X0 s)]), (1001, .cells [.imm (X1 s)])] (.imm (walkS V t d s).1.iv) [(1000, .cells [.imm (X0 ((walkS V t d s).2))]), (1001, .cells [.imm (X1 ((walkS V t d s).2))])] ∧ J (walkS V t d s).2 ∧ (walkS V t d s).1 ≠ .nil := by
  induction t using Tree.ind with
  | h1 => intro d s _ h; simp [Tree.whole] at h
  | h2 k n a b kids ih =>
    intro d s hv hw hd hs hJ
    have hl := cO kids hw
    have hsz : (Tree.node k n a b kids).size = 1 + Tree.sizes kids := by rw [Tree.size]
    rw [hsz] at hs
    by_cases k110 : k = 110
    · obtain ⟨q1, q2, rfl, rfl, rfl⟩ := dS k110 hv
      subst k110
      have hc := hV n d s hJ q1 q2 hd (by omega)
      rw [fU]
      refine ⟨?_, hc.2⟩
      have hc := hc.1
      generalize V n d s = R at *
      obtain ⟨R1, R2⟩ := R
      dsimp only at hc ⊢
      refine bZ [1000, 1001] Tryz.func72 rfl rfl (nb rfl) rfl rfl ?_
      repeat' (first | refine aG ?_ | (refine aI ?_;  first | refine aC tabOk rfl rfl rfl (nb rfl) rfl ?_ | (refine aK rfl rfl rfl (nb rfl) rfl rfl rfl (fun hq => ?_) (fun hq => ?_) <;> (first | (simp only [sD, sE, sB, sC, sN, sM, sT, sF] at hq; try (exfalso; omega)) | skip)) | refine cD rfl rfl (nb rfl) rfl rfl rfl rfl hc (by repeat' first | exact trivial | refine ⟨rfl, ?_⟩) rfl (by show ([1000, 1001] : List Nat).Nodup; decide) ?_) | (refine aN ?_;  first | refine aH ?_ | refine aQ ?_ | refine aT ?_ | refine aE (b := true) rfl (fun _ => ?_) nTf) | (refine aM ?_;  first | refine aV ?_))
      all_goals first
        | exact absurd rfl (by assumption)
        | (refine cG (cF (by first | exact .inl rfl | exact .inr rfl) (bC rfl (aA rfl)) rfl (by repeat' first | exact trivial | refine ⟨rfl, ?_⟩) rfl ?_); rfl)
    · by_cases hk0 : kids.length = 0
      · have e0 : kids = [] := List.eq_nil_of_length_eq_zero hk0
        subst e0
        rw [fY _ _ _ _ k110]
        refine ⟨?_, hJ, by simp⟩
        refine bZ [1000, 1001] Tryz.func72 rfl rfl (nb rfl) rfl rfl ?_
        repeat' (first | refine aG ?_ | (refine aI ?_;  first | refine aC tabOk rfl rfl rfl (nb rfl) rfl ?_ | (refine aK rfl rfl rfl (nb rfl) rfl rfl rfl (fun hq => ?_) (fun hq => ?_) <;> (first | (simp only [sD, sE, sB, sC, sN, sM, sT, sF] at hq; try (exfalso; omega)) | skip)) | refine aY tabOk rfl rfl (nb rfl) rfl ?_) | (refine aN ?_;  first | refine aH ?_ | refine aQ ?_ | refine aT ?_ | refine aZ ?_ | refine aE (b := true) rfl (fun _ => ?_) nTf | refine aE (b := false) rfl nFt (fun _ => ?_)) | (refine aM ?_;  first | refine bA ?_ | refine aV ?_))
        all_goals first
          | exact absurd rfl (by assumption)
          | exact absurd (by assumption) k110
          | (refine cG (cF (by first | exact .inl rfl | exact .inr rfl) (bC rfl (aA rfl)) rfl (by repeat' first | exact trivial | refine ⟨rfl, ?_⟩) rfl ?_); rfl)
      · rw [fZ _ _ _ _ k110 hk0]
        dsimp only
        have hb := fT k
        have hvs := dM k110 hv
        have hind : ∀ j (h : j < kids.length) s', J s' → ACalls Tryz.prog 72 [.imm kids[j].iv, .imm (.lit (.int .i64 (d + bindsP k))), .func F [] [.obj 1000 0, .obj 1001 0]] [(1000, .cells [.imm (X0 s')]), (1001, .cells [.imm (X1 s')])] (.imm (walkS V kids[j] (d + bindsP k) s').1.iv) [(1000, .cells [.imm (X0 ((walkS V kids[j] (d + bindsP k) s').2))]), (1001, .cells [.imm (X1 ((walkS V kids[j] (d + bindsP k) s').2))])] ∧ J (walkS V kids[j] (d + bindsP k) s').2 ∧ (walkS V kids[j] (d + bindsP k) s').1 ≠ .nil := fun j h s' hJ' => by
          have hm := List.getElem_mem h
          have hz := cY hm
          exact ih _ hm _ s' (hvs _ hm) (bL hw hm) (by omega) (by omega) hJ'
        clear ih
        have hJs : ∀ j, j ≤ kids.length → J (walkSs V (kids.take j) (d + bindsP k) s).2 := by
          intro j
          induction j with
          | zero => intro _; rw [List.take_zero, gA]; exact hJ
          | succ j ihj =>
            intro hj
            rw [eN V (d + bindsP k) s hj]
            exact (hind j hj _ (ihj (by omega))).2.1
        have hJe := hJs kids.length (Nat.le_refl _)
        rw [List.take_length] at hJe
        refine ⟨?_, hJe, by simp⟩
        clear hJe
        have cb := sW k n a b kids
        refine bZ [1000, 1001] Tryz.func72 rfl rfl (nb rfl) rfl rfl ?_
        repeat' (first | refine aG ?_ | (refine aI ?_;  first | refine aC tabOk rfl rfl rfl (nb rfl) rfl ?_ | (refine aK rfl rfl rfl (nb rfl) rfl rfl rfl (fun hq => ?_) (fun hq => ?_) <;> (first | (simp only [sD, sE, sB, sC, sN, sM, sT, sF] at hq; try (exfalso; omega)) | skip)) | refine aY tabOk rfl rfl (nb rfl) rfl ?_ | refine dC tabOk rfl rfl rfl (nb rfl) rfl rfl rfl rfl rfl rfl ?_ | refine bP tabOk rfl rfl rfl rfl rfl rfl rfl rfl rfl rfl rfl ?_) | (refine aN ?_;  first | refine aH ?_ | refine aQ ?_ | refine aX ?_ | refine aZ ?_ | refine aE (b := false) rfl nFt (fun _ => ?_)) | (refine aM ?_;  first | refine bA ?_))
        all_goals first
          | exact absurd (by assumption) k110
          | (exfalso; omega)
          | skip
        refine cW (eX (h0 := 7) (k0 := 4) 500 28 1 rfl rfl (by simp) rfl rfl) ?_
        refine cH (ι := {j : Nat // j ≤ kids.length}) (fun j => S.f ⟨[(35, .imm (.lit (.int .i64 (j.1 : Int)))), (34, .imm (.lit (.int .i64 (kids.length : Int)))), (33, .imm (.sl false kids.length (Tree.ivs kids))), (7, .obj 7 0), (0, .imm (Tree.iv (.node k n a b kids))), (1, .imm (.lit (.int .i64 d))), (2, .func F [] [.obj 1000 0, .obj 1001 0])], (500, .arr 28 1 j.1 (Tree.ivs (walkSs V (kids.take j.1) (d + bindsP k) s).1)) :: (7, .cells [.imm (.lit (.int .i64 k)), .imm (.lit (.int .i64 n)), .imm (.lit (.string a)), .imm (.lit (.string b)), .ref 500 j.1]) :: [(1000, .cells [.imm (X0 ((walkSs V (kids.take j.1) (d + bindsP k) s).2))]), (1001, .cells [.imm (X1 ((walkSs V (kids.take j.1) (d + bindsP k) s).2))])]⟩) (fun j => kids.length - j.1) ⟨0, Nat.zero_le _⟩ (bW (by repeat' first | exact trivial | refine ⟨rfl, ?_⟩) (by repeat' first | exact trivial | refine ⟨rfl, ?_⟩)) ?_
        rintro ⟨j, hj⟩
        dsimp only
        by_cases hlt : j < kids.length
        · have hget := cS kids j hlt
          have hnx := eN V (d + bindsP k) s hlt
          obtain ⟨hc, _, hnn⟩ := hind j hlt _ (hJs j hj)
          obtain ⟨pc, hpc⟩ := bT hnn
          rw [hpc] at hc
          have hll := eI V (kids.take j) (d + bindsP k) s
          rw [List.length_take, Nat.min_eq_left hj] at hll
          have hiv : Tree.ivs (walkSs V (kids.take (j + 1)) (d + bindsP k) s).1 = Tree.ivs (walkSs V (kids.take j) (d + bindsP k) s).1 ++ [(walkS V kids[j] (d + bindsP k) (walkSs V (kids.take j) (d + bindsP k) s).2).1.iv] := by
            rw [hnx, cX, cX, List.map_append]; rfl
          rw [hpc] at hiv
          clear hpc hnn
          have hst : (walkSs V (kids.take (j + 1)) (d + bindsP k) s).2 = (walkS V kids[j] (d + bindsP k) (walkSs V (kids.take j) (d + bindsP k) s).2).2 := by rw [hnx]
          clear hnx hind hJs
          have hil := dD (walkSs V (kids.take j) (d + bindsP k) s).1
          rw [hll] at hil
          generalize walkS V kids[j] (d + bindsP k) (walkSs V (kids.take j) (d + bindsP k) s).2 = W at *
          generalize walkSs V (kids.take j) (d + bindsP k) s = Z at *
          obtain ⟨W1, W2⟩ := W
          obtain ⟨Z1, Z2⟩ := Z
          dsimp only at *
          generalize Tree.ivs Z1 = ZI at *
          generalize hsum : d + bindsP k = dk at *
          repeat' (first | refine aG ?_ | (refine aI ?_;  first | refine aC tabOk rfl rfl rfl (nb rfl) rfl ?_ | (refine aK rfl rfl rfl (nb rfl) rfl rfl rfl (fun hq => ?_) (fun hq => ?_) <;> (first | (simp only [sD, sE, sB, sC, sN, sM, sT, sF] at hq; try (exfalso; omega)) | skip)) | refine bO tabOk rfl rfl rfl (nb rfl) rfl rfl rfl hget ?_ | refine aD rfl rfl (nb rfl) rfl rfl rfl rfl (cb) ?_ | refine dL (z := dk) rfl rfl rfl (nb rfl) rfl rfl hsum (by omega) (by omega) ?_ | refine cD rfl rfl (nb rfl) rfl rfl rfl rfl hc (by repeat' first | exact trivial | refine ⟨rfl, ?_⟩) rfl (by show ([1000, 1001] : List Nat).Nodup; decide) ?_ | refine cN tabOk rfl rfl rfl (nb rfl) rfl rfl rfl rfl rfl rfl rfl (by first | omega | decide) rfl (by first | omega | (dsimp only; omega)) (by first | omega | (dsimp only; omega)) ?_ | refine bX rfl rfl rfl (nb rfl) rfl rfl (by omega) ?_ | refine cI tabOk rfl rfl rfl (nb rfl) rfl rfl rfl rfl rfl rfl rfl rfl rfl ?_ | refine bM tabOk rfl rfl rfl (nb rfl) rfl rfl rfl rfl ?_ | refine bP tabOk rfl rfl rfl rfl rfl rfl rfl rfl rfl rfl rfl ?_ | refine bH tabOk rfl rfl rfl (nb rfl) rfl rfl rfl rfl (by first | assumption | omega) ?_) | (refine aN ?_;  first | refine aH ?_ | refine aQ ?_ | refine bI ?_ | refine aX ?_ | refine aZ ?_ | refine aE (b := true) rfl (fun _ => ?_) nTf | refine aR mixed (by kernel_rfl) ?_) | (refine aM ?_;  first | refine bA ?_) | (refine aW ?_;  first | refine bS ?_) | refine bG (bF (by kernel_rfl)) ?_)
          all_goals first
            | (exfalso; omega)
            | (refine ⟨⟨j + 1, hlt⟩, (by show kids.length - (j + 1) < kids.length - j; omega), ?_⟩; dsimp only; rw [hiv, hst]; exact (bW (by repeat' first | exact trivial | refine ⟨rfl, ?_⟩) (by repeat' first | exact trivial | refine ⟨rfl, ?_⟩)))
        · have ej : j = kids.length := by omega
          subst ej
          rw [List.take_length]
          have hll := eI V kids (d + bindsP k) s
          clear hind hJs
          generalize walkSs V kids (d + bindsP k) s = Z at *
          obtain ⟨Z1, Z2⟩ := Z
          dsimp only at *
          have hiv : (Tree.node k n a b Z1).iv = .ptr [.lit (.int .i64 k), .lit (.int .i64 n), .lit (.string a), .lit (.string b), .sl false kids.length (Tree.ivs Z1)] 0 := by rw [Tree.iv, hll]
          rw [hiv]
          generalize Tree.ivs Z1 = ZI at *
          repeat' (first | refine aG ?_ | (refine aI ?_;  first | refine aC tabOk rfl rfl rfl (nb rfl) rfl ?_ | (refine aK rfl rfl rfl (nb rfl) rfl rfl rfl (fun hq => ?_) (fun hq => ?_) <;> (first | (simp only [sD, sE, sB, sC, sN, sM, sT, sF] at hq; try (exfalso; omega)) | skip))) | (refine aN ?_;  first | refine aH ?_ | refine aQ ?_ | refine aT ?_ | refine bY ?_ | refine aE (b := false) rfl nFt (fun _ => ?_)) | (refine aM ?_;  first | refine bA ?_ | refine bN ?_) | (refine aW ?_;  first | refine bJ ?_))
          all_goals first
            | (exfalso; omega)
            | (refine mF ((Imp.of_le (σ' := S.f ⟨[(6, .obj 7 0)], (500, .arr 28 1 kids.length ZI) :: (7, .cells [.imm (.lit (.int .i64 k)), .imm (.lit (.int .i64 n)), .imm (.lit (.string a)), .imm (.lit (.string b)), .ref 500 kids.length]) :: [(1000, .cells [.imm (X0 Z2)]), (1001, .cells [.imm (X1 Z2)])]⟩) (bW (by repeat' first | exact trivial | refine ⟨rfl, ?_⟩) (by repeat' first | exact trivial | refine ⟨rfl, ?_⟩))).trans ((cU (g := 500) rfl (by repeat' first | exact trivial | exact fun _ => rfl | refine ⟨?_, ?_⟩) (by repeat' first | exact trivial | exact fun _ => rfl | refine ⟨?_, ?_⟩)).trans (eH (g := 7) rfl rfl))) ?_
               refine cF (by first | exact .inl rfl | exact .inr rfl) (bC rfl (aA rfl)) rfl (by repeat' first | exact trivial | refine ⟨rfl, ?_⟩) rfl rfl)
end Go.Proofs.YtocaohipfiapkaaGreat.Ab
namespace Go.Proofs.YtocaohipfiapkaaGreat.Ab
set_option linter.unusedVariables false
set_option linter.unusedSimpArgs false
/-- What Occurs makes of a variable. -/
def occV (i n d : Int) (s : Bool) : Tree × Bool := (varT n, s || decide (0 ≤ i ∧ d ≤ n ∧ n - d = i))
def occP (c : Tree) (i : Int) : Bool := decide (checkP isConP c = 0) && decide (0 ≤ i ∧ 0 < cntP i c 0)
theorem aBG (i : Int) (t : Tree) : ∀ d s, okVars t = true → (walkS (occV i) t d s).2 = (s || decide (0 ≤ i ∧ 0 < cntP i t d)) := by
  induction t using Tree.ind with
  | h1 => intro d s h; simp [okVars] at h
  | h2 k n a b kids ih =>
    intro d s hv
    by_cases hk : k = 110
    · obtain ⟨_, _, rfl, rfl, rfl⟩ := dS hk hv
      subst hk
      rw [fU, cntP, cntPs]
      unfold occV
      dsimp only
      congr 1
      by_cases h : d ≤ n ∧ n - d = i
      · rw [if_pos ⟨rfl, h⟩]
        exact decide_eq_decide.2 ⟨fun h1 => ⟨h1.1, by omega⟩, fun h1 => ⟨h1.1, h⟩⟩
      · rw [if_neg fun h1 => h h1.2]
        exact decide_eq_decide.2 ⟨fun h1 => absurd h1.2 h, fun h1 => absurd h1.2 (by omega)⟩
    · have hvs := dM hk hv
      rw [rJ _ _ _ _ kids hk, cntP, if_neg fun h1 => hk h1.1, Nat.zero_add]
      have key : ∀ l : List Tree, (∀ t ∈ l, t ∈ kids) → ∀ s, (walkSs (occV i) l (d + bindsP k) s).2 = (s || decide (0 ≤ i ∧ 0 < cntPs i l (d + bindsP k))) := by
        intro l
        induction l with
        | nil => intro _ s; rw [walkSs, cntPs]; simp
        | cons t ts ih2 =>
          intro hm s
          rw [walkSs, cntPs]
          dsimp only
          rw [ih2 (fun t' h' => hm t' (by simp [h'])), ih t (hm t (by simp)) _ _ (hvs t (hm t (by simp))), Bool.or_assoc]
          congr 1
          rw [← Bool.decide_or]
          exact decide_eq_decide.2 (by omega)
      exact key kids (fun _ h => h) s
end Go.Proofs.YtocaohipfiapkaaGreat.Ab
namespace Go.Proofs.YtocaohipfiapkaaGreat.Ab
set_option linter.unusedVariables false
set_option linter.unusedSimpArgs false
def starK : Tree := .node 100 0 emptyB emptyB []
def kid1 : Tree → Tree
  | .node _ _ _ _ (_ :: c :: _) => c
  | _ => .nil
/-- One more that must be a type. -/
def star1 (R S : Tree × Int) : Tree × Int := if R.2 ≠ 0 then (.nil, R.2) else if R.1.kind ≠ 100 then (.nil, 10) else S
def lam1 (K : Tree) (R : Tree × Int) : Tree × Int := if R.2 ≠ 0 then (.nil, R.2) else (.node 101 0 emptyB emptyB [K, R.1], 0)
def app1 (F X : Tree × Int) : Tree × Int := if F.2 ≠ 0 then (.nil, F.2) else if X.2 ≠ 0 then (.nil, X.2) else if F.1.kind ≠ 101 ∨ sameP (kid0 F.1) X.1 = false then (.nil, 10) else (kid1 F.1, 0)
mutual
/-- Does a sum's own variable stand but where it may? -/
def placedP : Tree → Bool
  | .nil => true
  | .node k n a b kids => if k = 110 then true else if k = 115 then placedFs kids else !(occP (.node k n a b kids) 0)
def placedFs : List Tree → Bool
  | [] => true
  | t :: ts => placedF t && placedFs ts
def placedF : Tree → Bool
  | .nil => true
  | .node _ _ _ _ ks => placedH ks
def placedH : List Tree → Bool
  | [] => true
  | c :: _ => placedP c
end
def fitsP (kids : List Tree) : Int := if placedFs kids = true then 0 else 15
def sum1 (kids : List Tree) (R : Tree × Int) : Tree × Int := if R.2 ≠ 0 then (.nil, R.2) else if fitsP kids ≠ 0 then (.nil, fitsP kids) else (starK, 0)
mutual
/-- The kind of a constructor, and the error. -/
def kindP : Tree → List Tree → Tree × Int
  | .nil, _ => (.nil, 0)
  | .node k n _ _ kids, ctx =>
    if k = 110 then (if n ≥ (ctx.length : Int) then (.nil, 8) else (ctx.getD n.toNat .nil, 0))
    else if k = 114 then starsP kids ctx
    else if k = 115 then starsF kids ctx
    else if k = 117 ∨ k = 118 then bindK kids ctx
    else if k = 119 then lamK kids ctx
    else if k = 120 then appK kids ctx
    else if k = 121 then sum1 kids (starsF kids (starK :: ctx))
    else (starK, 0)
def starsP : List Tree → List Tree → Tree × Int
  | [], _ => (starK, 0)
  | t :: ts, ctx => star1 (kindP t ctx) (starsP ts ctx)
def starsF : List Tree → List Tree → Tree × Int
  | [], _ => (starK, 0)
  | t :: ts, ctx => star1 (kindF t ctx) (starsF ts ctx)
def kindF : Tree → List Tree → Tree × Int
  | .nil, _ => (.nil, 0)
  | .node _ _ _ _ ks, ctx => kindH ks ctx
def kindH : List Tree → List Tree → Tree × Int
  | [], _ => (.nil, 0)
  | c :: _, ctx => kindP c ctx
def bindK : List Tree → List Tree → Tree × Int
  | [K, c], ctx => star1 (kindP c (K :: ctx)) (starK, 0)
  | _, _ => (.nil, 0)
def lamK : List Tree → List Tree → Tree × Int
  | [K, c], ctx => lam1 K (kindP c (K :: ctx))
  | _, _ => (.nil, 0)
def appK : List Tree → List Tree → Tree × Int
  | [f, x], ctx => app1 (kindP f ctx) (kindP x ctx)
  | _, _ => (.nil, 0)
end
/-- Kinds of a context. -/
def okCtx (ctx : List Tree) : Prop := ∀ t ∈ ctx, isKindP t = true ∧ t.whole = true
theorem iI {K : Tree} {ctx : List Tree} (h1 : isKindP K = true) (h2 : K.whole = true) (h : okCtx ctx) : okCtx (K :: ctx) := fun t ht => by
  rcases List.mem_cons.1 ht with rfl | ht
  · exact ⟨h1, h2⟩
  · exact h t ht
theorem kY : isKindP starK = true := by decide +kernel
theorem pR {k n : Int} {a b : ByteArray} {kids : List Tree} (h : isKindP (.node k n a b kids) = true) (hk : k = 101) : ∃ x y, kids = [x, y] ∧ isKindP x = true ∧ isKindP y = true := by
  subst hk
  rw [isKindP, if_neg (by decide), if_pos rfl, Bool.and_eq_true, Bool.and_eq_true, dR] at h
  have hl : kids.length = 2 := by have := h.1.2; simp at this; omega
  obtain ⟨x, y, rfl⟩ := two hl
  have h2 := h.2
  simp at h2
  exact ⟨x, y, rfl, h2.1, h2.2⟩
/-- A con has the parts that its kind asks for. -/
theorem eB {k n : Int} {a b : ByteArray} {kids : List Tree} (h : isConP (.node k n a b kids) = true) :
    (k = 110 → 0 ≤ n ∧ n ≤ 65536 ∧ kids = []) ∧ ((k = 114 ∨ k = 120) → ∃ x y, kids = [x, y] ∧ isConP x = true ∧ isConP y = true) ∧ (k = 115 → ∀ t ∈ kids, ∃ n' a' b' c, t = .node 116 n' a' b' [c] ∧ isConP c = true) ∧
    ((k = 117 ∨ k = 118 ∨ k = 119) → ∃ x y, kids = [x, y] ∧ isKindP x = true ∧ isConP y = true) ∧ (k = 121 → ∀ t ∈ kids, ∃ n' a' b' c, t = .node 122 n' a' b' [c] ∧ isConP c = true) := by
  have hv := dN _ h
  rw [isConP, Bool.and_eq_true] at h
  obtain ⟨_, h⟩ := h
  have named : ∀ kind : Int, (∀ t ∈ kids, okNamed kind t = true) → ∀ t ∈ kids, ∃ n' a' b' c, t = .node kind n' a' b' [c] ∧ isConP c = true := fun kind hn t ht => by
    have ho := hn t ht
    cases t with
    | nil => simp [okNamed] at ho
    | node k' n' a' b' ks =>
      simp only [okNamed, Bool.and_eq_true, beq_iff_eq] at ho
      obtain ⟨⟨⟨rfl, _⟩, _⟩, h3⟩ := ho
      by_cases hl : ks.length = 1
      · obtain ⟨c, rfl⟩ := one_of hl
        exact ⟨n', a', b', c, rfl, by simpa [isCon1] using h3⟩
      · rw [gZ hl] at h3; cases h3
  refine ⟨fun hk => ?_, fun hk => ?_, fun hk => ?_, fun hk => ?_, fun hk => ?_⟩
  · obtain ⟨q1, q2, _, _, q5⟩ := dS hk hv
    exact ⟨q1, q2, q5⟩
  · rw [if_neg (by omega), if_neg (by omega), if_pos hk, Bool.and_eq_true, iC] at h
    have hl : kids.length = 2 := by have := h.1; simp at this; omega
    obtain ⟨x, y, rfl⟩ := two hl
    have := h.2
    simp at this
    exact ⟨x, y, rfl, this.1, this.2⟩
  · rw [if_neg (by omega), if_neg (by omega), if_neg (by omega), if_pos hk, Bool.and_eq_true, dF, List.all_eq_true] at h
    exact named 116 h.1
  · rw [if_neg (by omega), if_neg (by omega), if_neg (by omega), if_neg (by omega), if_pos hk] at h
    by_cases h2 : kids.length = 2
    · obtain ⟨x, y, rfl⟩ := two h2
      simp only [isCon2, Bool.and_eq_true] at h
      exact ⟨x, y, rfl, h.1, h.2⟩
    · rw [fQ h2] at h; cases h
  · rw [if_neg (by omega), if_neg (by omega), if_neg (by omega), if_neg (by omega), if_neg (by omega), if_pos hk, Bool.and_eq_true, Bool.and_eq_true, dF, List.all_eq_true] at h
    exact named 122 h.1.2
end Go.Proofs.YtocaohipfiapkaaGreat.Ab
namespace Go.Proofs.YtocaohipfiapkaaGreat.Ab
set_option linter.unusedVariables false
set_option linter.unusedSimpArgs false
open Go.RowKit
/-- A kind of a constructor in a context, and the error. -/
def KindP (ks : List Tree) (c : Tree) : Tree × Int := if checkP isConP c ≠ 0 then (.nil, checkP isConP c) else kindP c ks
def starE (ks : List Tree) (c : Tree) : Int := if (KindP ks c).2 = 0 ∧ (KindP ks c).1.kind ≠ 100 then 10 else (KindP ks c).2
def starT (ks : List Tree) (c : Tree) : Tree × Int := if starE ks c ≠ 0 then (.nil, starE ks c) else normalP 1000 c
def filledP (n by_ : Tree) : Tree × Int := if (substP n 0 by_).2 ≠ 0 then (.nil, (substP n 0 by_).2) else normalP 1000 (substP n 0 by_).1
/-- All of a context's types under one more variable. -/
def shiftsP : List Tree → List Tree × Int
  | [] => ([], 0)
  | t :: ts => if (shiftP t 1 0).2 ≠ 0 then ([], (shiftP t 1 0).2) else if (shiftsP ts).2 ≠ 0 then ([], (shiftsP ts).2) else ((shiftP t 1 0).1 :: (shiftsP ts).1, 0)
def asP (R : Tree × Int) (kind : Int) : Tree × Int := if R.2 = 0 ∧ R.1.kind ≠ kind then (.nil, 11) else R
def tyT (k : Int) (kids : List Tree) : Tree := .node k 0 emptyB emptyB kids
def kidsOf : Tree → List Tree
  | .nil => []
  | .node _ _ _ _ kids => kids
def partP : List Tree → ByteArray → Option Tree
  | [], _ => none
  | t :: ts, l => if eqB t.name l = true then some (kid0 t) else partP ts l
def tlam1 (K : Tree) (e : Int) (R : Tree × Int) : Tree × Int := if e ≠ 0 then (.nil, e) else if R.2 ≠ 0 then (.nil, R.2) else (tyT 117 [K, R.1], 0)
def let1 (X Y : Tree × Int) : Tree × Int := if X.2 ≠ 0 then (.nil, X.2) else Y
def lamT1 (A B : Tree × Int) : Tree × Int := if A.2 ≠ 0 then (.nil, A.2) else if B.2 ≠ 0 then (.nil, B.2) else (tyT 114 [A.1, B.1], 0)
def appT1 (F X : Tree × Int) : Tree × Int := if F.2 ≠ 0 then (.nil, F.2) else if X.2 ≠ 0 then (.nil, X.2) else if F.1.kind ≠ 114 ∨ sameP (kid0 F.1) X.1 = false then (.nil, 11) else (kid1 F.1, 0)
def rec1 (L : List Tree × Int) : Tree × Int := if L.2 ≠ 0 then (.nil, L.2) else (tyT 115 L.1, 0)
def consP (R : Tree × Int) (L : List Tree × Int) : List Tree × Int := if R.2 ≠ 0 then ([], R.2) else if L.2 ≠ 0 then ([], L.2) else (R.1 :: L.1, 0)
def field1 (a : ByteArray) (R : Tree × Int) : Tree × Int := if R.2 ≠ 0 then (.nil, R.2) else (.node 116 0 a emptyB [R.1], 0)
def part1 (e : Int) (T : Tree) (a : ByteArray) : Tree × Int := match partP (kidsOf T) a with
  | none => (.nil, e)
  | some p => (p, 0)
def proj1 (a : ByteArray) (R : Tree × Int) : Tree × Int := if (asP R 115).2 ≠ 0 then (.nil, (asP R 115).2) else part1 11 R.1 a
def tapp1 (R K : Tree × Int) (C : Tree) : Tree × Int := if R.2 ≠ 0 then (.nil, R.2) else if K.2 ≠ 0 then (.nil, K.2) else if R.1.kind ≠ 117 ∨ sameP (kid0 R.1) K.1 = false then (.nil, 11) else filledP (kid1 R.1) C
def alike1 (A : Tree) (B : Tree × Int) (S : Tree) : Tree × Int := if B.2 ≠ 0 then (.nil, B.2) else if sameP A B.1 = false then (.nil, 11) else (S, 0)
def pack1 (T K A : Tree × Int) (C : Tree) : Tree × Int := if T.2 ≠ 0 then (.nil, T.2) else if K.2 ≠ 0 then (.nil, K.2) else if A.2 ≠ 0 then (.nil, A.2) else if T.1.kind ≠ 118 ∨ sameP (kid0 T.1) K.1 = false then (.nil, 11) else alike1 A.1 (filledP (kid1 T.1) C) T.1
def unpack1 (T : Tree × Int) (e : Int) (B : Tree × Int) : Tree × Int := if (asP T 118).2 ≠ 0 then (.nil, (asP T 118).2) else if e ≠ 0 then (.nil, e) else if B.2 ≠ 0 then (.nil, B.2) else if occP B.1 0 = true then (.nil, 11) else shiftP B.1 (-1) 0
def choice1 (A B C : Tree × Int) : Tree × Int := if A.2 ≠ 0 then (.nil, A.2) else if B.2 ≠ 0 then (.nil, B.2) else if C.2 ≠ 0 then (.nil, C.2) else if A.1.kind ≠ 112 ∨ sameP B.1 C.1 = false then (.nil, 11) else (B.1, 0)
def op1 (n : Int) (A B : Tree × Int) : Tree × Int := if A.2 ≠ 0 then (.nil, A.2) else if B.2 ≠ 0 then (.nil, B.2) else if A.1.kind ≠ 111 ∨ B.1.kind ≠ 111 then (.nil, 11) else if n ≤ 3 then (tyT 111 [], 0) else (tyT 112 [], 0)
def in2 (A : Tree) (S : Tree) : Option Tree → Tree × Int
  | none => (.nil, 14)
  | some p => alike1 A (filledP p S) S
def in1 (a : ByteArray) (S A : Tree × Int) : Tree × Int := if S.2 ≠ 0 then (.nil, S.2) else if A.2 ≠ 0 then (.nil, A.2) else if S.1.kind ≠ 121 then (.nil, 11) else in2 A.1 S.1 (partP (kidsOf S.1) a)
def namesEq : List Tree → List Tree → Bool
  | [], [] => true
  | t :: ts, u :: us => eqB t.name u.name && namesEq ts us
  | _, _ => false
def alikeP (l : List Tree) (t : Tree) : Tree × Int := if (l.any fun s => !sameP s t) = true then (.nil, 11) else (t, 0)
def arm1 (A R : Tree × Int) (L : List Tree × Int) : List Tree × Int := if A.2 ≠ 0 then ([], A.2) else consP R L
def arms1 (S : Tree) (l : List Tree) (L : List Tree × Int) : List Tree × Int := if namesEq (kidsOf S) l = false then ([], 14) else L
def case1 (S : Tree × Int) (L : List Tree × Int) : Tree × Int := if (asP S 121).2 ≠ 0 then (.nil, (asP S 121).2) else if L.2 ≠ 0 then (.nil, L.2) else alikeP L.1 (L.1.headD .nil)
def fold1 (S T : Tree × Int) (L : List Tree × Int) : Tree × Int := if (asP S 121).2 ≠ 0 then (.nil, (asP S 121).2) else if T.2 ≠ 0 then (.nil, T.2) else if L.2 ≠ 0 then (.nil, L.2) else alikeP L.1 T.1
mutual
/-- The type of a term, and the error. -/
def ofP : Tree → List Tree → List Tree → Tree × Int
  | .nil, _, _ => (.nil, 0)
  | .node k n a _ kids, ks, ts =>
    if k = 130 then (if n ≥ (ts.length : Int) then (.nil, 8) else normalP 1000 (ts.getD n.toNat .nil))
    else if k = 131 then (tyT 111 [], 0)
    else if k = 132 then (tyT 112 [], 0)
    else if k = 133 then (tyT 113 [], 0)
    else if k = 139 then ofTLam kids ks ts
    else if k = 143 then ofLet kids ks ts
    else if k = 134 then ofLam kids ks ts
    else if k = 135 then ofApp kids ks ts
    else if k = 136 then rec1 (ofRec kids ks ts)
    else if k = 138 then proj1 a (ofH kids ks ts)
    else if k = 140 then ofTApp kids ks ts
    else if k = 141 then ofPack kids ks ts
    else if k = 142 then ofUnpack kids ks ts
    else if k = 144 then ofIf kids ks ts
    else if k = 145 then ofOp n kids ks ts
    else if k = 146 then ofIn a kids ks ts
    else if k = 147 then ofCase kids ks ts
    else ofFold kids ks ts
termination_by structural x => x
def ofH : List Tree → List Tree → List Tree → Tree × Int
  | x :: _, ks, ts => ofP x ks ts
  | [], _, _ => (.nil, 0)
termination_by structural x => x
def ofTLam : List Tree → List Tree → List Tree → Tree × Int
  | [K, x], ks, ts => tlam1 K (shiftsP ts).2 (ofP x (K :: ks) (shiftsP ts).1)
  | _, _, _ => (.nil, 0)
termination_by structural x => x
def ofLet : List Tree → List Tree → List Tree → Tree × Int
  | [x, y], ks, ts => let1 (ofP x ks ts) (ofP y ks ((ofP x ks ts).1 :: ts))
  | _, _, _ => (.nil, 0)
termination_by structural x => x
def ofLam : List Tree → List Tree → List Tree → Tree × Int
  | [T, y], ks, ts => lamT1 (starT ks T) (ofP y ks ((starT ks T).1 :: ts))
  | _, _, _ => (.nil, 0)
termination_by structural x => x
def ofApp : List Tree → List Tree → List Tree → Tree × Int
  | [f, x], ks, ts => appT1 (ofP f ks ts) (ofP x ks ts)
  | _, _, _ => (.nil, 0)
termination_by structural x => x
def ofRec : List Tree → List Tree → List Tree → List Tree × Int
  | [], _, _ => ([], 0)
  | t :: l, ks, ts => consP (ofField t ks ts) (ofRec l ks ts)
termination_by structural x => x
def ofField : Tree → List Tree → List Tree → Tree × Int
  | .nil, _, _ => (.nil, 0)
  | .node _ _ a _ ys, ks, ts => field1 a (ofH ys ks ts)
termination_by structural x => x
def ofTApp : List Tree → List Tree → List Tree → Tree × Int
  | [x, C], ks, ts => tapp1 (ofP x ks ts) (KindP ks C) C
  | _, _, _ => (.nil, 0)
termination_by structural x => x
def ofPack : List Tree → List Tree → List Tree → Tree × Int
  | [C, x, T], ks, ts => pack1 (starT ks T) (KindP ks C) (ofP x ks ts) C
  | _, _, _ => (.nil, 0)
termination_by structural x => x
def ofUnpack : List Tree → List Tree → List Tree → Tree × Int
  | [x, y], ks, ts => unpack1 (ofP x ks ts) (shiftsP ts).2 (ofP y (kid0 (ofP x ks ts).1 :: ks) (kid1 (ofP x ks ts).1 :: (shiftsP ts).1))
  | _, _, _ => (.nil, 0)
termination_by structural x => x
def ofIf : List Tree → List Tree → List Tree → Tree × Int
  | [x, y, z], ks, ts => choice1 (ofP x ks ts) (ofP y ks ts) (ofP z ks ts)
  | _, _, _ => (.nil, 0)
termination_by structural x => x
def ofOp (n : Int) : List Tree → List Tree → List Tree → Tree × Int
  | [x, y], ks, ts => op1 n (ofP x ks ts) (ofP y ks ts)
  | _, _, _ => (.nil, 0)
termination_by structural x => x
def ofIn (a : ByteArray) : List Tree → List Tree → List Tree → Tree × Int
  | [T, x], ks, ts => in1 a (starT ks T) (ofP x ks ts)
  | _, _, _ => (.nil, 0)
termination_by structural x => x
def ofCase : List Tree → List Tree → List Tree → Tree × Int
  | x :: arms, ks, ts => case1 (ofP x ks ts) (arms1 (ofP x ks ts).1 arms (ofArms arms (kidsOf (ofP x ks ts).1) (ofP x ks ts).1 ks ts))
  | _, _, _ => (.nil, 0)
termination_by structural x => x
def ofFold : List Tree → List Tree → List Tree → Tree × Int
  | x :: T :: arms, ks, ts => fold1 (ofP x ks ts) (starT ks T) (arms1 (ofP x ks ts).1 arms (ofArms arms (kidsOf (ofP x ks ts).1) (starT ks T).1 ks ts))
  | _, _, _ => (.nil, 0)
termination_by structural x => x
def ofArms : List Tree → List Tree → Tree → List Tree → List Tree → List Tree × Int
  | [], _, _, _, _ => ([], 0)
  | t :: l, cs, self, ks, ts => arm1 (filledP (kid0 (cs.headD .nil)) self) (ofArm t ks ((filledP (kid0 (cs.headD .nil)) self).1 :: ts)) (ofArms l cs.tail self ks ts)
termination_by structural x => x
def ofArm : Tree → List Tree → List Tree → Tree × Int
  | .nil, _, _ => (.nil, 0)
  | .node _ _ _ _ ys, ks, ts => ofH ys ks ts
termination_by structural x => x
end
theorem kO : ∀ x y : List UInt8, Op.bytesLess y x = false → x ≠ y → Op.bytesLess x y = true
  | [], [], _, h => absurd rfl h
  | [], _ :: _, _, _ => by simp [Op.bytesLess]
  | _ :: _, [], h, _ => by simp [Op.bytesLess] at h
  | x :: xs, y :: ys, h, hn => by
    simp only [Op.bytesLess, Bool.or_eq_false_iff, Bool.and_eq_false_iff, decide_eq_false_iff_not, beq_eq_false_iff_ne, Bool.or_eq_true, Bool.and_eq_true, decide_eq_true_eq, beq_iff_eq] at h ⊢
    by_cases e : x = y
    · subst e
      right
      refine ⟨rfl, kO xs ys ?_ fun e => hn (by rw [e])⟩
      rcases h.2 with h2 | h2
      · exact absurd rfl h2
      · exact h2
    · left
      rcases Nat.lt_or_ge x.toNat y.toNat with h1 | h1
      · exact h1
      · exact absurd (show y < x from Nat.lt_of_le_of_ne h1 fun h2 => e (UInt8.toNat_inj.1 h2.symm)) h.1
end Go.Proofs.YtocaohipfiapkaaGreat.Ab
namespace Go.Proofs.YtocaohipfiapkaaGreat.Ab
set_option linter.unusedVariables false
set_option linter.unusedSimpArgs false
open Go.RowKit Go.Lib
attribute [local irreducible] AWP AOps AExit AThen ABlock ANoGoto FeetOk
theorem zY {w : World} {M : Nat → Prop} {β : Nat → Value} {x y : IV} {vs : List Value} (h : RepAL w M β [.imm x, .imm y] vs) : ∃ u v, vs = [u, v] ∧ Rep w M x u ∧ Rep w M y v := by
  match vs, h with
  | [u, v], h =>
    rw [RepAL, RepAL, RepA, RepA] at h
    exact ⟨u, v, rfl, h.1, h.2.1⟩
  | [], h => rw [RepAL] at h; exact h.elim
  | [u], h => rw [RepAL, RepAL] at h; exact h.2.elim
  | u :: v :: x :: l, h => rw [RepAL, RepAL, RepAL] at h; exact h.2.2.elim
theorem xZ (n : Nat) (h0 : 0 < n) (hn : n ≤ 100000000) : ACalls Tryz.prog 71 [.imm (.lit (.slice none 0 0)), .imm (.lit (.int .i64 (n : Int)))] [(500, .fut)] (.ref 500 0) [(500, .arr 28 1 0 [])] := by
  refine ⟨⟨_, Tryz.func71, rfl, rfl⟩, fun w M β vs hamb hm hv => ?_⟩
  obtain ⟨u, v, rfl, hu, hv2⟩ := zY hv
  rw [sU hu, sU hv2]
  obtain ⟨ei, he⟩ : ∃ ei, (tab : Tab).at 28 = some ei := ⟨_, rfl⟩
  obtain ⟨_, jj, hjj, e1, e2, e3⟩ := tabOk _ _ he
  have hsz : ei.size = 1 := by cases he; rfl
  have hby : ei.bytes ≤ 64 := by cases he; decide
  have hzc : ei.zero.cells.size = 1 := by cases he; rfl
  have hfut : β 500 = .tuple #[] := hm.ok 500 .fut rfl
  have hj1 : jj.size = 1 := by rw [e1, hsz]
  have hjb : jj.bytes = ei.bytes := e2
  refine (Any8.slices_Grow_grow (P := Tryz.prog) Tryz.growN jj ei.zero hjj e3 (by omega) none 0 0 n [] w (Nat.le_refl _) (by omega) (by rw [hjb, Nat.zero_add]; have := Nat.mul_le_mul hn hby; omega) (by omega) (by simp) (fun _ => rfl) (fun a h => by cases h)).mono fun e w' ⟨hev, hw⟩ => ?_
  rw [Nat.zero_add] at hev hw
  have hge := grownCap_ge w n 0 28
  have hcm : grownCap w n 0 28 ≤ maxLen := grownCap_le_maxLen w n 0 28 (by simp only [maxLen]; omega)
  have hev : e = .returned (.slice (some ⟨w.heap.size, 0, none⟩) 0 (grownCap w n 0 28)) := hev
  have hw : w' = w.drew.alloc (.cells (#[] ++ Builtin.zeroCells ei.zero.cells n ++ Builtin.zeroCells ei.zero.cells (grownCap w n 0 28 - n)) 28) := hw
  generalize grownCap w n 0 28 = cp at *
  have hown : w'.ownsRow 0 28 1 (.slice (some ⟨w.heap.size, 0, none⟩) 0 cp) 0 [] := by
    rw [hw]
    refine ⟨rfl, .inr ⟨w.heap.size, _, _, rfl, Nat.zero_le _, heap_alloc_new w.drew _, Nat.zero_le _, hcm, ?_, rfl⟩⟩
    simp only [Array.size_append, size_zeroCells, hzc]
    simp
    omega
  have hbel : Below w.heap.size w w' := by rw [hw]; exact ((Below.refl _ _).drew).alloc (Nat.le_refl _) _
  let M' : Nat → Prop := fun b => (b < w.heap.size ∧ M b) ∨ b = w.heap.size
  let β' : Nat → Value := fun q => if q = 500 then .slice (some ⟨w.heap.size, 0, none⟩) 0 cp else β q
  have eg : β' 500 = .slice (some ⟨w.heap.size, 0, none⟩) 0 cp := by simp [β']
  have o1 : ∀ o, Mem.get [(500, o)] = one 500 o := fun o => by
    funext k
    simp only [Mem.get, one]
    by_cases hk : k = 500
    · subst hk; rfl
    · rw [if_neg (fun h => hk h.symm), if_neg hk]
  rw [o1, o1] at *
  refine ⟨_, hev, M', β', ?_, dK ⟨[], by rw [eg]; exact hown, rfl, by simp [RepL], by unfold slMax; omega, fun b hb => ?_⟩, ⟨hbel.os, hbel.tape, hbel.output, hbel.size, fun b hb _ => ⟨hbel.block b hb, ⟨fun h => by rcases h with h | h <;> first | exact h.2 | omega, fun h => .inl ⟨hb, h⟩⟩⟩⟩, fun q hk1 hk2 => ?_, fun q hk => ?_, fun b hb => ?_⟩
  · rw [RepA, eg]; exact ⟨Nat.le_refl _, fun _ => rfl, rfl⟩
  · rw [eg] at hb; simp only [blk, Option.some.injEq] at hb; exact .inr hb.symm
  · have : q ≠ 500 := fun e => by subst e; rw [cP] at hk2; cases hk2
    simp [β', this]
  · by_cases e : q = 500
    · rw [e, hfut]; exact LeV.fut _
    · exact absurd (dP _ e) hk
  · rw [dE, eg] at hb
    simp only [blk, Option.some.injEq] at hb
    right; omega
set_option maxHeartbeats 16000000 in
set_option maxRecDepth 10000 in
/-- One ahead of a list. -/
theorem pS (fa : Bool) (pk : List IV) (fb : Bool) (m : Nat) (cs : List IV) (hm : m ≤ 900000) (hc : cs.length = m) : ACalls Tryz.prog 46 [.imm (.sl fa 2 [.sl true 1 [.ptr pk 0], .sl fb m cs])] [] (.imm (.sl false (1 + m) (.ptr pk 0 :: cs))) [] := by
  have cg := xZ (1 + m) (by omega) (by omega)
  rw [show ((1 + m : Nat) : Int) = 1 + (m : Int) by omega] at cg
  refine cL Tryz.func46 rfl rfl (nb rfl) rfl ?_
  refine cW (eG 500 (by simp) rfl rfl) ?_
  repeat' (first | refine aG ?_ | (refine aI ?_;  first | refine aC tabOk rfl rfl rfl (nb rfl) rfl ?_ | refine aY tabOk rfl rfl (nb rfl) rfl ?_) | (refine aN ?_;  first | refine aH ?_ | refine aQ ?_ | refine aX ?_))
  refine cH (ι := {j : Nat // j ≤ 2}) (fun j => S.f ⟨[(11, .imm (.lit (.int .i64 (j.1 : Int)))), (10, .imm (.lit (.int .i64 2))), (9, .imm (.sl fa 2 [.sl true 1 [.ptr pk 0], .sl fb m cs])), (0, .imm (.sl fa 2 [.sl true 1 [.ptr pk 0], .sl fb m cs])), (3, .imm (.lit (.int .i64 (if j.1 = 0 then 0 else if j.1 = 1 then 1 else 1 + (m : Int)))))], [(500, .fut)]⟩) (fun j => 2 - j.1) ⟨0, Nat.zero_le _⟩ (bW (by repeat' first | exact trivial | refine ⟨rfl, ?_⟩) (by repeat' first | exact trivial | refine ⟨rfl, ?_⟩)) ?_
  rintro ⟨j, hj⟩
  dsimp only
  match j, hj with
  | 0, _ =>
    repeat' (first | refine aG ?_ | (refine aI ?_;  first | refine aC tabOk rfl rfl rfl (nb rfl) rfl ?_ | (refine aK rfl rfl rfl (nb rfl) rfl rfl rfl (fun hq => ?_) (fun hq => ?_) <;> (first | (simp only [sD, sE, sB, sC, sN, sM, sT, sF] at hq; try (exfalso; omega)) | skip)) | refine bX rfl rfl rfl (nb rfl) rfl rfl (by omega) ?_ | refine dL rfl rfl rfl (nb rfl) rfl rfl rfl (by omega) (by omega) ?_ | refine aY tabOk rfl rfl (nb rfl) rfl ?_ | refine bH tabOk rfl rfl rfl (nb rfl) rfl rfl rfl rfl (by first | assumption | omega) ?_) | (refine aN ?_;  first | refine aH ?_ | refine aQ ?_ | refine bI ?_ | refine aX ?_ | refine aZ ?_ | refine aE (b := true) rfl (fun _ => ?_) nTf | refine aE (b := false) rfl nFt (fun _ => ?_)) | (refine aM ?_;  first | refine bA ?_) | (refine aW ?_;  first | refine bS ?_))
    all_goals first
      | (exfalso; omega)
      | exact ⟨⟨1, by omega⟩, (by show 2 - 1 < 2 - 0; omega), (bW (by repeat' first | exact trivial | refine ⟨rfl, ?_⟩) (by repeat' first | exact trivial | refine ⟨rfl, ?_⟩))⟩
  | 1, _ =>
    repeat' (first | refine aG ?_ | (refine aI ?_;  first | refine aC tabOk rfl rfl rfl (nb rfl) rfl ?_ | (refine aK rfl rfl rfl (nb rfl) rfl rfl rfl (fun hq => ?_) (fun hq => ?_) <;> (first | (simp only [sD, sE, sB, sC, sN, sM, sT, sF] at hq; try (exfalso; omega)) | skip)) | refine dL (z := 1 + (m : Int)) rfl rfl rfl (nb rfl) rfl rfl rfl (by omega) (by omega) ?_ | refine bX rfl rfl rfl (nb rfl) rfl rfl (by omega) ?_ | refine aY tabOk rfl rfl (nb rfl) rfl ?_ | refine bH tabOk rfl rfl rfl (nb rfl) rfl rfl rfl rfl (by first | assumption | omega) ?_) | (refine aN ?_;  first | refine aH ?_ | refine aQ ?_ | refine bI ?_ | refine aX ?_ | refine aZ ?_ | refine aE (b := true) rfl (fun _ => ?_) nTf | refine aE (b := false) rfl nFt (fun _ => ?_)) | (refine aM ?_;  first | refine bA ?_) | (refine aW ?_;  first | refine bS ?_))
    all_goals first
      | (exfalso; omega)
      | exact ⟨⟨2, by omega⟩, (by show 2 - 2 < 2 - 1; omega), (bW (by repeat' first | exact trivial | refine ⟨rfl, ?_⟩) (by repeat' first | exact trivial | refine ⟨rfl, ?_⟩))⟩
  | 2, _ =>
    rw [if_neg (by decide), if_neg (by decide)]
    repeat' (first | refine aG ?_ | (refine aI ?_;  first | refine aC tabOk rfl rfl rfl (nb rfl) rfl ?_ | (refine aK rfl rfl rfl (nb rfl) rfl rfl rfl (fun hq => ?_) (fun hq => ?_) <;> (first | (simp only [sD, sE, sB, sC, sN, sM, sT, sF] at hq; try (exfalso; omega)) | skip)) | refine cD rfl rfl (nb rfl) rfl rfl rfl rfl cg (by repeat' first | exact trivial | refine ⟨rfl, ?_⟩) rfl (by show ([500] : List Nat).Nodup; decide) ?_ | refine aY tabOk rfl rfl (nb rfl) rfl ?_) | (refine aN ?_;  first | refine aH ?_ | refine aQ ?_ | refine aX ?_ | refine bY ?_ | refine aE (b := false) rfl nFt (fun _ => ?_)) | (refine aM ?_;  first | refine bA ?_ | refine bN ?_) | (refine aW ?_;  first | refine bJ ?_))
    all_goals first
      | (exfalso; omega)
      | skip
    refine cH (ι := {j : Nat // j ≤ 2}) (fun j => S.f ⟨[(27, .imm (.lit (.int .i64 (j.1 : Int)))), (26, .imm (.lit (.int .i64 2))), (25, .imm (.sl fa 2 [.sl true 1 [.ptr pk 0], .sl fb m cs])), (6, .ref 500 (if j.1 = 0 then 0 else if j.1 = 1 then 1 else 1 + m))], [(500, .arr 28 1 (if j.1 = 0 then 0 else if j.1 = 1 then 1 else 1 + m) (if j.1 = 0 then [] else if j.1 = 1 then [.ptr pk 0] else .ptr pk 0 :: cs))]⟩) (fun j => 2 - j.1) ⟨0, Nat.zero_le _⟩ (bW (by repeat' first | exact trivial | refine ⟨rfl, ?_⟩) (by repeat' first | exact trivial | refine ⟨rfl, ?_⟩)) ?_
    rintro ⟨j, hj⟩
    dsimp only
    match j, hj with
    | 0, _ =>
      rw [if_pos rfl, if_pos rfl]
      repeat' (first | refine aG ?_ | (refine aI ?_;  first | refine aC tabOk rfl rfl rfl (nb rfl) rfl ?_ | (refine aK rfl rfl rfl (nb rfl) rfl rfl rfl (fun hq => ?_) (fun hq => ?_) <;> (first | (simp only [sD, sE, sB, sC, sN, sM, sT, sF] at hq; try (exfalso; omega)) | skip)) | refine cN tabOk rfl rfl rfl (nb rfl) rfl rfl rfl rfl rfl rfl rfl (by first | omega | decide) rfl (by first | omega | (dsimp only; omega)) (by first | omega | (dsimp only; omega)) ?_ | refine bX rfl rfl rfl (nb rfl) rfl rfl (by omega) ?_ | refine bH tabOk rfl rfl rfl (nb rfl) rfl rfl rfl rfl (by first | assumption | omega) ?_) | (refine aN ?_;  first | refine aH ?_ | refine aQ ?_ | refine bI ?_ | refine aX ?_ | refine aZ ?_ | refine aE (b := true) rfl (fun _ => ?_) nTf) | (refine aM ?_;  first | refine bA ?_) | (refine aW ?_;  first | refine bS ?_))
      all_goals first
        | (exfalso; omega)
        | exact ⟨⟨1, by omega⟩, (by show 2 - 1 < 2 - 0; omega), (bW (by repeat' first | exact trivial | refine ⟨rfl, ?_⟩) (by repeat' first | exact trivial | refine ⟨rfl, ?_⟩))⟩
    | 1, _ =>
      rw [if_neg (by decide), if_pos rfl, if_neg (by decide), if_pos rfl]
      by_cases h0 : m = 0
      · subst h0
        have e0 : cs = [] := List.eq_nil_of_length_eq_zero hc
        subst e0
        repeat' (first | refine aG ?_ | (refine aI ?_;  first | refine aC tabOk rfl rfl rfl (nb rfl) rfl ?_ | (refine aK rfl rfl rfl (nb rfl) rfl rfl rfl (fun hq => ?_) (fun hq => ?_) <;> (first | (simp only [sD, sE, sB, sC, sN, sM, sT, sF] at hq; try (exfalso; omega)) | skip)) | refine oS tabOk rfl rfl rfl (nb rfl) rfl rfl rfl (.inl rfl) rfl ?_ | refine bX rfl rfl rfl (nb rfl) rfl rfl (by omega) ?_ | refine bH tabOk rfl rfl rfl (nb rfl) rfl rfl rfl rfl (by first | assumption | omega) ?_) | (refine aN ?_;  first | refine aH ?_ | refine aQ ?_ | refine bI ?_ | refine aX ?_ | refine aZ ?_ | refine aE (b := true) rfl (fun _ => ?_) nTf) | (refine aM ?_;  first | refine bA ?_) | (refine aW ?_;  first | refine bS ?_))
        all_goals first
          | (exfalso; omega)
          | exact ⟨⟨2, by omega⟩, (by show 2 - 2 < 2 - 1; omega), (bW (by repeat' first | exact trivial | refine ⟨rfl, ?_⟩) (by repeat' first | exact trivial | refine ⟨rfl, ?_⟩))⟩
      · repeat' (first | refine aG ?_ | (refine aI ?_;  first | refine aC tabOk rfl rfl rfl (nb rfl) rfl ?_ | (refine aK rfl rfl rfl (nb rfl) rfl rfl rfl (fun hq => ?_) (fun hq => ?_) <;> (first | (simp only [sD, sE, sB, sC, sN, sM, sT, sF] at hq; try (exfalso; omega)) | skip)) | refine cN tabOk rfl rfl rfl (nb rfl) rfl rfl rfl rfl rfl rfl rfl (by omega) (hc.trans (Nat.mul_one m).symm) (by first | omega | (dsimp only; omega)) (by first | omega | (dsimp only; omega)) ?_ | refine bX rfl rfl rfl (nb rfl) rfl rfl (by omega) ?_ | refine bH tabOk rfl rfl rfl (nb rfl) rfl rfl rfl rfl (by first | assumption | omega) ?_) | (refine aN ?_;  first | refine aH ?_ | refine aQ ?_ | refine bI ?_ | refine aX ?_ | refine aZ ?_ | refine aE (b := true) rfl (fun _ => ?_) nTf) | (refine aM ?_;  first | refine bA ?_) | (refine aW ?_;  first | refine bS ?_))
        all_goals first
          | (exfalso; omega)
          | exact ⟨⟨2, by omega⟩, (by show 2 - 2 < 2 - 1; omega), (bW (by repeat' first | exact trivial | refine ⟨rfl, ?_⟩) (by repeat' first | exact trivial | refine ⟨rfl, ?_⟩))⟩
    | 2, _ =>
      rw [if_neg (by decide), if_neg (by decide), if_neg (by decide), if_neg (by decide)]
      repeat' (first | refine aG ?_ | (refine aI ?_;  first | refine aC tabOk rfl rfl rfl (nb rfl) rfl ?_ | (refine aK rfl rfl rfl (nb rfl) rfl rfl rfl (fun hq => ?_) (fun hq => ?_) <;> (first | (simp only [sD, sE, sB, sC, sN, sM, sT, sF] at hq; try (exfalso; omega)) | skip))) | (refine aN ?_;  first | refine aH ?_ | refine aQ ?_ | refine aT ?_ | refine bY ?_ | refine aE (b := false) rfl nFt (fun _ => ?_)) | (refine aM ?_;  first | refine bA ?_ | refine bN ?_) | (refine aW ?_;  first | refine bJ ?_))
      all_goals first
        | (exfalso; omega)
        | (refine dU ((Imp.of_le (σ' := S.f ⟨[(2, .ref 500 (1 + m))], [(500, .arr 28 1 (1 + m) (.ptr pk 0 :: cs))]⟩) (bW (by repeat' first | exact trivial | refine ⟨rfl, ?_⟩) (by repeat' first | exact trivial | refine ⟨rfl, ?_⟩))).trans (cU (g := 500) rfl (by repeat' first | exact trivial | exact fun _ => rfl | refine ⟨?_, ?_⟩) (by repeat' first | exact trivial | exact fun _ => rfl | refine ⟨?_, ?_⟩))) ?_
           refine aU (by first | exact .inl rfl | exact .inr rfl) (bC rfl (aA rfl)) rfl ?_; rfl)
    | j + 3, h => omega
  | j + 3, h => omega
end Go.Proofs.YtocaohipfiapkaaGreat.Ab
namespace Go.Proofs.YtocaohipfiapkaaGreat.Ab
set_option linter.unusedVariables false
set_option linter.unusedSimpArgs false
open Go.RowKit
attribute [local irreducible] AWP AOps AExit AThen ABlock ANoGoto FeetOk
set_option maxHeartbeats 8000000 in
set_option maxRecDepth 10000 in
theorem aCk (i n d : Int) (s : Bool) (hn0 : 0 ≤ n) (hn : n ≤ 65536) (hd0 : 0 ≤ d) (hd : d ≤ 100000000) :
    ACalls Tryz.prog 94 [.imm (varT n).iv, .imm (.lit (.int .i64 d)), .obj 1000 0, .obj 1001 0] [(1000, .cells [.imm (.lit (.bool s))]), (1001, .cells [.imm (.lit (.int .i64 i))])]
      (.imm (occV i n d s).1.iv) [(1000, .cells [.imm (.lit (.bool (occV i n d s).2))]), (1001, .cells [.imm (.lit (.int .i64 i))])] := by
  cases s with
  | true =>
    have e : occV i n d true = (varT n, true) := rfl
    rw [e]
    unfold varT
    refine bZ [1000, 1001] Tryz.func94 rfl rfl (nb rfl) rfl rfl ?_
    repeat' (first | refine aG ?_ | (refine aI ?_;  first | refine aC tabOk rfl rfl rfl (nb rfl) rfl ?_ | refine cA rfl rfl (nb rfl) ?_ | refine bM tabOk rfl rfl rfl (nb rfl) rfl rfl rfl rfl ?_ | refine bP tabOk rfl rfl rfl rfl rfl rfl rfl rfl rfl rfl rfl ?_) | (refine aN ?_;  first | refine aH ?_ | refine aQ ?_ | refine aT ?_ | refine aR mixed (by kernel_rfl) ?_) | (refine aM ?_;  first | refine bA ?_) | refine bG (bF (by kernel_rfl)) ?_)
    all_goals first
      | exact absurd rfl (by assumption)
      | (exfalso; omega)
      | (refine cG (cF (by first | exact .inl rfl | exact .inr rfl) (bC rfl (aA rfl)) rfl (by repeat' first | exact trivial | refine ⟨rfl, ?_⟩) rfl ?_); rfl)
  | false =>
    by_cases h : 0 ≤ i ∧ d ≤ n ∧ n - d = i
    · have e : occV i n d false = (varT n, true) := by unfold occV; rw [decide_eq_true h]; rfl
      rw [e]
      unfold varT
      obtain ⟨h1, h2, h3⟩ := h
      refine bZ [1000, 1001] Tryz.func94 rfl rfl (nb rfl) rfl rfl ?_
      repeat' (first | refine aG ?_ | (refine aI ?_;  first | refine aC tabOk rfl rfl rfl (nb rfl) rfl ?_ | (refine aK rfl rfl rfl (nb rfl) rfl rfl rfl (fun hq => ?_) (fun hq => ?_) <;> (first | (simp only [sD, sE, sB, sC, sN, sM, sT, sF] at hq; try (exfalso; omega)) | skip)) | refine dB rfl rfl rfl (nb rfl) rfl rfl rfl (by omega) (by omega) ?_ | refine bM tabOk rfl rfl rfl (nb rfl) rfl rfl rfl rfl ?_ | refine bP tabOk rfl rfl rfl rfl rfl rfl rfl rfl rfl rfl rfl ?_) | (refine aN ?_;  first | refine aH ?_ | refine aQ ?_ | refine aT ?_ | refine aR mixed (by kernel_rfl) ?_) | (refine aM ?_;  first | refine bA ?_) | refine bG (bF (by kernel_rfl)) ?_)
      all_goals first
        | exact absurd rfl (by assumption)
        | (exfalso; omega)
        | (refine cG (cF (by first | exact .inl rfl | exact .inr rfl) (bC rfl (aA rfl)) rfl (by repeat' first | exact trivial | refine ⟨rfl, ?_⟩) rfl ?_); rfl)
    · have e : occV i n d false = (varT n, false) := by unfold occV; rw [decide_eq_false h]; rfl
      rw [e]
      unfold varT
      refine bZ [1000, 1001] Tryz.func94 rfl rfl (nb rfl) rfl rfl ?_
      repeat' (first | refine aG ?_ | (refine aI ?_;  first | refine aC tabOk rfl rfl rfl (nb rfl) rfl ?_ | refine cA rfl rfl (nb rfl) ?_ | (refine aK rfl rfl rfl (nb rfl) rfl rfl rfl (fun hq => ?_) (fun hq => ?_) <;> (first | (simp only [sD, sE, sB, sC, sN, sM, sT, sF] at hq; try (exfalso; omega)) | skip)) | refine dB rfl rfl rfl (nb rfl) rfl rfl rfl (by omega) (by omega) ?_ | refine bM tabOk rfl rfl rfl (nb rfl) rfl rfl rfl rfl ?_ | refine bP tabOk rfl rfl rfl rfl rfl rfl rfl rfl rfl rfl rfl ?_) | (refine aN ?_;  first | refine aH ?_ | refine aQ ?_ | refine aT ?_ | refine aR mixed (by kernel_rfl) ?_) | (refine aM ?_;  first | refine bA ?_) | refine bG (bF (by kernel_rfl)) ?_)
      all_goals first
        | exact absurd rfl (by assumption)
        | (exfalso; omega)
        | (refine cG (cF (by first | exact .inl rfl | exact .inr rfl) (bC rfl (aA rfl)) rfl (by repeat' first | exact trivial | refine ⟨rfl, ?_⟩) rfl ?_); rfl)
set_option maxHeartbeats 8000000 in
set_option maxRecDepth 10000 in
theorem uW (t : Tree) (i : Int) (hs : t.size ≤ 100000000) : ACalls Tryz.prog 79 [.imm t.iv, .imm (.lit (.int .i64 i))] [] (.imm (.lit (.bool (occP t i)))) [] := by
  have c1 := eM t hs
  unfold occP
  by_cases hc : checkP isConP t = 0
  · rw [decide_eq_true hc, Bool.true_and]
    obtain ⟨hw, hz, hf⟩ := bQ hc
    have hv := dN t hf
    have cw := (aBF (σ := Bool) (occV i) 94 (fun s => .lit (.bool s)) (fun _ => .lit (.int .i64 i)) (fun _ => True)
      (fun n d s _ h1 h2 h3 h4 => ⟨aCk i n d s h1 h2 h3 h4, trivial, by unfold occV varT; simp⟩) t 0 false hv hw (Int.le_refl _) (by omega) trivial).1
    rw [aBG i t 0 false hv, Bool.false_or] at cw
    rw [hc] at c1
    generalize decide (0 ≤ i ∧ 0 < cntP i t 0) = Q at *
    generalize (walkS (occV i) t 0 false).1 = W at *
    clear hc hw hz hf hv
    refine aJ Tryz.func79 rfl rfl (nb rfl) rfl ?_
    repeat' (first | refine aG ?_ | (refine aI ?_;  first | refine aC tabOk rfl rfl rfl (nb rfl) rfl ?_ | (refine aK rfl rfl rfl (nb rfl) rfl rfl rfl (fun hq => ?_) (fun hq => ?_) <;> (first | (simp only [sD, sE, sB, sC, sN, sM, sT, sF] at hq; try (exfalso; omega)) | skip)) | refine aD rfl rfl (nb rfl) rfl rfl rfl rfl (c1) ?_ | refine cK 1001 (d := 3) rfl rfl rfl (nb rfl) rfl rfl rfl rfl rfl rfl rfl ?_ | refine cV 1000 tabOk rfl rfl rfl (nb rfl) rfl rfl rfl rfl rfl rfl ?_ | refine cD rfl rfl (nb rfl) rfl rfl rfl rfl cw (by repeat' first | exact trivial | refine ⟨rfl, ?_⟩) rfl (by show ([1000, 1001] : List Nat).Nodup; decide) ?_ | refine bM tabOk rfl rfl rfl (nb rfl) rfl rfl rfl rfl ?_ | refine bP tabOk rfl rfl rfl rfl rfl rfl rfl rfl rfl rfl rfl ?_) | (refine aN ?_;  first | refine aH ?_ | refine aQ ?_ | refine bI ?_ | refine aT ?_ | refine aE (b := true) rfl (fun _ => ?_) nTf) | (refine aM ?_;  first | refine bA ?_))
    all_goals first
      | exact absurd rfl (by assumption)
      | (exfalso; omega)
      | (refine aU (by first | exact .inl rfl | exact .inr rfl) (bC rfl (aA rfl)) rfl ?_; rfl)
  · rw [decide_eq_false hc, Bool.false_and]
    generalize checkP isConP t = C at *
    refine aJ Tryz.func79 rfl rfl (nb rfl) rfl ?_
    repeat' (first | refine aG ?_ | (refine aI ?_;  first | refine aC tabOk rfl rfl rfl (nb rfl) rfl ?_ | (refine aK rfl rfl rfl (nb rfl) rfl rfl rfl (fun hq => ?_) (fun hq => ?_) <;> (first | (simp only [sD, sE, sB, sC, sN, sM, sT, sF] at hq; try (exfalso; omega)) | skip)) | refine aD rfl rfl (nb rfl) rfl rfl rfl rfl (c1) ?_ | refine cK 1001 (d := 3) rfl rfl rfl (nb rfl) rfl rfl rfl rfl rfl rfl rfl ?_ | refine cV 1000 tabOk rfl rfl rfl (nb rfl) rfl rfl rfl rfl rfl rfl ?_ | refine bM tabOk rfl rfl rfl (nb rfl) rfl rfl rfl rfl ?_ | refine bP tabOk rfl rfl rfl rfl rfl rfl rfl rfl rfl rfl rfl ?_) | (refine aN ?_;  first | refine aH ?_ | refine aQ ?_ | refine aT ?_ | refine aZ ?_ | refine aE (b := false) rfl nFt (fun _ => ?_)) | (refine aM ?_;  first | refine bA ?_))
    all_goals first
      | exact absurd (by assumption) hc
      | (exfalso; omega)
      | (refine aU (by first | exact .inl rfl | exact .inr rfl) (bC rfl (aA rfl)) rfl ?_; rfl)
end Go.Proofs.YtocaohipfiapkaaGreat.Ab
namespace Go.Proofs.YtocaohipfiapkaaGreat.Ab
set_option linter.unusedVariables false
set_option linter.unusedSimpArgs false
open Go.RowKit
attribute [local irreducible] AWP AOps AExit AThen ABlock ANoGoto FeetOk
theorem lV : starK.iv = .ptr [.lit (.int .i64 100), .lit (.int .i64 0), .lit (.string ⟨#[]⟩), .lit (.string ⟨#[]⟩), .sl false 0 []] 0 := rfl
set_option maxHeartbeats 4000000 in
set_option maxRecDepth 10000 in
theorem yA : ACalls Tryz.prog 65 [] [] (.imm starK.iv) [] := by
  refine aJ Tryz.func65 rfl rfl (nb rfl) rfl ?_
  repeat' (first | refine aG ?_ | (refine aI ?_;  first | refine aC tabOk rfl rfl rfl (nb rfl) rfl ?_ | refine aY tabOk rfl rfl (nb rfl) rfl ?_) | (refine aN ?_;  first | refine aH ?_ | refine aT ?_))
  all_goals (refine aU (by first | exact .inl rfl | exact .inr rfl) (bC rfl (aA rfl)) rfl ?_; rfl)
set_option maxHeartbeats 4000000 in
set_option maxRecDepth 10000 in
theorem zZ (t : Tree) (i : Int) (hs : t.size ≤ 100000000) : ACalls Tryz.prog 99 [.imm t.iv, .imm (.lit (.int .i64 i))] [] (.imm (.lit (.bool (occP t i)))) [] := by
  have c1 := uW t i hs
  refine aJ Tryz.func99 rfl rfl (nb rfl) rfl ?_
  repeat' (first | refine aG ?_ | (refine aI ?_;  first | refine aC tabOk rfl rfl rfl (nb rfl) rfl ?_ | refine aD rfl rfl (nb rfl) rfl rfl rfl rfl (c1) ?_) | (refine aN ?_;  first | refine aH ?_ | refine aT ?_))
  all_goals (refine aU (by first | exact .inl rfl | exact .inr rfl) (bC rfl (aA rfl)) rfl ?_; rfl)
/-- What lies in fields, in cases. -/
def innerP (kids : List Tree) : List Tree := kids.map kid0
set_option maxHeartbeats 8000000 in
set_option maxRecDepth 10000 in
theorem aBH (k n : Int) (a b : ByteArray) (kids : List Tree) (hl : kids.length ≤ 900000) (hk : ∀ t ∈ kids, ∃ k' n' a' b' c, t = .node k' n' a' b' [c] ∧ c.whole = true) :
    ACalls Tryz.prog 62 [.imm (Tree.iv (.node k n a b kids))] [] (.imm (.sl false (innerP kids).length (Tree.ivs (innerP kids)))) [] := by
  have hlen : (innerP kids).length = kids.length := List.length_map ..
  rw [hlen]
  refine cL Tryz.func62 rfl rfl (nb rfl) rfl ?_
  repeat' (first | refine aG ?_ | (refine aI ?_;  first | refine aC tabOk rfl rfl rfl (nb rfl) rfl ?_ | refine aY tabOk rfl rfl (nb rfl) rfl ?_) | (refine aN ?_;  first | refine aH ?_ | refine aQ ?_ | refine aX ?_))
  refine cW (nW (t := 3) 500 28 1 rfl (by simp) rfl rfl) ?_
  refine cH (ι := {j : Nat // j ≤ kids.length}) (fun j => S.f ⟨[(11, .imm (.lit (.int .i64 (j.1 : Int)))), (10, .imm (.lit (.int .i64 (kids.length : Int)))), (9, .imm (.sl false kids.length (Tree.ivs kids))), (3, .ref 500 j.1)], [(500, .arr 28 1 j.1 (Tree.ivs (innerP (kids.take j.1))))]⟩) (fun j => kids.length - j.1) ⟨0, Nat.zero_le _⟩ (bW (by repeat' first | exact trivial | refine ⟨rfl, ?_⟩) (by repeat' first | exact trivial | refine ⟨rfl, ?_⟩)) ?_
  rintro ⟨j, hj⟩
  dsimp only
  by_cases hlt : j < kids.length
  · have hget := cS kids j hlt
    obtain ⟨k', n', a', b', c, e, hcw⟩ := hk _ (List.getElem_mem hlt)
    obtain ⟨pc, hpc⟩ := bT (bK hcw)
    have hnx : Tree.ivs (innerP (kids.take (j + 1))) = Tree.ivs (innerP (kids.take j)) ++ [.ptr pc 0] := by
      unfold innerP
      rw [List.take_succ_eq_append_getElem hlt, List.map_append, cX, cX, List.map_append, e]
      show _ ++ [c.iv] = _
      rw [hpc]
    have hil := dD (innerP (kids.take j))
    unfold innerP at hil
    rw [List.length_map, List.length_take, Nat.min_eq_left hj] at hil
    rw [e] at hget
    have en : (Tree.node k' n' a' b' [c]).iv = .ptr [.lit (.int .i64 k'), .lit (.int .i64 n'), .lit (.string a'), .lit (.string b'), .sl false 1 [.ptr pc 0]] 0 := by
      rw [Tree.iv, Tree.ivs, Tree.ivs, hpc]; rfl
    rw [en] at hget
    change (Tree.ivs (innerP (kids.take j))).length = j at hil
    clear hk
    generalize Tree.ivs (innerP (kids.take j)) = ZI at *
    repeat' (first | refine aG ?_ | (refine aI ?_;  first | refine aC tabOk rfl rfl rfl (nb rfl) rfl ?_ | (refine aK rfl rfl rfl (nb rfl) rfl rfl rfl (fun hq => ?_) (fun hq => ?_) <;> (first | (simp only [sD, sE, sB, sC, sN, sM, sT, sF] at hq; try (exfalso; omega)) | skip)) | refine bO tabOk rfl rfl rfl (nb rfl) rfl rfl rfl hget ?_ | refine cN tabOk rfl rfl rfl (nb rfl) rfl rfl rfl rfl rfl rfl rfl (by first | omega | decide) rfl (by first | omega | (dsimp only; omega)) (by first | omega | (dsimp only; omega)) ?_ | refine bX rfl rfl rfl (nb rfl) rfl rfl (by omega) ?_ | refine cI tabOk rfl rfl rfl (nb rfl) rfl rfl rfl rfl rfl rfl rfl rfl rfl ?_ | refine bH tabOk rfl rfl rfl (nb rfl) rfl rfl rfl rfl (by first | assumption | omega) ?_ | refine bE tabOk rfl rfl rfl (nb rfl) rfl rfl rfl rfl (by first | rfl | omega) (by first | omega | simp) ?_) | (refine aN ?_;  first | refine aH ?_ | refine aQ ?_ | refine bI ?_ | refine aX ?_ | refine aZ ?_ | refine aE (b := true) rfl (fun _ => ?_) nTf) | (refine aM ?_;  first | refine bA ?_) | (refine aW ?_;  first | refine bS ?_))
    all_goals first
      | (exfalso; omega)
      | (refine ⟨⟨j + 1, hlt⟩, (by show kids.length - (j + 1) < kids.length - j; omega), ?_⟩; dsimp only; rw [hnx]; exact (bW (by repeat' first | exact trivial | refine ⟨rfl, ?_⟩) (by repeat' first | exact trivial | refine ⟨rfl, ?_⟩)))
  · have ej : j = kids.length := by omega
    subst ej
    rw [List.take_length]
    generalize Tree.ivs (innerP kids) = ZI at *
    repeat' (first | refine aG ?_ | (refine aI ?_;  first | refine aC tabOk rfl rfl rfl (nb rfl) rfl ?_ | (refine aK rfl rfl rfl (nb rfl) rfl rfl rfl (fun hq => ?_) (fun hq => ?_) <;> (first | (simp only [sD, sE, sB, sC, sN, sM, sT, sF] at hq; try (exfalso; omega)) | skip))) | (refine aN ?_;  first | refine aH ?_ | refine aQ ?_ | refine aT ?_ | refine bY ?_ | refine aE (b := false) rfl nFt (fun _ => ?_)) | (refine aM ?_;  first | refine bA ?_ | refine bN ?_) | (refine aW ?_;  first | refine bJ ?_))
    all_goals first
      | (exfalso; omega)
      | (refine dU ((Imp.of_le (σ' := S.f ⟨[(2, .ref 500 kids.length)], [(500, .arr 28 1 kids.length ZI)]⟩) (bW (by repeat' first | exact trivial | refine ⟨rfl, ?_⟩) (by repeat' first | exact trivial | refine ⟨rfl, ?_⟩))).trans (cU (g := 500) rfl (by repeat' first | exact trivial | exact fun _ => rfl | refine ⟨?_, ?_⟩) (by repeat' first | exact trivial | exact fun _ => rfl | refine ⟨?_, ?_⟩))) ?_
         refine aU (by first | exact .inl rfl | exact .inr rfl) (bC rfl (aA rfl)) rfl ?_; rfl)
end Go.Proofs.YtocaohipfiapkaaGreat.Ab
namespace Go.Proofs.YtocaohipfiapkaaGreat.Ab
set_option linter.unusedVariables false
set_option linter.unusedSimpArgs false
open Go.RowKit
attribute [local irreducible] AWP AOps AExit AThen ABlock ANoGoto FeetOk
theorem lW : ∀ l : List Tree, placedFs l = !(l.any fun t => !placedF t)
  | [] => rfl
  | t :: ts => by rw [placedFs, lW ts, List.any_cons]; cases placedF t <;> simp
set_option maxHeartbeats 4000000 in
set_option maxRecDepth 10000 in
theorem aAa (k n : Int) (a b : ByteArray) (c : Tree) (q : Bool)
    (h : ACalls Tryz.prog 85 [.imm c.iv] [] (.imm (.lit (.bool q))) []) :
    ACalls Tryz.prog 98 [.imm (Tree.iv (.node k n a b [c]))] [] (.imm (.lit (.bool (!q)))) [] := by
  refine aJ Tryz.func98 rfl rfl (nb rfl) rfl ?_
  repeat' (first | refine aG ?_ | (refine aI ?_;  first | refine aC tabOk rfl rfl rfl (nb rfl) rfl ?_ | refine aD rfl rfl (nb rfl) rfl rfl rfl rfl (h) ?_ | refine bE tabOk rfl rfl rfl (nb rfl) rfl rfl rfl rfl (by first | rfl | omega) (by first | omega | simp) ?_) | (refine aN ?_;  first | refine aH ?_ | refine aT ?_))
  all_goals (refine aU (by first | exact .inl rfl | exact .inr rfl) (bC rfl (aA rfl)) rfl ?_; rfl)
set_option maxHeartbeats 8000000 in
set_option maxRecDepth 10000 in
theorem aAU (t : Tree) : isConP t = true → t.whole = true → t.size ≤ 100000000 → ACalls Tryz.prog 85 [.imm t.iv] [] (.imm (.lit (.bool (placedP t)))) [] := by
  induction t using Tree.sind with
  | h t ih =>
    intro hf hw hs
    have c2 := zZ t 0 hs
    obtain ⟨k, n, a, b, kids, rfl⟩ := cJ hw
    have hl : kids.length < 1000000000 := by have := cO kids hw; simp only [Tree.size] at hs; omega
    rw [placedP]
    by_cases h1 : k = 110
    · subst h1
      rw [if_pos rfl]
      clear c2 ih
      refine aJ Tryz.func85 rfl rfl (nb rfl) rfl ?_
      repeat' (first | refine aG ?_ | (refine aI ?_;  first | refine aC tabOk rfl rfl rfl (nb rfl) rfl ?_ | (refine aK rfl rfl rfl (nb rfl) rfl rfl rfl (fun hq => ?_) (fun hq => ?_) <;> (first | (simp only [sD, sE, sB, sC, sN, sM, sT, sF] at hq; try (exfalso; omega)) | skip))) | (refine aN ?_;  first | refine aH ?_ | refine aQ ?_ | refine aX ?_ | refine aT ?_ | refine aE (b := true) rfl (fun _ => ?_) nTf) | (refine aM ?_;  first | refine aV ?_) | (refine aW ?_;  first | refine bD ?_))
      all_goals first
        | exact absurd rfl (by assumption)
        | (exfalso; omega)
        | (refine aU (by first | exact .inl rfl | exact .inr rfl) (bC rfl (aA rfl)) rfl ?_; rfl)
    · rw [if_neg h1]
      by_cases h2 : k = 115
      · subst h2
        rw [if_pos rfl]
        have hp := (eB hf).2.2.1 rfl
        have c1 := iT kids 98 (fun t => !placedF t) hl fun j h => by
          have hm := List.getElem_mem h
          obtain ⟨n', a', b', c, e, hc⟩ := hp _ hm
          have hz := bR (k := 115) (n := n) (a := a) (b := b) hm
          have hwj := bL hw hm
          try dsimp only
          rw [e] at hz hwj ⊢
          have hz2 := bR (k := 116) (n := n') (a := a') (b := b') (kids := [c]) (t := c) (by simp)
          rw [placedF, placedH]
          exact aAa 116 n' a' b' c _ (ih c (by omega) hc (bL hwj (by simp)) (by omega))
        rw [lW]
        generalize (kids.any fun t => !placedF t) = Q at *
        clear c2 ih
        refine aJ Tryz.func85 rfl rfl (nb rfl) rfl ?_
        repeat' (first | refine aG ?_ | (refine aI ?_;  first | refine aC tabOk rfl rfl rfl (nb rfl) rfl ?_ | (refine aK rfl rfl rfl (nb rfl) rfl rfl rfl (fun hq => ?_) (fun hq => ?_) <;> (first | (simp only [sD, sE, sB, sC, sN, sM, sT, sF] at hq; try (exfalso; omega)) | skip)) | refine aD rfl rfl (nb rfl) rfl rfl rfl rfl (c1) ?_) | (refine aN ?_;  first | refine aH ?_ | refine aQ ?_ | refine aX ?_ | refine aT ?_ | refine aE (b := true) rfl (fun _ => ?_) nTf | refine aE (b := false) rfl nFt (fun _ => ?_)) | (refine aM ?_;  first | refine aV ?_) | (refine aW ?_;  first | refine bD ?_))
        all_goals first
          | exact absurd rfl (by assumption)
          | (exfalso; omega)
          | (refine aU (by first | exact .inl rfl | exact .inr rfl) (bC rfl (aA rfl)) rfl ?_; rfl)
      · rw [if_neg h2]
        generalize occP (.node k n a b kids) 0 = Q at *
        clear ih
        refine aJ Tryz.func85 rfl rfl (nb rfl) rfl ?_
        repeat' (first | refine aG ?_ | (refine aI ?_;  first | refine aC tabOk rfl rfl rfl (nb rfl) rfl ?_ | (refine aK rfl rfl rfl (nb rfl) rfl rfl rfl (fun hq => ?_) (fun hq => ?_) <;> (first | (simp only [sD, sE, sB, sC, sN, sM, sT, sF] at hq; try (exfalso; omega)) | skip)) | refine aD rfl rfl (nb rfl) rfl rfl rfl rfl (c2) ?_) | (refine aN ?_;  first | refine aH ?_ | refine aQ ?_ | refine aX ?_ | refine aT ?_ | refine aZ ?_ | refine aE (b := false) rfl nFt (fun _ => ?_)) | (refine aM ?_;  first | refine bA ?_) | (refine aW ?_;  first | refine bS ?_))
        all_goals first
          | exact absurd rfl (by assumption)
          | (exfalso; omega)
          | (refine aU (by first | exact .inl rfl | exact .inr rfl) (bC rfl (aA rfl)) rfl ?_; rfl)
set_option maxHeartbeats 8000000 in
set_option maxRecDepth 10000 in
theorem aCl (k n : Int) (a b : ByteArray) (kids : List Tree) (hl : kids.length ≤ 900000) (hk : ∀ t ∈ kids, ∃ n' a' b' c, t = .node 122 n' a' b' [c] ∧ c.whole = true ∧ isConP c = true ∧ c.size ≤ 100000000) :
    ACalls Tryz.prog 66 [.imm (Tree.iv (.node k n a b kids))] [] (.imm (.lit (.int .i64 (fitsP kids)))) [] := by
  generalize hR : fitsP kids = Q
  refine aJ Tryz.func66 rfl rfl (nb rfl) rfl ?_
  repeat' (first | refine aG ?_ | (refine aI ?_;  first | refine aC tabOk rfl rfl rfl (nb rfl) rfl ?_ | refine aY tabOk rfl rfl (nb rfl) rfl ?_) | (refine aN ?_;  first | refine aH ?_ | refine aQ ?_ | refine aX ?_))
  refine cH (ι := {j : Nat // j ≤ kids.length ∧ fitsP (kids.drop j) = Q}) (fun j => S.f ⟨[(10, .imm (.lit (.int .i64 (j.1 : Int)))), (9, .imm (.lit (.int .i64 (kids.length : Int)))), (8, .imm (.sl false kids.length (Tree.ivs kids)))], []⟩) (fun j => kids.length - j.1) ⟨0, Nat.zero_le _, hR⟩ (bW (by repeat' first | exact trivial | refine ⟨rfl, ?_⟩) (by repeat' first | exact trivial | refine ⟨rfl, ?_⟩)) ?_
  clear hR
  rintro ⟨j, hj, hR⟩
  dsimp only
  by_cases hlt : j < kids.length
  · have hget := cS kids j hlt
    obtain ⟨n', a', b', c, e, hcw, hcf, hcs⟩ := hk _ (List.getElem_mem hlt)
    have hc := aAU c hcf hcw hcs
    rw [List.drop_eq_getElem_cons hlt, e] at hR
    rw [e] at hget
    unfold fitsP at hR
    rw [placedFs, placedF, placedH] at hR
    clear hk
    cases hp : placedP c with
    | true =>
      rw [hp, Bool.true_and] at hR
      rw [hp] at hc
      repeat' (first | refine aG ?_ | (refine aI ?_;  first | refine aC tabOk rfl rfl rfl (nb rfl) rfl ?_ | (refine aK rfl rfl rfl (nb rfl) rfl rfl rfl (fun hq => ?_) (fun hq => ?_) <;> (first | (simp only [sD, sE, sB, sC, sN, sM, sT, sF] at hq; try (exfalso; omega)) | skip)) | refine bO tabOk rfl rfl rfl (nb rfl) rfl rfl rfl hget ?_ | refine aD rfl rfl (nb rfl) rfl rfl rfl rfl (hc) ?_ | refine bX rfl rfl rfl (nb rfl) rfl rfl (by omega) ?_ | refine bH tabOk rfl rfl rfl (nb rfl) rfl rfl rfl rfl (by first | assumption | omega) ?_ | refine bE tabOk rfl rfl rfl (nb rfl) rfl rfl rfl rfl (by first | rfl | omega) (by first | omega | simp) ?_) | (refine aN ?_;  first | refine aH ?_ | refine aQ ?_ | refine bI ?_ | refine aX ?_ | refine aZ ?_ | refine aE (b := true) rfl (fun _ => ?_) nTf | refine aE (b := false) rfl nFt (fun _ => ?_)) | (refine aM ?_;  first | refine bA ?_) | (refine aW ?_;  first | refine bS ?_))
      all_goals first
        | (exfalso; omega)
        | exact ⟨⟨j + 1, hlt, hR⟩, (by show kids.length - (j + 1) < kids.length - j; omega), (bW (by repeat' first | exact trivial | refine ⟨rfl, ?_⟩) (by repeat' first | exact trivial | refine ⟨rfl, ?_⟩))⟩
    | false =>
      rw [hp, Bool.false_and, if_neg (by decide)] at hR
      rw [hp] at hc
      subst hR
      repeat' (first | refine aG ?_ | (refine aI ?_;  first | refine aC tabOk rfl rfl rfl (nb rfl) rfl ?_ | (refine aK rfl rfl rfl (nb rfl) rfl rfl rfl (fun hq => ?_) (fun hq => ?_) <;> (first | (simp only [sD, sE, sB, sC, sN, sM, sT, sF] at hq; try (exfalso; omega)) | skip)) | refine bO tabOk rfl rfl rfl (nb rfl) rfl rfl rfl hget ?_ | refine aD rfl rfl (nb rfl) rfl rfl rfl rfl (hc) ?_ | refine bH tabOk rfl rfl rfl (nb rfl) rfl rfl rfl rfl (by first | assumption | omega) ?_ | refine bE tabOk rfl rfl rfl (nb rfl) rfl rfl rfl rfl (by first | rfl | omega) (by first | omega | simp) ?_) | (refine aN ?_;  first | refine aH ?_ | refine aQ ?_ | refine aX ?_ | refine aT ?_ | refine aZ ?_ | refine aE (b := true) rfl (fun _ => ?_) nTf) | (refine aM ?_;  first | refine bA ?_ | refine aV ?_) | (refine aW ?_;  first | refine bD ?_))
      all_goals first
        | (exfalso; omega)
        | (refine aU (by first | exact .inl rfl | exact .inr rfl) (bC rfl (aA rfl)) rfl ?_; rfl)
  · have ej : j = kids.length := by omega
    subst ej
    rw [List.drop_length] at hR
    unfold fitsP at hR
    rw [placedFs, if_pos rfl] at hR
    subst hR
    repeat' (first | refine aG ?_ | (refine aI ?_;  first | refine aC tabOk rfl rfl rfl (nb rfl) rfl ?_ | (refine aK rfl rfl rfl (nb rfl) rfl rfl rfl (fun hq => ?_) (fun hq => ?_) <;> (first | (simp only [sD, sE, sB, sC, sN, sM, sT, sF] at hq; try (exfalso; omega)) | skip))) | (refine aN ?_;  first | refine aH ?_ | refine aQ ?_ | refine aT ?_ | refine bY ?_ | refine aE (b := false) rfl nFt (fun _ => ?_)) | (refine aM ?_;  first | refine bA ?_ | refine bN ?_) | (refine aW ?_;  first | refine bJ ?_))
    all_goals first
      | (exfalso; omega)
      | (refine aU (by first | exact .inl rfl | exact .inr rfl) (bC rfl (aA rfl)) rfl ?_; rfl)
/-- Do all come to types? -/
def starsG : List (Tree × Int) → Tree × Int
  | [] => (starK, 0)
  | R :: Rs => star1 R (starsG Rs)
theorem kZ (ctx : List Tree) : ∀ l : List Tree, starsP l ctx = starsG (l.map fun t => kindP t ctx)
  | [] => by rw [starsP]; rfl
  | t :: ts => by rw [starsP, kZ ctx ts]; rfl
theorem lA (ctx : List Tree) : ∀ l : List Tree, starsF l ctx = starsG (l.map fun t => kindF t ctx)
  | [] => by rw [starsF]; rfl
  | t :: ts => by rw [starsF, lA ctx ts]; rfl
set_option maxHeartbeats 8000000 in
set_option maxRecDepth 10000 in
theorem tE (X : IV) (f : Bool) (l : List Tree) (R : Tree → Tree × Int) (hl : l.length ≤ 900000)
    (hR : ∀ t ∈ l, (R t).2 = 0 → (R t).1.whole = true)
    (h : ∀ t ∈ l, ACalls Tryz.prog 34 [.imm X, .imm t.iv] [] (.imm (.tup [(R t).1.iv, .lit (.int .i64 (R t).2)])) []) :
    ACalls Tryz.prog 61 [.imm X, .imm (.sl f l.length (Tree.ivs l))] [] (.imm (.tup [(starsG (l.map R)).1.iv, .lit (.int .i64 (starsG (l.map R)).2)])) [] := by
  generalize hQ : starsG (l.map R) = Q
  refine aJ Tryz.func61 rfl rfl (nb rfl) rfl ?_
  repeat' (first | refine aG ?_ | (refine aI ?_;  first | refine aC tabOk rfl rfl rfl (nb rfl) rfl ?_ | refine aY tabOk rfl rfl (nb rfl) rfl ?_) | (refine aN ?_;  first | refine aH ?_ | refine aQ ?_ | refine aX ?_))
  refine cH (ι := {j : Nat // j ≤ l.length ∧ starsG ((l.drop j).map R) = Q}) (fun j => S.f ⟨[(12, .imm (.lit (.int .i64 (j.1 : Int)))), (11, .imm (.lit (.int .i64 (l.length : Int)))), (10, .imm (.sl f l.length (Tree.ivs l))), (0, .imm X)], []⟩) (fun j => l.length - j.1) ⟨0, Nat.zero_le _, hQ⟩ (bW (by repeat' first | exact trivial | refine ⟨rfl, ?_⟩) (by repeat' first | exact trivial | refine ⟨rfl, ?_⟩)) ?_
  clear hQ
  rintro ⟨j, hj, hQ⟩
  dsimp only
  by_cases hlt : j < l.length
  · have hget := cS l j hlt
    have hm := List.getElem_mem hlt
    have hc := h _ hm
    have hw := hR _ hm
    rw [List.drop_eq_getElem_cons hlt, List.map_cons, starsG] at hQ
    generalize l[j] = t at *
    generalize R t = r at *
    unfold star1 at hQ
    by_cases h0 : r.2 = 0
    · rw [if_neg (by simpa using h0)] at hQ
      obtain ⟨k, n, a, b, ks, hk⟩ := cJ (hw h0)
      obtain ⟨r1, r2⟩ := r
      dsimp only at hk h0
      subst hk h0
      rw [Tree.kind] at hQ
      by_cases h1 : k = 100
      · rw [if_neg (by simpa using h1)] at hQ
        clear h hR hw
        repeat' (first | refine aG ?_ | (refine aI ?_;  first | refine aC tabOk rfl rfl rfl (nb rfl) rfl ?_ | (refine aK rfl rfl rfl (nb rfl) rfl rfl rfl (fun hq => ?_) (fun hq => ?_) <;> (first | (simp only [sD, sE, sB, sC, sN, sM, sT, sF] at hq; try (exfalso; omega)) | skip)) | refine bO tabOk rfl rfl rfl (nb rfl) rfl rfl rfl hget ?_ | refine aD rfl rfl (nb rfl) rfl rfl rfl rfl (hc) ?_ | refine bX rfl rfl rfl (nb rfl) rfl rfl (by omega) ?_ | refine bH tabOk rfl rfl rfl (nb rfl) rfl rfl rfl rfl (by first | assumption | omega) ?_) | (refine aN ?_;  first | refine aH ?_ | refine aQ ?_ | refine bI ?_ | refine aX ?_ | refine aZ ?_ | refine aE (b := true) rfl (fun _ => ?_) nTf | refine aE (b := false) rfl nFt (fun _ => ?_)) | (refine aM ?_;  first | refine bA ?_) | (refine aW ?_;  first | refine bS ?_))
        all_goals first
          | (exfalso; omega)
          | exact absurd rfl (by assumption)
          | exact ⟨⟨j + 1, hlt, hQ⟩, (by show l.length - (j + 1) < l.length - j; omega), (bW (by repeat' first | exact trivial | refine ⟨rfl, ?_⟩) (by repeat' first | exact trivial | refine ⟨rfl, ?_⟩))⟩
      · rw [if_pos h1] at hQ
        subst hQ
        clear h hR hw
        repeat' (first | refine aG ?_ | (refine aI ?_;  first | refine aC tabOk rfl rfl rfl (nb rfl) rfl ?_ | (refine aK rfl rfl rfl (nb rfl) rfl rfl rfl (fun hq => ?_) (fun hq => ?_) <;> (first | (simp only [sD, sE, sB, sC, sN, sM, sT, sF] at hq; try (exfalso; omega)) | skip)) | refine bO tabOk rfl rfl rfl (nb rfl) rfl rfl rfl hget ?_ | refine aD rfl rfl (nb rfl) rfl rfl rfl rfl (hc) ?_ | refine bH tabOk rfl rfl rfl (nb rfl) rfl rfl rfl rfl (by first | assumption | omega) ?_) | (refine aN ?_;  first | refine aH ?_ | refine aQ ?_ | refine aX ?_ | refine aT ?_ | refine aZ ?_ | refine aE (b := true) rfl (fun _ => ?_) nTf | refine aE (b := false) rfl nFt (fun _ => ?_)) | (refine aM ?_;  first | refine bA ?_ | refine aV ?_) | (refine aW ?_;  first | refine bD ?_))
        all_goals first
          | (exfalso; omega)
          | exact absurd rfl (by assumption)
          | (refine aU (by first | exact .inl rfl | exact .inr rfl) (bB rfl (aA rfl) (aA rfl)) rfl ?_; rfl)
    · rw [if_pos h0] at hQ
      subst hQ
      clear h hR hw
      generalize r.1.iv = RI at *
      generalize r.2 = re at *
      repeat' (first | refine aG ?_ | (refine aI ?_;  first | refine aC tabOk rfl rfl rfl (nb rfl) rfl ?_ | (refine aK rfl rfl rfl (nb rfl) rfl rfl rfl (fun hq => ?_) (fun hq => ?_) <;> (first | (simp only [sD, sE, sB, sC, sN, sM, sT, sF] at hq; try (exfalso; omega)) | skip)) | refine bO tabOk rfl rfl rfl (nb rfl) rfl rfl rfl hget ?_ | refine aD rfl rfl (nb rfl) rfl rfl rfl rfl (hc) ?_ | refine bH tabOk rfl rfl rfl (nb rfl) rfl rfl rfl rfl (by first | assumption | omega) ?_) | (refine aN ?_;  first | refine aH ?_ | refine aQ ?_ | refine aX ?_ | refine aT ?_ | refine aZ ?_ | refine aE (b := true) rfl (fun _ => ?_) nTf) | (refine aM ?_;  first | refine bA ?_ | refine aV ?_) | (refine aW ?_;  first | refine bD ?_))
      all_goals first
        | (exfalso; omega)
        | exact absurd rfl (by assumption)
        | (refine aU (by first | exact .inl rfl | exact .inr rfl) (bB rfl (aA rfl) (aA rfl)) rfl ?_; rfl)
  · have ej : j = l.length := by omega
    subst ej
    rw [List.drop_length, List.map_nil, starsG] at hQ
    subst hQ
    have c1 := yA
    clear h hR
    repeat' (first | refine aG ?_ | (refine aI ?_;  first | refine aC tabOk rfl rfl rfl (nb rfl) rfl ?_ | (refine aK rfl rfl rfl (nb rfl) rfl rfl rfl (fun hq => ?_) (fun hq => ?_) <;> (first | (simp only [sD, sE, sB, sC, sN, sM, sT, sF] at hq; try (exfalso; omega)) | skip)) | refine aD rfl rfl (nb rfl) rfl rfl rfl rfl (c1) ?_) | (refine aN ?_;  first | refine aH ?_ | refine aQ ?_ | refine aT ?_ | refine bY ?_ | refine aE (b := false) rfl nFt (fun _ => ?_)) | (refine aM ?_;  first | refine bA ?_ | refine bN ?_) | (refine aW ?_;  first | refine bJ ?_))
    all_goals first
      | (exfalso; omega)
      | (refine aU (by first | exact .inl rfl | exact .inr rfl) (bB rfl (aA rfl) (aA rfl)) rfl ?_; rfl)
end Go.Proofs.YtocaohipfiapkaaGreat.Ab
namespace Go.Proofs.YtocaohipfiapkaaGreat.Ab
set_option linter.unusedVariables false
set_option linter.unusedSimpArgs false
open Go.RowKit
attribute [local irreducible] AWP AOps AExit AThen ABlock ANoGoto FeetOk
/-- What holds a list of trees: the list, or nil for none. -/
def rowIV (X : IV) (l : List Tree) : Prop := (∃ f, X = .sl f l.length (Tree.ivs l)) ∨ (l = [] ∧ X = .lit (.slice none 0 0))
theorem dY (f : Bool) (l : List Tree) : rowIV (.sl f l.length (Tree.ivs l)) l := .inl ⟨f, rfl⟩
theorem kA : rowIV (.lit (.slice none 0 0)) [] := .inr ⟨rfl, rfl⟩
set_option maxHeartbeats 16000000 in
set_option maxRecDepth 10000 in
/-- One ahead of nil. -/
theorem aAb (fa : Bool) (pk : List IV) : ACalls Tryz.prog 46 [.imm (.sl fa 2 [.sl true 1 [.ptr pk 0], .lit (.slice none 0 0)])] [] (.imm (.sl false 1 [.ptr pk 0])) [] := by
  have cg := xZ 1 (by omega) (by omega)
  refine cL Tryz.func46 rfl rfl (nb rfl) rfl ?_
  refine cW (eG 500 (by simp) rfl rfl) ?_
  repeat' (first | refine aG ?_ | (refine aI ?_;  first | refine aC tabOk rfl rfl rfl (nb rfl) rfl ?_ | refine aY tabOk rfl rfl (nb rfl) rfl ?_) | (refine aN ?_;  first | refine aH ?_ | refine aQ ?_ | refine aX ?_))
  refine cH (ι := {j : Nat // j ≤ 2}) (fun j => S.f ⟨[(11, .imm (.lit (.int .i64 (j.1 : Int)))), (10, .imm (.lit (.int .i64 2))), (9, .imm (.sl fa 2 [.sl true 1 [.ptr pk 0], .lit (.slice none 0 0)])), (0, .imm (.sl fa 2 [.sl true 1 [.ptr pk 0], .lit (.slice none 0 0)])), (3, .imm (.lit (.int .i64 (if j.1 = 0 then 0 else 1))))], [(500, .fut)]⟩) (fun j => 2 - j.1) ⟨0, Nat.zero_le _⟩ (bW (by repeat' first | exact trivial | refine ⟨rfl, ?_⟩) (by repeat' first | exact trivial | refine ⟨rfl, ?_⟩)) ?_
  rintro ⟨j, hj⟩
  dsimp only
  match j, hj with
  | 0, _ =>
    repeat' (first | refine aG ?_ | (refine aI ?_;  first | refine aC tabOk rfl rfl rfl (nb rfl) rfl ?_ | (refine aK rfl rfl rfl (nb rfl) rfl rfl rfl (fun hq => ?_) (fun hq => ?_) <;> (first | (simp only [sD, sE, sB, sC, sN, sM, sT, sF] at hq; try (exfalso; omega)) | skip)) | refine bX rfl rfl rfl (nb rfl) rfl rfl (by omega) ?_ | refine dL rfl rfl rfl (nb rfl) rfl rfl rfl (by omega) (by omega) ?_ | refine aY tabOk rfl rfl (nb rfl) rfl ?_ | refine bH tabOk rfl rfl rfl (nb rfl) rfl rfl rfl rfl (by first | assumption | omega) ?_) | (refine aN ?_;  first | refine aH ?_ | refine aQ ?_ | refine bI ?_ | refine aX ?_ | refine aZ ?_ | refine aE (b := true) rfl (fun _ => ?_) nTf | refine aE (b := false) rfl nFt (fun _ => ?_)) | (refine aM ?_;  first | refine bA ?_) | (refine aW ?_;  first | refine bS ?_))
    all_goals first
      | (exfalso; omega)
      | exact ⟨⟨1, by omega⟩, (by show 2 - 1 < 2 - 0; omega), (bW (by repeat' first | exact trivial | refine ⟨rfl, ?_⟩) (by repeat' first | exact trivial | refine ⟨rfl, ?_⟩))⟩
  | 1, _ =>
    rw [if_neg (by decide)]
    repeat' (first | refine aG ?_ | (refine aI ?_;  first | refine aC tabOk rfl rfl rfl (nb rfl) rfl ?_ | (refine aK rfl rfl rfl (nb rfl) rfl rfl rfl (fun hq => ?_) (fun hq => ?_) <;> (first | (simp only [sD, sE, sB, sC, sN, sM, sT, sF] at hq; try (exfalso; omega)) | skip)) | refine bX rfl rfl rfl (nb rfl) rfl rfl (by omega) ?_ | refine dL rfl rfl rfl (nb rfl) rfl rfl rfl (by omega) (by omega) ?_ | refine aY tabOk rfl rfl (nb rfl) rfl ?_ | refine bH tabOk rfl rfl rfl (nb rfl) rfl rfl rfl rfl (by first | assumption | omega) ?_) | (refine aN ?_;  first | refine aH ?_ | refine aQ ?_ | refine bI ?_ | refine aX ?_ | refine aZ ?_ | refine aE (b := true) rfl (fun _ => ?_) nTf | refine aE (b := false) rfl nFt (fun _ => ?_)) | (refine aM ?_;  first | refine bA ?_) | (refine aW ?_;  first | refine bS ?_))
    all_goals first
      | (exfalso; omega)
      | exact ⟨⟨2, by omega⟩, (by show 2 - 2 < 2 - 1; omega), (bW (by repeat' first | exact trivial | refine ⟨rfl, ?_⟩) (by repeat' first | exact trivial | refine ⟨rfl, ?_⟩))⟩
  | 2, _ =>
    rw [if_neg (by decide)]
    repeat' (first | refine aG ?_ | (refine aI ?_;  first | refine aC tabOk rfl rfl rfl (nb rfl) rfl ?_ | (refine aK rfl rfl rfl (nb rfl) rfl rfl rfl (fun hq => ?_) (fun hq => ?_) <;> (first | (simp only [sD, sE, sB, sC, sN, sM, sT, sF] at hq; try (exfalso; omega)) | skip)) | refine cD rfl rfl (nb rfl) rfl rfl rfl rfl cg (by repeat' first | exact trivial | refine ⟨rfl, ?_⟩) rfl (by show ([500] : List Nat).Nodup; decide) ?_ | refine aY tabOk rfl rfl (nb rfl) rfl ?_) | (refine aN ?_;  first | refine aH ?_ | refine aQ ?_ | refine aX ?_ | refine bY ?_ | refine aE (b := false) rfl nFt (fun _ => ?_)) | (refine aM ?_;  first | refine bA ?_ | refine bN ?_) | (refine aW ?_;  first | refine bJ ?_))
    all_goals first
      | (exfalso; omega)
      | skip
    refine cH (ι := {j : Nat // j ≤ 2}) (fun j => S.f ⟨[(27, .imm (.lit (.int .i64 (j.1 : Int)))), (26, .imm (.lit (.int .i64 2))), (25, .imm (.sl fa 2 [.sl true 1 [.ptr pk 0], .lit (.slice none 0 0)])), (6, .ref 500 (if j.1 = 0 then 0 else 1))], [(500, .arr 28 1 (if j.1 = 0 then 0 else 1) (if j.1 = 0 then [] else [.ptr pk 0]))]⟩) (fun j => 2 - j.1) ⟨0, Nat.zero_le _⟩ (bW (by repeat' first | exact trivial | refine ⟨rfl, ?_⟩) (by repeat' first | exact trivial | refine ⟨rfl, ?_⟩)) ?_
    rintro ⟨j, hj⟩
    dsimp only
    match j, hj with
    | 0, _ =>
      rw [if_pos rfl, if_pos rfl]
      repeat' (first | refine aG ?_ | (refine aI ?_;  first | refine aC tabOk rfl rfl rfl (nb rfl) rfl ?_ | (refine aK rfl rfl rfl (nb rfl) rfl rfl rfl (fun hq => ?_) (fun hq => ?_) <;> (first | (simp only [sD, sE, sB, sC, sN, sM, sT, sF] at hq; try (exfalso; omega)) | skip)) | refine cN tabOk rfl rfl rfl (nb rfl) rfl rfl rfl rfl rfl rfl rfl (by first | omega | decide) rfl (by first | omega | (dsimp only; omega)) (by first | omega | (dsimp only; omega)) ?_ | refine bX rfl rfl rfl (nb rfl) rfl rfl (by omega) ?_ | refine bH tabOk rfl rfl rfl (nb rfl) rfl rfl rfl rfl (by first | assumption | omega) ?_) | (refine aN ?_;  first | refine aH ?_ | refine aQ ?_ | refine bI ?_ | refine aX ?_ | refine aZ ?_ | refine aE (b := true) rfl (fun _ => ?_) nTf) | (refine aM ?_;  first | refine bA ?_) | (refine aW ?_;  first | refine bS ?_))
      all_goals first
        | (exfalso; omega)
        | exact ⟨⟨1, by omega⟩, (by show 2 - 1 < 2 - 0; omega), (bW (by repeat' first | exact trivial | refine ⟨rfl, ?_⟩) (by repeat' first | exact trivial | refine ⟨rfl, ?_⟩))⟩
    | 1, _ =>
      rw [if_neg (by decide), if_neg (by decide)]
      repeat' (first | refine aG ?_ | (refine aI ?_;  first | refine aC tabOk rfl rfl rfl (nb rfl) rfl ?_ | (refine aK rfl rfl rfl (nb rfl) rfl rfl rfl (fun hq => ?_) (fun hq => ?_) <;> (first | (simp only [sD, sE, sB, sC, sN, sM, sT, sF] at hq; try (exfalso; omega)) | skip)) | refine oS (f := true) (ys := []) tabOk rfl rfl rfl (nb rfl) rfl rfl rfl (.inr rfl) rfl ?_ | refine bX rfl rfl rfl (nb rfl) rfl rfl (by omega) ?_ | refine bH tabOk rfl rfl rfl (nb rfl) rfl rfl rfl rfl (by first | assumption | omega) ?_) | (refine aN ?_;  first | refine aH ?_ | refine aQ ?_ | refine bI ?_ | refine aX ?_ | refine aZ ?_ | refine aE (b := true) rfl (fun _ => ?_) nTf) | (refine aM ?_;  first | refine bA ?_) | (refine aW ?_;  first | refine bS ?_))
      all_goals first
        | (exfalso; omega)
        | exact ⟨⟨2, by omega⟩, (by show 2 - 2 < 2 - 1; omega), (bW (by repeat' first | exact trivial | refine ⟨rfl, ?_⟩) (by repeat' first | exact trivial | refine ⟨rfl, ?_⟩))⟩
    | 2, _ =>
      rw [if_neg (by decide), if_neg (by decide)]
      repeat' (first | refine aG ?_ | (refine aI ?_;  first | refine aC tabOk rfl rfl rfl (nb rfl) rfl ?_ | (refine aK rfl rfl rfl (nb rfl) rfl rfl rfl (fun hq => ?_) (fun hq => ?_) <;> (first | (simp only [sD, sE, sB, sC, sN, sM, sT, sF] at hq; try (exfalso; omega)) | skip))) | (refine aN ?_;  first | refine aH ?_ | refine aQ ?_ | refine aT ?_ | refine bY ?_ | refine aE (b := false) rfl nFt (fun _ => ?_)) | (refine aM ?_;  first | refine bA ?_ | refine bN ?_) | (refine aW ?_;  first | refine bJ ?_))
      all_goals first
        | (exfalso; omega)
        | (refine dU ((Imp.of_le (σ' := S.f ⟨[(2, .ref 500 1)], [(500, .arr 28 1 1 [.ptr pk 0])]⟩) (bW (by repeat' first | exact trivial | refine ⟨rfl, ?_⟩) (by repeat' first | exact trivial | refine ⟨rfl, ?_⟩))).trans (cU (g := 500) rfl (by repeat' first | exact trivial | exact fun _ => rfl | refine ⟨?_, ?_⟩) (by repeat' first | exact trivial | exact fun _ => rfl | refine ⟨?_, ?_⟩))) ?_
           refine aU (by first | exact .inl rfl | exact .inr rfl) (bC rfl (aA rfl)) rfl ?_; rfl)
    | j + 3, h => omega
  | j + 3, h => omega
theorem aAc {X : IV} {ctx : List Tree} (fa : Bool) (pk : List IV) (hX : rowIV X ctx) (hl : ctx.length ≤ 900000) : ACalls Tryz.prog 46 [.imm (.sl fa 2 [.sl true 1 [.ptr pk 0], X])] [] (.imm (.sl false (1 + ctx.length) (.ptr pk 0 :: Tree.ivs ctx))) [] := by
  rcases hX with ⟨f, rfl⟩ | ⟨rfl, rfl⟩
  · exact pS fa pk f ctx.length (Tree.ivs ctx) hl (dD ctx)
  · exact aAb fa pk
set_option maxHeartbeats 4000000 in
set_option maxRecDepth 10000 in
theorem pU {X : IV} {ctx : List Tree} (K : Tree) (hK : K.whole = true) (hX : rowIV X ctx) (hl : ctx.length ≤ 900000) : ACalls Tryz.prog 63 [.imm K.iv, .imm X] [] (.imm (.sl false (K :: ctx).length (Tree.ivs (K :: ctx)))) [] := by
  obtain ⟨pk, hpk⟩ := bT (bK hK)
  have c1 := aAc true pk hX hl
  have e : IV.sl false (K :: ctx).length (Tree.ivs (K :: ctx)) = .sl false (1 + ctx.length) (.ptr pk 0 :: Tree.ivs ctx) := by
    rw [Tree.ivs, hpk, List.length_cons, Nat.add_comm]
  rw [e, hpk]
  rcases hX with ⟨f, rfl⟩ | ⟨rfl, rfl⟩
  · generalize Tree.ivs ctx = Z at *
    refine aJ Tryz.func63 rfl rfl (nb rfl) rfl ?_
    repeat' (first | refine aG ?_ | (refine aI ?_;  first | refine aC tabOk rfl rfl rfl (nb rfl) rfl ?_ | refine aD rfl rfl (nb rfl) rfl rfl rfl rfl (c1) ?_ | refine cI tabOk rfl rfl rfl (nb rfl) rfl rfl rfl rfl rfl rfl rfl rfl rfl ?_) | (refine aN ?_;  first | refine aH ?_ | refine aT ?_))
    all_goals (refine aU (by first | exact .inl rfl | exact .inr rfl) (bC rfl (aA rfl)) rfl ?_; rfl)
  · generalize Tree.ivs [] = Z at *
    refine aJ Tryz.func63 rfl rfl (nb rfl) rfl ?_
    repeat' (first | refine aG ?_ | (refine aI ?_;  first | refine aC tabOk rfl rfl rfl (nb rfl) rfl ?_ | refine aD rfl rfl (nb rfl) rfl rfl rfl rfl (c1) ?_ | refine cI tabOk rfl rfl rfl (nb rfl) rfl rfl rfl rfl rfl rfl rfl rfl rfl ?_) | (refine aN ?_;  first | refine aH ?_ | refine aT ?_))
    all_goals (refine aU (by first | exact .inl rfl | exact .inr rfl) (bC rfl (aA rfl)) rfl ?_; rfl)
theorem nI : ∀ l : List (Tree × Int), (starsG l).2 = 0 → (starsG l).1 = starK
  | [], _ => rfl
  | R :: Rs, h => by
    rw [starsG] at h ⊢
    unfold star1 at h ⊢
    split at h
    · rename_i h1; exact absurd h h1
    · rename_i h1
      rw [if_neg h1]
      split at h
      · cases h
      · rename_i h2; rw [if_neg h2]; exact nI Rs h
/-- A kind that is told: whole, a kind, not too large. -/
def fineK (B : Nat) (R : Tree × Int) : Prop := R.2 = 0 → isKindP R.1 = true ∧ R.1.whole = true ∧ R.1.size ≤ B
theorem xA (B : Nat) (h : 1 ≤ B) : fineK B (starK, 0) := fun _ => ⟨kY, rfl, by show 1 ≤ B; exact h⟩
theorem iJ {B : Nat} (h : 1 ≤ B) (l : List (Tree × Int)) : fineK B (starsG l) := fun h0 => by
  rw [nI l h0]
  exact ⟨kY, rfl, h⟩
theorem eK (t : Tree) : ∀ (ctx : List Tree) (B : Nat), isConP t = true → t.whole = true → okCtx ctx → (∀ c ∈ ctx, c.size ≤ B) → 1 ≤ B → fineK (2 * t.size + B) (kindP t ctx) := by
  induction t using Tree.sind with
  | h t ih =>
    intro ctx B hf hw ho hB h1
    obtain ⟨k, n, a, b, kids, rfl⟩ := cJ hw
    obtain ⟨p1, p2, p3, p4, p5⟩ := eB hf
    rw [kindP]
    have hz : 1 ≤ (Tree.node k n a b kids).size := by simp only [Tree.size]; omega
    have hS := xA (2 * (Tree.node k n a b kids).size + B) (by omega)
    by_cases e0 : k = 110
    · rw [if_pos e0]
      obtain ⟨q1, q2, q3⟩ := p1 e0
      split
      · intro h; cases h
      · rename_i hn
        intro _
        have hlt : n.toNat < ctx.length := by omega
        have e : ctx.getD n.toNat .nil = ctx[n.toNat] := by simp [List.getD, hlt]
        dsimp only
        rw [e]
        have hm := List.getElem_mem hlt
        have := hB _ hm
        exact ⟨(ho _ hm).1, (ho _ hm).2, by omega⟩
    · rw [if_neg e0]
      by_cases e1 : k = 114
      · rw [if_pos e1, kZ]; exact iJ (by omega) _
      · rw [if_neg e1]
        by_cases e2 : k = 115
        · rw [if_pos e2, lA]; exact iJ (by omega) _
        · rw [if_neg e2]
          by_cases e3 : k = 117 ∨ k = 118
          · rw [if_pos e3]
            obtain ⟨x, y, rfl, hx, hy⟩ := p4 (by omega)
            rw [bindK]
            have := iJ (B := 2 * (Tree.node k n a b [x, y]).size + B) (by omega) [kindP y (x :: ctx)]
            exact this
          · rw [if_neg e3]
            by_cases e4 : k = 119
            · rw [if_pos e4]
              obtain ⟨x, y, rfl, hx, hy⟩ := p4 (by omega)
              have wx := bL hw (t := x) (by simp)
              have wy := bL hw (t := y) (by simp)
              have sz : (Tree.node k n a b [x, y]).size = x.size + y.size + 1 := by simp only [Tree.size, Tree.sizes]; omega
              have hi := ih y (by omega) (x :: ctx) (B + x.size) hy wy (iI hx wx ho) (fun c hc => by
                rcases List.mem_cons.1 hc with rfl | hc
                · omega
                · have := hB c hc; omega) (by omega)
              rw [lamK]
              unfold lam1
              intro h
              split at h
              · rename_i h3; exact absurd h h3
              · rename_i h3
                obtain ⟨g1, g2, g3⟩ := hi (by simpa using h3)
                rw [if_neg h3]
                refine ⟨?_, ?_, ?_⟩
                · rw [isKindP, if_neg (by decide), if_pos rfl, dR, List.map_cons, List.map_cons, hx, g1, show bareP 0 emptyB emptyB false false = true by decide +kernel]; rfl
                · show Tree.wholes [_, _] = true
                  rw [Tree.wholes, Tree.wholes, wx, g2]; rfl
                · rw [sz]
                  simp only [Tree.size, Tree.sizes]
                  omega
            · rw [if_neg e4]
              by_cases e5 : k = 120
              · rw [if_pos e5]
                obtain ⟨x, y, rfl, hx, hy⟩ := p2 (by omega)
                have wx := bL hw (t := x) (by simp)
                have sz : (Tree.node k n a b [x, y]).size = x.size + y.size + 1 := by simp only [Tree.size, Tree.sizes]; omega
                have hi := ih x (by omega) ctx B hx wx ho hB h1
                rw [appK]
                unfold app1
                intro h
                split at h
                · rename_i h3; exact absurd h h3
                · rename_i h3
                  split at h
                  · rename_i h4; exact absurd h h4
                  · rename_i h4
                    split at h
                    · cases h
                    · rename_i h5
                      rw [if_neg h3, if_neg h4, if_neg h5]
                      obtain ⟨g1, g2, g3⟩ := hi (by simpa using h3)
                      generalize kindP x ctx = F at *
                      obtain ⟨F1, F2⟩ := F
                      dsimp only at g1 g2 g3 h5
                      obtain ⟨k', n', a', b', ks, rfl⟩ := cJ g2
                      have hk : k' = 101 := by
                        by_cases hk : k' = 101
                        · exact hk
                        · exact absurd (.inl hk) h5
                      obtain ⟨u, v, rfl, hu, hv⟩ := pR g1 hk
                      have wv := bL g2 (t := v) (by simp)
                      have sv := bR (k := k') (n := n') (a := a') (b := b') (kids := [u, v]) (t := v) (by simp)
                      exact ⟨hv, wv, by show v.size ≤ _; omega⟩
              · rw [if_neg e5]
                by_cases e6 : k = 121
                · rw [if_pos e6]
                  unfold sum1
                  intro h
                  split at h
                  · rename_i h3; exact absurd h h3
                  · rename_i h3
                    split at h
                    · rename_i h4; exact absurd h h4
                    · rename_i h4; rw [if_neg h3, if_neg h4]; exact hS rfl
                · rw [if_neg e6]; exact hS
set_option maxHeartbeats 8000000 in
set_option maxRecDepth 10000 in
theorem aBI (X : IV) (k n : Int) (a b : ByteArray) (f x : Tree) (F G : Tree × Int) (hf : f.whole = true) (hx : x.whole = true)
    (cf : ACalls Tryz.prog 34 [.imm X, .imm f.iv] [] (.imm (.tup [F.1.iv, .lit (.int .i64 F.2)])) [])
    (cx : ACalls Tryz.prog 34 [.imm X, .imm x.iv] [] (.imm (.tup [G.1.iv, .lit (.int .i64 G.2)])) [])
    (gF : fineK 100000000 F) (gG : fineK 100000000 G) :
    ACalls Tryz.prog 64 [.imm X, .imm (Tree.iv (.node k n a b [f, x]))] [] (.imm (.tup [(app1 F G).1.iv, .lit (.int .i64 (app1 F G).2)])) [] := by
  obtain ⟨pf, hpf⟩ := bT (bK hf)
  obtain ⟨px, hpx⟩ := bT (bK hx)
  rw [Tree.iv, Tree.ivs, Tree.ivs, Tree.ivs, hpf, hpx]
  rw [hpf] at cf
  rw [hpx] at cx
  unfold app1
  obtain ⟨F1, F2⟩ := F
  obtain ⟨G1, G2⟩ := G
  dsimp only at *
  by_cases h1 : F2 = 0
  · rw [if_neg (by simpa using h1)]
    by_cases h2 : G2 = 0
    · rw [if_neg (by simpa using h2)]
      obtain ⟨f1, f2, f3⟩ := gF h1
      obtain ⟨g1, g2, g3⟩ := gG h2
      subst h1 h2
      obtain ⟨k', n', a', b', ks, rfl⟩ := cJ f2
      rw [Tree.kind]
      by_cases hk : k' = 101
      · obtain ⟨u, v, rfl, hu, hv⟩ := pR f1 hk
        subst hk
        have wu := bL f2 (t := u) (by simp)
        have wv := bL f2 (t := v) (by simp)
        have su := bR (k := 101) (n := n') (a := a') (b := b') (kids := [u, v]) (t := u) (by simp)
        have cs := iH u G1 (.inr wu) (.inr g2) (by dsimp only at f3; omega) g3
        have e0 : kid0 (.node 101 n' a' b' [u, v]) = u := rfl
        have e1 : kid1 (.node 101 n' a' b' [u, v]) = v := rfl
        rw [e0, e1]
        obtain ⟨pu, hpu⟩ := bT (bK wu)
        obtain ⟨pv, hpv⟩ := bT (bK wv)
        rw [Tree.iv, Tree.ivs, Tree.ivs, Tree.ivs, hpu, hpv] at cf
        rw [hpu] at cs
        cases hs : sameP u G1 with
        | true =>
          rw [hs] at cs
          rw [if_neg (by simp), hpv]
          generalize G1.iv = gi at *
          clear gF gG f1 f2 f3 g1 g2 g3
          refine aJ Tryz.func64 rfl rfl (nb rfl) rfl ?_
          repeat' (first | refine aG ?_ | (refine aI ?_;  first | refine aC tabOk rfl rfl rfl (nb rfl) rfl ?_ | (refine aK rfl rfl rfl (nb rfl) rfl rfl rfl (fun hq => ?_) (fun hq => ?_) <;> (first | (simp only [sD, sE, sB, sC, sN, sM, sT, sF] at hq; try (exfalso; omega)) | skip)) | refine aD rfl rfl (nb rfl) rfl rfl rfl rfl (cf) ?_ | refine aD rfl rfl (nb rfl) rfl rfl rfl rfl (cx) ?_ | refine aD rfl rfl (nb rfl) rfl rfl rfl rfl (cs) ?_ | refine bE tabOk rfl rfl rfl (nb rfl) rfl rfl rfl rfl (by first | rfl | omega) (by first | omega | simp) ?_) | (refine aN ?_;  first | refine aH ?_ | refine aQ ?_ | refine aX ?_ | refine aT ?_ | refine aZ ?_ | refine aE (b := false) rfl nFt (fun _ => ?_)) | (refine aM ?_;  first | refine bA ?_) | (refine aW ?_;  first | refine bS ?_))
          all_goals first
            | (exfalso; omega)
            | exact absurd rfl (by assumption)
            | (refine aU (by first | exact .inl rfl | exact .inr rfl) (bB rfl (aA rfl) (aA rfl)) rfl ?_; rfl)
        | false =>
          rw [hs] at cs
          rw [if_pos (.inr rfl)]
          generalize G1.iv = gi at *
          clear gF gG f1 f2 f3 g1 g2 g3
          refine aJ Tryz.func64 rfl rfl (nb rfl) rfl ?_
          repeat' (first | refine aG ?_ | (refine aI ?_;  first | refine aC tabOk rfl rfl rfl (nb rfl) rfl ?_ | (refine aK rfl rfl rfl (nb rfl) rfl rfl rfl (fun hq => ?_) (fun hq => ?_) <;> (first | (simp only [sD, sE, sB, sC, sN, sM, sT, sF] at hq; try (exfalso; omega)) | skip)) | refine aD rfl rfl (nb rfl) rfl rfl rfl rfl (cf) ?_ | refine aD rfl rfl (nb rfl) rfl rfl rfl rfl (cx) ?_ | refine aD rfl rfl (nb rfl) rfl rfl rfl rfl (cs) ?_ | refine bE tabOk rfl rfl rfl (nb rfl) rfl rfl rfl rfl (by first | rfl | omega) (by first | omega | simp) ?_) | (refine aN ?_;  first | refine aH ?_ | refine aQ ?_ | refine aX ?_ | refine aT ?_ | refine aZ ?_ | refine aE (b := true) rfl (fun _ => ?_) nTf | refine aE (b := false) rfl nFt (fun _ => ?_)) | (refine aM ?_;  first | refine bA ?_ | refine aV ?_) | (refine aW ?_;  first | refine bD ?_))
          all_goals first
            | (exfalso; omega)
            | exact absurd rfl (by assumption)
            | (refine aU (by first | exact .inl rfl | exact .inr rfl) (bB rfl (aA rfl) (aA rfl)) rfl ?_; rfl)
      · rw [if_pos (.inl hk)]
        rw [Tree.iv] at cf
        generalize Tree.ivs ks = Z at *
        generalize G1.iv = gi at *
        clear gF gG f1 f2 f3 g1 g2 g3
        refine aJ Tryz.func64 rfl rfl (nb rfl) rfl ?_
        repeat' (first | refine aG ?_ | (refine aI ?_;  first | refine aC tabOk rfl rfl rfl (nb rfl) rfl ?_ | refine cA rfl rfl (nb rfl) ?_ | (refine aK rfl rfl rfl (nb rfl) rfl rfl rfl (fun hq => ?_) (fun hq => ?_) <;> (first | (simp only [sD, sE, sB, sC, sN, sM, sT, sF] at hq; try (exfalso; omega)) | skip)) | refine aD rfl rfl (nb rfl) rfl rfl rfl rfl (cf) ?_ | refine aD rfl rfl (nb rfl) rfl rfl rfl rfl (cx) ?_ | refine bE tabOk rfl rfl rfl (nb rfl) rfl rfl rfl rfl (by first | rfl | omega) (by first | omega | simp) ?_) | (refine aN ?_;  first | refine aH ?_ | refine aQ ?_ | refine aX ?_ | refine aT ?_ | refine aZ ?_ | refine aE (b := true) rfl (fun _ => ?_) nTf | refine aE (b := false) rfl nFt (fun _ => ?_)) | (refine aM ?_;  first | refine bA ?_ | refine aV ?_) | (refine aW ?_;  first | refine bD ?_))
        all_goals first
          | (exfalso; omega)
          | exact absurd rfl (by assumption)
          | (refine aU (by first | exact .inl rfl | exact .inr rfl) (bB rfl (aA rfl) (aA rfl)) rfl ?_; rfl)
    · rw [if_pos h2]
      subst h1
      generalize G1.iv = gi at *
      generalize F1.iv = fi at *
      clear gF gG
      refine aJ Tryz.func64 rfl rfl (nb rfl) rfl ?_
      repeat' (first | refine aG ?_ | (refine aI ?_;  first | refine aC tabOk rfl rfl rfl (nb rfl) rfl ?_ | (refine aK rfl rfl rfl (nb rfl) rfl rfl rfl (fun hq => ?_) (fun hq => ?_) <;> (first | (simp only [sD, sE, sB, sC, sN, sM, sT, sF] at hq; try (exfalso; omega)) | skip)) | refine aD rfl rfl (nb rfl) rfl rfl rfl rfl (cf) ?_ | refine aD rfl rfl (nb rfl) rfl rfl rfl rfl (cx) ?_ | refine bE tabOk rfl rfl rfl (nb rfl) rfl rfl rfl rfl (by first | rfl | omega) (by first | omega | simp) ?_) | (refine aN ?_;  first | refine aH ?_ | refine aQ ?_ | refine aX ?_ | refine aT ?_ | refine aZ ?_ | refine aE (b := true) rfl (fun _ => ?_) nTf | refine aE (b := false) rfl nFt (fun _ => ?_)) | (refine aM ?_;  first | refine bA ?_ | refine aV ?_) | (refine aW ?_;  first | refine bD ?_))
      all_goals first
        | (exfalso; omega)
        | exact absurd rfl (by assumption)
        | (refine aU (by first | exact .inl rfl | exact .inr rfl) (bB rfl (aA rfl) (aA rfl)) rfl ?_; rfl)
  · rw [if_pos h1]
    generalize F1.iv = fi at *
    clear gF gG
    refine aJ Tryz.func64 rfl rfl (nb rfl) rfl ?_
    repeat' (first | refine aG ?_ | (refine aI ?_;  first | refine aC tabOk rfl rfl rfl (nb rfl) rfl ?_ | (refine aK rfl rfl rfl (nb rfl) rfl rfl rfl (fun hq => ?_) (fun hq => ?_) <;> (first | (simp only [sD, sE, sB, sC, sN, sM, sT, sF] at hq; try (exfalso; omega)) | skip)) | refine aD rfl rfl (nb rfl) rfl rfl rfl rfl (cf) ?_ | refine bE tabOk rfl rfl rfl (nb rfl) rfl rfl rfl rfl (by first | rfl | omega) (by first | omega | simp) ?_) | (refine aN ?_;  first | refine aH ?_ | refine aQ ?_ | refine aT ?_ | refine aE (b := true) rfl (fun _ => ?_) nTf) | (refine aM ?_;  first | refine aV ?_))
    all_goals first
      | (exfalso; omega)
      | exact absurd rfl (by assumption)
      | (refine aU (by first | exact .inl rfl | exact .inr rfl) (bB rfl (aA rfl) (aA rfl)) rfl ?_; rfl)
end Go.Proofs.YtocaohipfiapkaaGreat.Ab
namespace Go.Proofs.YtocaohipfiapkaaGreat.Ab
set_option linter.unusedVariables false
set_option linter.unusedSimpArgs false
open Go.RowKit
theorem dZ {l : List Tree} (h : isT_ct l = true) : ∃ T x, l = [T, x] ∧ checkP isConP T = 0 ∧ isTermP x = true := by
  match l, h with
  | [x, y], h => rw [isT_ct, Bool.and_eq_true] at h; exact ⟨x, y, rfl, beq_iff_eq.1 h.1, h.2⟩
  | [], h => rw [isT_ct] at h; cases h; all_goals simp
  | [x], h => rw [isT_ct] at h; cases h; all_goals simp
  | x :: y :: z :: r, h => rw [isT_ct] at h; cases h; all_goals simp
theorem iK {l : List Tree} (h : isT_kt l = true) : ∃ T x, l = [T, x] ∧ checkP isKindP T = 0 ∧ isTermP x = true := by
  match l, h with
  | [x, y], h => rw [isT_kt, Bool.and_eq_true] at h; exact ⟨x, y, rfl, beq_iff_eq.1 h.1, h.2⟩
  | [], h => rw [isT_kt] at h; cases h; all_goals simp
  | [x], h => rw [isT_kt] at h; cases h; all_goals simp
  | x :: y :: z :: r, h => rw [isT_kt] at h; cases h; all_goals simp
theorem cZ {l : List Tree} (h : isT_tt l = true) : ∃ x y, l = [x, y] ∧ isTermP x = true ∧ isTermP y = true := by
  match l, h with
  | [x, y], h => rw [isT_tt, Bool.and_eq_true] at h; exact ⟨x, y, rfl, h.1, h.2⟩
  | [], h => rw [isT_tt] at h; cases h; all_goals simp
  | [x], h => rw [isT_tt] at h; cases h; all_goals simp
  | x :: y :: z :: r, h => rw [isT_tt] at h; cases h; all_goals simp
theorem iL {l : List Tree} (h : isT_tc l = true) : ∃ x T, l = [x, T] ∧ isTermP x = true ∧ checkP isConP T = 0 := by
  match l, h with
  | [x, y], h => rw [isT_tc, Bool.and_eq_true] at h; exact ⟨x, y, rfl, h.1, beq_iff_eq.1 h.2⟩
  | [], h => rw [isT_tc] at h; cases h; all_goals simp
  | [x], h => rw [isT_tc] at h; cases h; all_goals simp
  | x :: y :: z :: r, h => rw [isT_tc] at h; cases h; all_goals simp
theorem hD {l : List Tree} (h : isT_t l = true) : ∃ x, l = [x] ∧ isTermP x = true := by
  match l, h with
  | [x], h => rw [isT_t] at h; exact ⟨x, rfl, h⟩
  | [], h => rw [isT_t] at h; cases h; all_goals simp
  | x :: y :: r, h => rw [isT_t] at h; cases h; all_goals simp
theorem gJ {l : List Tree} (h : isT_ctc l = true) : ∃ C x T, l = [C, x, T] ∧ checkP isConP C = 0 ∧ isTermP x = true ∧ checkP isConP T = 0 := by
  match l, h with
  | [x, y, z], h => rw [isT_ctc, Bool.and_eq_true, Bool.and_eq_true] at h; exact ⟨x, y, z, rfl, beq_iff_eq.1 h.1.1, h.1.2, beq_iff_eq.1 h.2⟩
  | [], h => rw [isT_ctc] at h; cases h; all_goals simp
  | [x], h => rw [isT_ctc] at h; cases h; all_goals simp
  | [x, y], h => rw [isT_ctc] at h; cases h; all_goals simp
  | x :: y :: z :: w :: r, h => rw [isT_ctc] at h; cases h; all_goals simp
theorem gK {l : List Tree} (h : isT_ttt l = true) : ∃ x y z, l = [x, y, z] ∧ isTermP x = true ∧ isTermP y = true ∧ isTermP z = true := by
  match l, h with
  | [x, y, z], h => rw [isT_ttt, Bool.and_eq_true, Bool.and_eq_true] at h; exact ⟨x, y, z, rfl, h.1.1, h.1.2, h.2⟩
  | [], h => rw [isT_ttt] at h; cases h; all_goals simp
  | [x], h => rw [isT_ttt] at h; cases h; all_goals simp
  | [x, y], h => rw [isT_ttt] at h; cases h; all_goals simp
  | x :: y :: z :: w :: r, h => rw [isT_ttt] at h; cases h; all_goals simp
/-- Fields, arms. -/
def armForm (kind : Int) (t : Tree) : Prop := ∃ a x, t = .node kind 0 a emptyB [x] ∧ isTermP x = true ∧ labelP a = true
theorem uX {kind : Int} {t : Tree} (h : okField kind t = true) : armForm kind t := by
  cases t with
  | nil => simp [okField] at h
  | node k n a b ks =>
    simp only [okField, Bool.and_eq_true, beq_iff_eq, dV] at h
    obtain ⟨⟨⟨⟨rfl, rfl⟩, rfl⟩, hl⟩, h⟩ := h
    obtain ⟨x, rfl, hx⟩ := hD h
    exact ⟨a, x, rfl, hx, hl⟩
theorem jM {kind : Int} {l : List Tree} (h : fieldsP l kind = true) : ∀ t ∈ l, armForm kind t := by
  rw [jK, List.all_eq_true] at h
  exact fun t ht => uX (h t ht)
theorem iM {l : List Tree} (h : isT_ta l = true) : ∃ x arms, l = x :: arms ∧ arms ≠ [] ∧ isTermP x = true ∧ ∀ t ∈ arms, armForm 149 t := by
  match l, h with
  | x :: y :: r, h => rw [isT_ta, Bool.and_eq_true, Bool.and_eq_true] at h; exact ⟨x, y :: r, rfl, by simp, h.1, jM h.2.1⟩
  | [], h => rw [isT_ta] at h; cases h; all_goals simp
  | [x], h => rw [isT_ta] at h; cases h; all_goals simp
theorem gL {l : List Tree} (h : isT_tca l = true) : ∃ x T arms, l = x :: T :: arms ∧ arms ≠ [] ∧ isTermP x = true ∧ checkP isConP T = 0 ∧ ∀ t ∈ arms, armForm 149 t := by
  match l, h with
  | x :: T :: y :: r, h => rw [isT_tca, Bool.and_eq_true, Bool.and_eq_true, Bool.and_eq_true] at h; exact ⟨x, T, y :: r, rfl, by simp, h.1.1, beq_iff_eq.1 h.1.2, jM h.2.1⟩
  | [], h => rw [isT_tca] at h; cases h; all_goals simp
  | [x], h => rw [isT_tca] at h; cases h; all_goals simp
  | [x, y], h => rw [isT_tca] at h; cases h; all_goals simp
theorem kP : ∀ l : List Tree, steadyP l = true → distinctP l = true → risingP l = true
  | [], _, _ => rfl
  | [_], _, _ => rfl
  | t :: u :: r, h1, h2 => by
    rw [steadyP, Bool.and_eq_true, Bool.not_eq_true'] at h1
    rw [distinctP, Bool.and_eq_true, Bool.not_eq_true'] at h2
    rw [risingP, Bool.and_eq_true]
    refine ⟨?_, kP (u :: r) h1.2 h2.2⟩
    unfold ltB at h1 ⊢
    refine kO _ _ h1.1 fun e => ?_
    have h3 := h2.1
    rw [List.any_cons, Bool.or_eq_false_iff] at h3
    have : eqB u.name t.name = true := by unfold eqB; rw [e]; exact beq_self_eq_true _
    rw [this] at h3
    cases h3.1
/-- A term has the parts that its kind asks for. -/
theorem iN {k n : Int} {a b : ByteArray} {kids : List Tree} (h : isTermP (.node k n a b kids) = true) :
    (k = 130 → 0 ≤ n ∧ n ≤ 65536 ∧ kids = []) ∧ (k = 139 → isT_kt kids = true) ∧ ((k = 134 ∨ k = 146) → isT_ct kids = true) ∧ ((k = 135 ∨ k = 142 ∨ k = 143 ∨ k = 145) → isT_tt kids = true) ∧
    (k = 136 → (∀ t ∈ kids, armForm 137 t) ∧ risingP kids = true) ∧ (k = 138 → isT_t kids = true) ∧ (k = 140 → isT_tc kids = true) ∧ (k = 141 → isT_ctc kids = true) ∧ (k = 144 → isT_ttt kids = true) ∧ (k = 147 → isT_ta kids = true) ∧ (k = 148 → isT_tca kids = true) ∧
    (k = 130 ∨ k = 131 ∨ k = 132 ∨ k = 133 ∨ k = 134 ∨ k = 135 ∨ k = 136 ∨ k = 138 ∨ k = 139 ∨ k = 140 ∨ k = 141 ∨ k = 142 ∨ k = 143 ∨ k = 144 ∨ k = 145 ∨ k = 146 ∨ k = 147 ∨ k = 148) := by
  rw [isTermP, Bool.and_eq_true] at h
  obtain ⟨hh, h⟩ := h
  refine ⟨fun e => ?_, fun e => ?_, fun e => ?_, fun e => ?_, fun e => ?_, fun e => ?_, fun e => ?_, fun e => ?_, fun e => ?_, fun e => ?_, fun e => ?_, ?_⟩
  · subst e
    rw [if_pos (by omega), List.isEmpty_iff] at h
    simp only [headP, Bool.and_eq_true, numberP] at hh
    have hn := hh.2
    simp at hn
    exact ⟨by omega, by omega, h⟩
  · subst e; simpa using h
  · rcases e with rfl | rfl <;> simpa using h
  · rcases e with rfl | rfl | rfl | rfl <;> simpa using h
  · subst e
    simp at h
    exact ⟨jM h.1.1, kP _ h.2 h.1.2⟩
  · subst e; simpa using h
  · subst e; simpa using h
  · subst e; simpa using h
  · subst e; simpa using h
  · subst e; simpa using h
  · subst e; simpa using h
  · by_cases h1 : k = 130 ∨ k = 131 ∨ k = 132 ∨ k = 133 ∨ k = 134 ∨ k = 135 ∨ k = 136 ∨ k = 138 ∨ k = 139 ∨ k = 140 ∨ k = 141 ∨ k = 142 ∨ k = 143 ∨ k = 144 ∨ k = 145 ∨ k = 146 ∨ k = 147 ∨ k = 148
    · exact h1
    · rw [if_neg (by omega), if_neg (by omega), if_neg (by omega), if_neg (by omega), if_neg (by omega), if_neg (by omega), if_neg (by omega), if_neg (by omega), if_neg (by omega), if_neg (by omega), if_neg (by omega), if_neg (by omega)] at h
      cases h
end Go.Proofs.YtocaohipfiapkaaGreat.Ab
namespace Go.Proofs.YtocaohipfiapkaaGreat.Ab
set_option linter.unusedVariables false
set_option linter.unusedSimpArgs false
open Go.RowKit
/-- What is told is a constructor, not too large. -/
def fineC (B : Nat) (R : Tree × Int) : Prop := R.2 = 0 → isConP R.1 = true ∧ R.1.whole = true ∧ R.1.size ≤ B
theorem xB {A B : Nat} {R : Tree × Int} (h : fineC A R) (hl : A ≤ B) : fineC B R := fun h0 => by
  obtain ⟨h1, h2, h3⟩ := h h0
  exact ⟨h1, h2, by omega⟩
theorem bU {B : Nat} {t : Tree} {e : Int} (h : e ≠ 0) : fineC B (t, e) := fun h0 => absurd h0 h
theorem hG {B : Nat} {R : Tree × Int} (h : R.2 = 0 → checkP isConP R.1 = 0) (hB : 65536 ≤ B) : fineC B R := fun h0 => by
  obtain ⟨h1, h2, h3⟩ := bQ (h h0)
  exact ⟨h3, h1, by omega⟩
theorem gM (t : Tree) (h : (normalP 1000 t).2 = 0) : checkP isConP (normalP 1000 t).1 = 0 := by
  have h1 := (tA 1000 1000 t h).1
  generalize (normalP 1000 t).1 = u at *
  unfold StepP at h1
  by_cases hc : checkP isConP u = 0
  · exact hc
  · rw [if_neg hc] at h1
    have : checkP isConP u = 0 := congrArg Prod.snd h1
    exact absurd this hc
theorem eC (ks : List Tree) (c : Tree) (h : (starT ks c).2 = 0) : checkP isConP (starT ks c).1 = 0 := by
  unfold starT at h ⊢
  split at h
  · rename_i h1; exact absurd h h1
  · rename_i h1; rw [if_neg h1]; exact gM c h
theorem jN (n b : Tree) (h : (filledP n b).2 = 0) : checkP isConP (filledP n b).1 = 0 := by
  unfold filledP at h ⊢
  split at h
  · rename_i h1; exact absurd h h1
  · rename_i h1; rw [if_neg h1]; exact gM _ h
/-- Parts of what a type is. -/
theorem nJ {B : Nat} {T : Tree} (h1 : isConP T = true) (h2 : T.whole = true) (h3 : T.size ≤ B) (hk : T.kind = 114) : ∃ n a b x y, T = .node 114 n a b [x, y] ∧ isConP x = true ∧ isConP y = true ∧ x.whole = true ∧ y.whole = true ∧ x.size ≤ B ∧ y.size ≤ B := by
  obtain ⟨k, n, a, b, kids, rfl⟩ := cJ h2
  rw [Tree.kind] at hk
  subst hk
  obtain ⟨x, y, rfl, hx, hy⟩ := (eB h1).2.1 (.inl rfl)
  have sx := bR (k := 114) (n := n) (a := a) (b := b) (kids := [x, y]) (t := x) (by simp)
  have sy := bR (k := 114) (n := n) (a := a) (b := b) (kids := [x, y]) (t := y) (by simp)
  exact ⟨n, a, b, x, y, rfl, hx, hy, bL h2 (by simp), bL h2 (by simp), by omega, by omega⟩
theorem iO {B : Nat} {T : Tree} (h1 : isConP T = true) (h2 : T.whole = true) (h3 : T.size ≤ B) (hk : T.kind = 117 ∨ T.kind = 118) : ∃ n a b K y, T = .node T.kind n a b [K, y] ∧ isKindP K = true ∧ isConP y = true ∧ K.whole = true ∧ y.whole = true ∧ K.size ≤ B ∧ y.size ≤ B := by
  obtain ⟨k, n, a, b, kids, rfl⟩ := cJ h2
  rw [Tree.kind] at hk ⊢
  obtain ⟨x, y, rfl, hx, hy⟩ := (eB h1).2.2.2.1 (by omega)
  have sx := bR (k := k) (n := n) (a := a) (b := b) (kids := [x, y]) (t := x) (by simp)
  have sy := bR (k := k) (n := n) (a := a) (b := b) (kids := [x, y]) (t := y) (by simp)
  exact ⟨n, a, b, x, y, rfl, hx, hy, bL h2 (by simp), bL h2 (by simp), by omega, by omega⟩
/-- Fields of a record, cases of a sum. -/
theorem fM {B : Nat} {T : Tree} (h1 : isConP T = true) (h2 : T.whole = true) (h3 : T.size ≤ B) (hk : T.kind = 115 ∨ T.kind = 121) : ∃ n a b kids, T = .node T.kind n a b kids ∧ kids.length ≤ B ∧ ∀ t ∈ kids, ∃ k' n' a' b' c, t = .node k' n' a' b' [c] ∧ isConP c = true ∧ c.whole = true ∧ c.size ≤ B := by
  obtain ⟨k, n, a, b, kids, rfl⟩ := cJ h2
  rw [Tree.kind] at hk ⊢
  have hl := cO kids h2
  refine ⟨n, a, b, kids, rfl, by simp only [Tree.size] at h3; omega, fun t ht => ?_⟩
  have st := bR (k := k) (n := n) (a := a) (b := b) ht
  have wt := bL h2 ht
  have key : ∃ k' n' a' b' c, t = .node k' n' a' b' [c] ∧ isConP c = true := by
    rcases hk with hk | hk
    · obtain ⟨n', a', b', c, e, hc⟩ := (eB h1).2.2.1 hk t ht
      exact ⟨116, n', a', b', c, e, hc⟩
    · obtain ⟨n', a', b', c, e, hc⟩ := (eB h1).2.2.2.2 hk t ht
      exact ⟨122, n', a', b', c, e, hc⟩
  obtain ⟨k', n', a', b', c, rfl, hc⟩ := key
  have sc := bR (k := k') (n := n') (a := a') (b := b') (kids := [c]) (t := c) (by simp)
  exact ⟨k', n', a', b', c, rfl, hc, bL wt (by simp), by omega⟩
theorem mK : ∀ {l : List Tree} {a : ByteArray} {p : Tree}, partP l a = some p → ∃ t ∈ l, p = kid0 t
  | [], _, _, h => by rw [partP] at h; cases h
  | t :: ts, a, p, h => by
    rw [partP] at h
    split at h
    · cases h; exact ⟨t, by simp, rfl⟩
    · obtain ⟨u, hu, e⟩ := mK h; exact ⟨u, by simp [hu], e⟩
theorem pV {B : Nat} {T p : Tree} {a : ByteArray} (h1 : isConP T = true) (h2 : T.whole = true) (h3 : T.size ≤ B) (hk : T.kind = 115 ∨ T.kind = 121) (h : partP (kidsOf T) a = some p) : isConP p = true ∧ p.whole = true ∧ p.size ≤ B := by
  obtain ⟨n, a', b, kids, e, hl, hf⟩ := fM h1 h2 h3 hk
  generalize T.kind = k at *
  subst e
  obtain ⟨t, ht, rfl⟩ := mK h
  obtain ⟨k', n', a', b', c, rfl, hc⟩ := hf t ht
  exact hc
theorem eU {R : Tree × Int} {k : Int} (h : (asP R k).2 = 0) : R.2 = 0 ∧ R.1.kind = k := by
  unfold asP at h
  split at h
  · cases h
  · rename_i h1
    refine ⟨h, ?_⟩
    by_cases hk : R.1.kind = k
    · exact hk
    · exact absurd ⟨h, hk⟩ h1
theorem aAd {x y : Tree} (hx : isConP x = true) (hy : isConP y = true) : isConP (tyT 114 [x, y]) = true := by
  show isConP (.node 114 0 emptyB emptyB [x, y]) = true
  rw [isConP, if_neg (by decide), if_neg (by decide), if_pos (by decide), isCons, isCons, isCons, hx, hy, show bareP 0 emptyB emptyB false ((114 : Int) == 110) = true by decide +kernel]; rfl
theorem aBJ {K x : Tree} (hK : isKindP K = true) (hx : isConP x = true) : isConP (tyT 117 [K, x]) = true := by
  show isConP (.node 117 0 emptyB emptyB [K, x]) = true
  rw [isConP, if_neg (by decide), if_neg (by decide), if_neg (by decide), if_neg (by decide), if_pos (by decide), isCon2, hx, hK]
  decide +kernel
theorem jO (k : Int) (h : k = 111 ∨ k = 112 ∨ k = 113) : isConP (tyT k []) = true := by rcases h with rfl | rfl | rfl <;> decide +kernel
theorem rO {k : Int} {x y : Tree} (hx : x.whole = true) (hy : y.whole = true) : (tyT k [x, y]).whole = true := by
  show Tree.wholes [x, y] = true
  rw [Tree.wholes, Tree.wholes, hx, hy]; rfl
theorem fN : ∀ ts : List Tree, (shiftsP ts).2 = 0 → (shiftsP ts).1.length = ts.length ∧ ∀ T ∈ (shiftsP ts).1, T.whole = true ∧ T.size ≤ 65536
  | [], _ => ⟨rfl, fun T h => by cases h⟩
  | t :: ts, h => by
    rw [shiftsP] at h ⊢
    split at h
    · rename_i h1; exact absurd h h1
    · rename_i h1
      split at h
      · rename_i h2; exact absurd h h2
      · rename_i h2
        rw [if_neg h1, if_neg h2]
        obtain ⟨g1, g2⟩ := fN ts (by simpa using h2)
        obtain ⟨f1, f2, f3⟩ := eY t 1 0 (by simpa using h1)
        obtain ⟨_, f4, _⟩ := bQ f3
        refine ⟨by simp [g1], fun T hT => ?_⟩
        rcases List.mem_cons.1 hT with rfl | hT
        · exact ⟨f1, by omega⟩
        · exact g2 T hT
theorem eO {R : Tree × Int} {L : List Tree × Int} (h : (consP R L).2 = 0) : R.2 = 0 ∧ L.2 = 0 ∧ (consP R L).1 = R.1 :: L.1 := by
  unfold consP at h ⊢
  split at h
  · rename_i h1; exact absurd h h1
  · rename_i h1
    split at h
    · rename_i h2; exact absurd h h2
    · rename_i h2
      rw [if_neg h1, if_neg h2]
      exact ⟨by simpa using h1, by simpa using h2, rfl⟩
/-- The fields of a record's type are named as its fields. -/
theorem nK (ks ts : List Tree) : ∀ l : List Tree, (∀ t ∈ l, armForm 137 t) → (ofRec l ks ts).2 = 0 → (ofRec l ks ts).1.map Tree.name = l.map Tree.name
  | [], _, _ => by rw [ofRec]
  | t :: l, hf, h => by
    rw [ofRec] at h ⊢
    obtain ⟨h1, h2, h3⟩ := eO h
    rw [h3, List.map_cons, List.map_cons, nK ks ts l (fun t ht => hf t (by simp [ht])) h2]
    congr 1
    obtain ⟨a, x, rfl, hx, hl⟩ := hf t (by simp)
    rw [ofField] at h1 ⊢
    unfold field1 at h1 ⊢
    split at h1
    · rename_i h4; exact absurd h1 h4
    · rename_i h4; rw [if_neg h4]; rfl
theorem lX : ∀ l m : List Tree, l.map Tree.name = m.map Tree.name → risingP l = risingP m
  | [], [], _ => rfl
  | [], _ :: _, h => by simp at h
  | _ :: _, [], h => by simp at h
  | [t], [u], _ => rfl
  | [t], u :: v :: r, h => by simp at h
  | t :: s :: r, [u], h => by simp at h
  | t :: s :: r, u :: v :: q, h => by
    simp only [List.map_cons, List.cons.injEq] at h
    rw [risingP, risingP, h.1, h.2.1, lX (s :: r) (v :: q) (by simp [h.2.1, h.2.2])]
theorem uY (t : Tree) : ∀ ks ts : List Tree, isTermP t = true → t.whole = true → fineC (65537 * t.size) (ofP t ks ts) := by
  induction t using Tree.sind with
  | h t ih =>
    intro ks ts hf hw
    obtain ⟨k, n, a, b, kids, rfl⟩ := cJ hw
    obtain ⟨p0, p1, p2, p3, p4, p5, p6, p7, p8, p9, p10, pk⟩ := iN hf
    have hz : 1 ≤ (Tree.node k n a b kids).size := by simp only [Tree.size]; omega
    have hwk : ∀ t ∈ kids, t.whole = true := fun t h => bL hw h
    have hsz : (Tree.node k n a b kids).size = Tree.sizes kids + 1 := by simp only [Tree.size]; omega
    have hin : ∀ t ∈ kids, t.size ≤ Tree.sizes kids := fun t h => cY h
    have hbig : 65536 ≤ 65537 * (Tree.node k n a b kids).size := by omega
    have hk' : ∀ x ∈ kids, isTermP x = true → ∀ ks ts, fineC (65537 * x.size) (ofP x ks ts) := fun x hx h ks ts => ih x (by have := hin x hx; omega) ks ts h (hwk x hx)
    rw [ofP]
    by_cases e0 : k = 130
    · rw [if_pos e0]
      split
      · exact bU (by decide)
      · exact hG (gM _) hbig
    rw [if_neg e0]
    by_cases e1 : k = 131
    · rw [if_pos e1]; exact fun _ => ⟨jO _ (.inl rfl), rfl, by show 1 ≤ _; omega⟩
    rw [if_neg e1]
    by_cases e2 : k = 132
    · rw [if_pos e2]; exact fun _ => ⟨jO _ (.inr (.inl rfl)), rfl, by show 1 ≤ _; omega⟩
    rw [if_neg e2]
    by_cases e3 : k = 133
    · rw [if_pos e3]; exact fun _ => ⟨jO _ (.inr (.inr rfl)), rfl, by show 1 ≤ _; omega⟩
    rw [if_neg e3]
    by_cases e4 : k = 139
    · rw [if_pos e4]
      obtain ⟨K, x, rfl, hK, hx⟩ := iK (p1 e4)
      obtain ⟨wK, sK, fK⟩ := bQ hK
      have h1 := hk' x (by simp) hx (K :: ks) (shiftsP ts).1
      rw [ofTLam]
      unfold tlam1
      split
      · rename_i h; exact bU h
      · split
        · rename_i h; exact bU h
        · rename_i h2
          intro _
          obtain ⟨g1, g2, g3⟩ := h1 (by simpa using h2)
          refine ⟨aBJ fK g1, rO wK g2, ?_⟩
          rw [hsz]
          simp only [tyT, Tree.size, Tree.sizes]
          omega
    rw [if_neg e4]
    by_cases e5 : k = 143
    · rw [if_pos e5]
      obtain ⟨x, y, rfl, hx, hy⟩ := cZ (p3 (by omega))
      have h2 := hk' y (by simp) hy ks ((ofP x ks ts).1 :: ts)
      rw [ofLet]
      unfold let1
      split
      · rename_i h; exact bU h
      · refine xB h2 ?_
        rw [hsz]; simp only [Tree.sizes]; omega
    rw [if_neg e5]
    by_cases e6 : k = 134
    · rw [if_pos e6]
      obtain ⟨T, y, rfl, hT, hy⟩ := dZ (p2 (by omega))
      have h2 := hk' y (by simp) hy ks ((starT ks T).1 :: ts)
      have h3 := bQ hT
      have hT1 := lP h3.1
      rw [ofLam]
      unfold lamT1
      split
      · rename_i h; exact bU h
      · rename_i h1
        split
        · rename_i h; exact bU h
        · rename_i h4
          intro _
          obtain ⟨g1, g2, g3⟩ := h2 (by simpa using h4)
          obtain ⟨f1, f2, f3⟩ := bQ (eC ks T (by simpa using h1))
          refine ⟨aAd f3 g1, rO f1 g2, ?_⟩
          rw [hsz]
          simp only [tyT, Tree.size, Tree.sizes]
          omega
    rw [if_neg e6]
    by_cases e7 : k = 135
    · rw [if_pos e7]
      obtain ⟨x, y, rfl, hx, hy⟩ := cZ (p3 (by omega))
      have h1 := hk' x (by simp) hx ks ts
      rw [ofApp]
      unfold appT1
      split
      · rename_i h; exact bU h
      · rename_i h3
        split
        · rename_i h; exact bU h
        · split
          · exact bU (by decide)
          · rename_i h5
            intro _
            obtain ⟨g1, g2, g3⟩ := h1 (by simpa using h3)
            generalize (ofP x ks ts).1 = F at *
            have hk : F.kind = 114 := by
              by_cases hk : F.kind = 114
              · exact hk
              · exact absurd (.inl hk) h5
            obtain ⟨n', a', b', u, v, rfl, hu, hv, wu, wv, su, sv⟩ := nJ g1 g2 g3 hk
            refine ⟨hv, wv, ?_⟩
            show v.size ≤ _
            rw [hsz]; simp only [Tree.sizes]; omega
    rw [if_neg e7]
    by_cases e8 : k = 136
    · rw [if_pos e8]
      obtain ⟨q1, q2⟩ := p4 e8
      have key : ∀ l : List Tree, (∀ t ∈ l, t ∈ kids) → (ofRec l ks ts).2 = 0 → (∀ u ∈ (ofRec l ks ts).1, okNamed 116 u = true) ∧ Tree.wholes (ofRec l ks ts).1 = true ∧ Tree.sizes (ofRec l ks ts).1 ≤ 65537 * Tree.sizes l := by
        intro l
        induction l with
        | nil => intro _ _; rw [ofRec]; exact ⟨fun u h => (List.not_mem_nil h).elim, rfl, Nat.zero_le _⟩
        | cons t l ih2 =>
          intro hm h
          rw [ofRec] at h ⊢
          obtain ⟨h1, h2, h3⟩ := eO h
          obtain ⟨g1, g2, g3⟩ := ih2 (fun t ht => hm t (by simp [ht])) h2
          have hmt := hm t (by simp)
          obtain ⟨a', x, rfl, hx, hl⟩ := q1 t hmt
          have sx := bR (k := 137) (n := 0) (a := a') (b := emptyB) (kids := [x]) (t := x) (by simp)
          have hi := ih x (by have := hin _ hmt; omega) ks ts hx (bL (hwk _ hmt) (by simp))
          have e : ofField (.node 137 0 a' emptyB [x]) ks ts = field1 a' (ofP x ks ts) := by rw [ofField, ofH]
          rw [e] at h1 h3 ⊢
          rw [h3]
          unfold field1 at h1 ⊢
          split at h1
          · rename_i h4; exact absurd h1 h4
          · rename_i h4
            rw [if_neg h4]
            obtain ⟨f1, f2, f3⟩ := hi (by simpa using h4)
            refine ⟨fun u hu => ?_, ?_, ?_⟩
            · rcases List.mem_cons.1 hu with rfl | hu
              · show okNamed 116 (.node 116 0 a' emptyB [_]) = true
                rw [okNamed, isCon1, f1, hl, show bareP 0 a' emptyB true false = true by unfold bareP; rw [Bool.true_or, Bool.and_true]; decide +kernel]; rfl
              · exact g1 u hu
            · rw [Tree.wholes, g2, Bool.and_true]
              show Tree.wholes [_] = true
              rw [Tree.wholes, f2]; rfl
            · simp only [Tree.sizes, Tree.size]
              omega
      unfold rec1
      split
      · rename_i h; exact bU h
      · rename_i h
        intro _
        have h0 : (ofRec kids ks ts).2 = 0 := by simpa using h
        obtain ⟨g1, g2, g3⟩ := key kids (fun _ h => h) h0
        have hr := lX _ _ (nK ks ts kids q1 h0)
        rw [q2] at hr
        refine ⟨?_, g2, ?_⟩
        · show isConP (.node 115 0 emptyB emptyB _) = true
          rw [isConP, if_neg (by decide), if_neg (by decide), if_neg (by decide), if_pos (by decide), dF, hr, List.all_eq_true.2 g1]
          decide +kernel
        · rw [hsz]
          simp only [tyT, Tree.size]
          omega
    rw [if_neg e8]
    by_cases e9 : k = 138
    · rw [if_pos e9]
      obtain ⟨x, rfl, hx⟩ := hD (p5 e9)
      have h1 := hk' x (by simp) hx ks ts
      rw [ofH]
      unfold proj1
      split
      · rename_i h; exact bU h
      · rename_i h
        obtain ⟨h2, h3⟩ := eU (by simpa using h)
        obtain ⟨g1, g2, g3⟩ := h1 h2
        unfold part1
        split
        · exact bU (by decide)
        · rename_i p hp
          intro _
          obtain ⟨f1, f2, f3⟩ := pV g1 g2 g3 (.inl h3) hp
          refine ⟨f1, f2, ?_⟩
          rw [hsz]; simp only [Tree.sizes]; omega
    rw [if_neg e9]
    by_cases e10 : k = 140
    · rw [if_pos e10]
      obtain ⟨x, C, rfl, hx, hC⟩ := iL (p6 e10)
      rw [ofTApp]
      unfold tapp1
      split
      · rename_i h; exact bU h
      · split
        · rename_i h; exact bU h
        · split
          · exact bU (by decide)
          · exact hG (jN _ _) hbig
    rw [if_neg e10]
    by_cases e11 : k = 141
    · rw [if_pos e11]
      obtain ⟨C, x, T, rfl, hC, hx, hT⟩ := gJ (p7 e11)
      rw [ofPack]
      unfold pack1
      split
      · rename_i h; exact bU h
      · rename_i h1
        split
        · rename_i h; exact bU h
        · split
          · rename_i h; exact bU h
          · split
            · exact bU (by decide)
            · unfold alike1
              split
              · rename_i h; exact bU h
              · split
                · exact bU (by decide)
                · exact hG (fun _ => eC ks T (by simpa using h1)) hbig
    rw [if_neg e11]
    by_cases e12 : k = 142
    · rw [if_pos e12]
      obtain ⟨x, y, rfl, hx, hy⟩ := cZ (p3 (by omega))
      rw [ofUnpack]
      unfold unpack1
      split
      · rename_i h; exact bU h
      · split
        · rename_i h; exact bU h
        · split
          · rename_i h; exact bU h
          · split
            · exact bU (by decide)
            · intro h0
              obtain ⟨g1, g2, g3⟩ := eY _ _ _ h0
              have g4 := bQ g3
              exact ⟨rN _ g3 _ _ (by omega) h0, g1, by omega⟩
    rw [if_neg e12]
    by_cases e13 : k = 144
    · rw [if_pos e13]
      obtain ⟨x, y, z, rfl, hx, hy, hz2⟩ := gK (p8 e13)
      have h1 := hk' y (by simp) hy ks ts
      rw [ofIf]
      unfold choice1
      split
      · rename_i h; exact bU h
      · split
        · rename_i h; exact bU h
        · rename_i h2
          split
          · rename_i h; exact bU h
          · split
            · exact bU (by decide)
            · intro _
              obtain ⟨g1, g2, g3⟩ := h1 (by simpa using h2)
              refine ⟨g1, g2, ?_⟩
              rw [hsz]; simp only [Tree.sizes]; omega
    rw [if_neg e13]
    by_cases e14 : k = 145
    · rw [if_pos e14]
      obtain ⟨x, y, rfl, hx, hy⟩ := cZ (p3 (by omega))
      rw [ofOp]
      unfold op1
      split
      · rename_i h; exact bU h
      · split
        · rename_i h; exact bU h
        · split
          · exact bU (by decide)
          · split
            · exact fun _ => ⟨jO _ (.inl rfl), rfl, by show 1 ≤ _; omega⟩
            · exact fun _ => ⟨jO _ (.inr (.inl rfl)), rfl, by show 1 ≤ _; omega⟩
    rw [if_neg e14]
    by_cases e15 : k = 146
    · rw [if_pos e15]
      obtain ⟨T, x, rfl, hT, hx⟩ := dZ (p2 (by omega))
      rw [ofIn]
      unfold in1
      split
      · rename_i h; exact bU h
      · rename_i h1
        split
        · rename_i h; exact bU h
        · split
          · exact bU (by decide)
          · cases partP (kidsOf (starT ks T).1) a with
            | none => exact bU (by decide)
            | some p =>
              rw [in2]
              unfold alike1
              split
              · rename_i h; exact bU h
              · split
                · exact bU (by decide)
                · exact hG (fun _ => eC ks T (by simpa using h1)) hbig
    rw [if_neg e15]
    have harms : ∀ (l : List Tree) (cs : List Tree) (self : Tree), (∀ t ∈ l, t ∈ kids ∧ armForm 149 t) → (ofArms l cs self ks ts).2 = 0 → ∀ u ∈ (ofArms l cs self ks ts).1, isConP u = true ∧ u.whole = true ∧ u.size ≤ 65537 * Tree.sizes kids := by
      intro l
      induction l with
      | nil => intro cs self _ _ u hu; rw [ofArms] at hu; cases hu
      | cons t l ih2 =>
        intro cs self hm h
        rw [ofArms] at h ⊢
        unfold arm1 at h ⊢
        split at h
        · rename_i h1; exact absurd h h1
        · rename_i h1
          rw [if_neg h1]
          obtain ⟨h2, h3, h4⟩ := eO h
          rw [h4]
          intro u hu
          rcases List.mem_cons.1 hu with rfl | hu
          · obtain ⟨hmt, a', x, rfl, hx, hl⟩ := hm t (by simp)
            have sx := bR (k := 149) (n := 0) (a := a') (b := emptyB) (kids := [x]) (t := x) (by simp)
            have h5 := hin _ hmt
            rw [ofArm, ofH] at h2 ⊢
            obtain ⟨g1, g2, g3⟩ := ih x (by omega) _ _ hx (bL (hwk _ hmt) (by simp)) h2
            exact ⟨g1, g2, by omega⟩
          · exact ih2 cs.tail self (fun t ht => hm t (by simp [ht])) h3 u hu
    by_cases e16 : k = 147
    · rw [if_pos e16]
      obtain ⟨x, arms, rfl, hne, hx, ha⟩ := iM (p9 e16)
      rw [ofCase]
      unfold case1
      split
      · rename_i h; exact bU h
      · split
        · rename_i h; exact bU h
        · rename_i h1
          have h0 : (arms1 (ofP x ks ts).1 arms (ofArms arms (kidsOf (ofP x ks ts).1) (ofP x ks ts).1 ks ts)).2 = 0 := by simpa using h1
          unfold arms1 at h0 ⊢
          split at h0
          · cases h0
          · rename_i h3
            rw [if_neg h3]
            have h4 := harms arms _ _ (fun t ht => ⟨by simp [ht], ha t ht⟩) h0
            unfold alikeP
            split
            · exact bU (by decide)
            · intro _
              cases arms with
              | nil => exact absurd rfl hne
              | cons t l =>
                rw [ofArms] at h0 h4 ⊢
                unfold arm1 at h0 h4 ⊢
                split at h0
                · rename_i h5; exact absurd h0 h5
                · rename_i h5
                  rw [if_neg h5] at h4 ⊢
                  obtain ⟨h6, h7, h8⟩ := eO h0
                  rw [h8] at h4 ⊢
                  obtain ⟨g1, g2, g3⟩ := h4 _ (List.mem_cons_self ..)
                  refine ⟨g1, g2, ?_⟩
                  show Tree.size (ofArm t ks _).1 ≤ _
                  rw [hsz]; omega
    · rw [if_neg e16]
      have e17 : k = 148 := by omega
      obtain ⟨x, T, arms, rfl, hne, hx, hT, ha⟩ := gL (p10 e17)
      rw [ofFold]
      unfold fold1
      split
      · rename_i h; exact bU h
      · split
        · rename_i h; exact bU h
        · rename_i h1
          split
          · rename_i h; exact bU h
          · unfold alikeP
            split
            · exact bU (by decide)
            · exact hG (fun _ => eC ks T (by simpa using h1)) hbig
end Go.Proofs.YtocaohipfiapkaaGreat.Ab
namespace Go.Proofs.YtocaohipfiapkaaGreat.Ab
set_option linter.unusedVariables false
set_option linter.unusedSimpArgs false
open Go.RowKit
attribute [local irreducible] AWP AOps AExit AThen ABlock ANoGoto FeetOk
set_option maxHeartbeats 16000000 in
set_option maxRecDepth 10000 in
theorem aCm (t : Tree) : ∀ (ctx : List Tree) (X : IV), isConP t = true → t.whole = true → rowIV X ctx → okCtx ctx → (∀ c ∈ ctx, c.size ≤ 200000) → ctx.length + t.size ≤ 200000 →
    ACalls Tryz.prog 34 [.imm X, .imm t.iv] [] (.imm (.tup [(kindP t ctx).1.iv, .lit (.int .i64 (kindP t ctx).2)])) [] := by
  induction t using Tree.sind with
  | h t ih =>
    intro ctx X hf hw hX ho hB hs
    have hfw := bK hw
    obtain ⟨k, n, a, b, kids, rfl⟩ := cJ hw
    obtain ⟨p1, p2, p3, p4, p5⟩ := eB hf
    have hlk := cO kids hw
    have hls : kids.length + 1 ≤ 200000 - ctx.length := by simp only [Tree.size] at hs; omega
    have cst := yA
    rw [lV] at cst
    have hsz : ∀ t ∈ kids, t.size < (Tree.node k n a b kids).size := fun t h => bR h
    have hwk : ∀ t ∈ kids, t.whole = true := fun t h => bL hw h
    rw [kindP]
    by_cases e0 : k = 110
    · rw [if_pos e0]
      obtain ⟨q1, q2, rfl⟩ := p1 e0
      subst e0
      rw [Tree.iv, Tree.ivs]
      by_cases hn : n ≥ (ctx.length : Int)
      · rw [if_pos hn]
        rcases hX with ⟨f, rfl⟩ | ⟨rfl, rfl⟩
        · generalize Tree.ivs ctx = Z at *
          clear ih p1 p2 p3 p4 p5 hB ho
          refine aJ Tryz.func34 rfl rfl (nb rfl) rfl ?_
          repeat' (first | refine aG ?_ | (refine aI ?_;  first | refine aC tabOk rfl rfl rfl (nb rfl) rfl ?_ | (refine aK rfl rfl rfl (nb rfl) rfl rfl rfl (fun hq => ?_) (fun hq => ?_) <;> (first | (simp only [sD, sE, sB, sC, sN, sM, sT, sF] at hq; try (exfalso; omega)) | skip)) | refine aY tabOk rfl rfl (nb rfl) rfl ?_) | (refine aN ?_;  first | refine aH ?_ | refine aQ ?_ | refine aX ?_ | refine aT ?_ | refine aE (b := true) rfl (fun _ => ?_) nTf) | (refine aM ?_;  first | refine aV ?_) | (refine aW ?_;  first | refine bD ?_))
          all_goals first
            | (exfalso; omega)
            | exact absurd rfl (by assumption)
            | (refine aU (by first | exact .inl rfl | exact .inr rfl) (bB rfl (aA rfl) (aA rfl)) rfl ?_; rfl)
        · clear ih p1 p2 p3 p4 p5 hB ho
          refine aJ Tryz.func34 rfl rfl (nb rfl) rfl ?_
          repeat' (first | refine aG ?_ | (refine aI ?_;  first | refine aC tabOk rfl rfl rfl (nb rfl) rfl ?_ | (refine aK rfl rfl rfl (nb rfl) rfl rfl rfl (fun hq => ?_) (fun hq => ?_) <;> (first | (simp only [sD, sE, sB, sC, sN, sM, sT, sF] at hq; try (exfalso; omega)) | skip)) | refine aY tabOk rfl rfl (nb rfl) rfl ?_) | (refine aN ?_;  first | refine aH ?_ | refine aQ ?_ | refine aX ?_ | refine aT ?_ | refine aE (b := true) rfl (fun _ => ?_) nTf) | (refine aM ?_;  first | refine aV ?_) | (refine aW ?_;  first | refine bD ?_))
          all_goals first
            | (exfalso; simp at hn; omega)
            | exact absurd rfl (by assumption)
            | (refine aU (by first | exact .inl rfl | exact .inr rfl) (bB rfl (aA rfl) (aA rfl)) rfl ?_; rfl)
      · rw [if_neg hn]
        obtain ⟨m, rfl⟩ : ∃ m : Nat, n = (m : Int) := ⟨n.toNat, by omega⟩
        have hlt : m < ctx.length := by omega
        have e : ctx.getD m .nil = ctx[m] := by simp [List.getD, hlt]
        rw [Int.toNat_natCast]
        rcases hX with ⟨f, rfl⟩ | ⟨rfl, rfl⟩
        · have hget := cS ctx m hlt
          obtain ⟨pc, hpc⟩ := bT (bK (ho _ (List.getElem_mem hlt)).2)
          dsimp only
          rw [e, hpc]
          rw [hpc] at hget
          generalize Tree.ivs ctx = Z at *
          clear ih p1 p2 p3 p4 p5 hB ho
          refine aJ Tryz.func34 rfl rfl (nb rfl) rfl ?_
          repeat' (first | refine aG ?_ | (refine aI ?_;  first | refine aC tabOk rfl rfl rfl (nb rfl) rfl ?_ | (refine aK rfl rfl rfl (nb rfl) rfl rfl rfl (fun hq => ?_) (fun hq => ?_) <;> (first | (simp only [sD, sE, sB, sC, sN, sM, sT, sF] at hq; try (exfalso; omega)) | skip)) | refine bO tabOk rfl rfl rfl (nb rfl) rfl rfl rfl hget ?_ | refine aY tabOk rfl rfl (nb rfl) rfl ?_ | refine bH tabOk rfl rfl rfl (nb rfl) rfl rfl rfl rfl (by first | assumption | omega) ?_) | (refine aN ?_;  first | refine aH ?_ | refine aQ ?_ | refine aX ?_ | refine aT ?_ | refine aZ ?_ | refine aE (b := true) rfl (fun _ => ?_) nTf | refine aE (b := false) rfl nFt (fun _ => ?_)) | (refine aM ?_;  first | refine bA ?_ | refine aV ?_) | (refine aW ?_;  first | refine bD ?_))
          all_goals first
            | (exfalso; omega)
            | exact absurd rfl (by assumption)
            | (refine aU (by first | exact .inl rfl | exact .inr rfl) (bB rfl (aA rfl) (aA rfl)) rfl ?_; rfl)
        · simp at hlt
    · rw [if_neg e0]
      by_cases e1 : k = 114
      · rw [if_pos e1, kZ]
        obtain ⟨x, y, rfl, hx, hy⟩ := p2 (by omega)
        subst e1
        have c1 := tE X false [x, y] (fun t => kindP t ctx) (by simp) (fun t ht h0 => by
            have hc : isConP t = true := by simp at ht; rcases ht with rfl | rfl <;> assumption
            exact (eK t ctx 200000 hc (hwk t ht) ho hB (by omega) h0).2.1)
          (fun t ht => by
            have hc : isConP t = true := by simp at ht; rcases ht with rfl | rfl <;> assumption
            exact ih t (hsz t ht) ctx X hc (hwk t ht) hX ho hB (by have := hsz t ht; omega))
        generalize starsG _ = Q at *
        clear ih p1 p2 p3 p4 p5 hB ho hsz hwk
        rw [Tree.iv]
        generalize Tree.ivs [x, y] = Z at *
        change ACalls _ _ [_, .imm (.sl false 2 Z)] _ _ _ at c1
        refine aJ Tryz.func34 rfl rfl (nb rfl) rfl ?_
        repeat' (first | refine aG ?_ | (refine aI ?_;  first | refine aC tabOk rfl rfl rfl (nb rfl) rfl ?_ | (refine aK rfl rfl rfl (nb rfl) rfl rfl rfl (fun hq => ?_) (fun hq => ?_) <;> (first | (simp only [sD, sE, sB, sC, sN, sM, sT, sF] at hq; try (exfalso; omega)) | skip)) | refine aD rfl rfl (nb rfl) rfl rfl rfl rfl (c1) ?_) | (refine aN ?_;  first | refine aH ?_ | refine aQ ?_ | refine aX ?_ | refine aT ?_ | refine aE (b := true) rfl (fun _ => ?_) nTf | refine aE (b := false) rfl nFt (fun _ => ?_)) | (refine aM ?_;  first | refine aV ?_) | (refine aW ?_;  first | refine bD ?_))
        all_goals first
          | (exfalso; omega)
          | exact absurd rfl (by assumption)
          | (refine aU (by first | exact .inl rfl | exact .inr rfl) (bB rfl (aA rfl) (aA rfl)) rfl ?_; rfl)
      · rw [if_neg e1]
        have hin : ∀ kind : Int, (∀ t ∈ kids, ∃ n' a' b' c, t = .node kind n' a' b' [c] ∧ isConP c = true) → ∀ (ctx' : List Tree) (X' : IV), rowIV X' ctx' → okCtx ctx' → (∀ c ∈ ctx', c.size ≤ 200000) → ctx'.length ≤ ctx.length + 1 →
            ACalls Tryz.prog 61 [.imm X', .imm (.sl false (innerP kids).length (Tree.ivs (innerP kids)))] [] (.imm (.tup [(starsF kids ctx').1.iv, .lit (.int .i64 (starsF kids ctx').2)])) [] := fun kind hp ctx' X' hX' ho' hB' hl' => by
          have c1 := tE X' false (innerP kids) (fun t => kindP t ctx') (by unfold innerP; rw [List.length_map]; omega)
            (fun t ht h0 => by
              obtain ⟨u, hu, rfl⟩ := List.mem_map.1 ht
              obtain ⟨n', a', b', c, rfl, hc⟩ := hp u hu
              exact (eK c ctx' 200000 hc (bL (hwk _ hu) (by simp)) ho' hB' (by omega) h0).2.1)
            (fun t ht => by
              obtain ⟨u, hu, rfl⟩ := List.mem_map.1 ht
              obtain ⟨n', a', b', c, rfl, hc⟩ := hp u hu
              have h1 := hsz _ hu
              have h2 := bR (k := kind) (n := n') (a := a') (b := b') (kids := [c]) (t := c) (by simp)
              exact ih c (by omega) ctx' X' hc (bL (hwk _ hu) (by simp)) hX' ho' hB' (by omega))
          have e : (innerP kids).map (fun t => kindP t ctx') = kids.map fun t => kindF t ctx' := by
            unfold innerP
            rw [List.map_map]
            refine List.map_congr_left fun u hu => ?_
            obtain ⟨n', a', b', c, rfl, hc⟩ := hp u hu
            show kindP c ctx' = _
            rw [kindF, kindH]
          rw [e, ← lA] at c1
          exact c1
        have hinn : ∀ kind : Int, (∀ t ∈ kids, ∃ n' a' b' c, t = .node kind n' a' b' [c] ∧ isConP c = true) → ACalls Tryz.prog 62 [.imm (Tree.iv (.node k n a b kids))] [] (.imm (.sl false (innerP kids).length (Tree.ivs (innerP kids)))) [] := fun kind hp =>
          aBH k n a b kids (by omega) fun t ht => by
            obtain ⟨n', a', b', c, rfl, hc⟩ := hp t ht
            exact ⟨kind, n', a', b', c, rfl, bL (hwk _ ht) (by simp)⟩
        by_cases e2 : k = 115
        · rw [if_pos e2]
          subst e2
          have c1 := hinn 116 (p3 rfl)
          have c2 := hin 116 (p3 rfl) ctx X hX ho hB (by omega)
          generalize starsF kids ctx = Q at *
          generalize (innerP kids).length = L at *
          generalize Tree.ivs (innerP kids) = Y at *
          rw [Tree.iv] at c1 ⊢
          generalize Tree.ivs kids = Z at *
          clear ih p1 p2 p3 p4 p5 hB ho hsz hwk hin hinn
          refine aJ Tryz.func34 rfl rfl (nb rfl) rfl ?_
          repeat' (first | refine aG ?_ | (refine aI ?_;  first | refine aC tabOk rfl rfl rfl (nb rfl) rfl ?_ | (refine aK rfl rfl rfl (nb rfl) rfl rfl rfl (fun hq => ?_) (fun hq => ?_) <;> (first | (simp only [sD, sE, sB, sC, sN, sM, sT, sF] at hq; try (exfalso; omega)) | skip)) | refine aD rfl rfl (nb rfl) rfl rfl rfl rfl (c1) ?_ | refine aD rfl rfl (nb rfl) rfl rfl rfl rfl (c2) ?_) | (refine aN ?_;  first | refine aH ?_ | refine aQ ?_ | refine aX ?_ | refine aT ?_ | refine aE (b := true) rfl (fun _ => ?_) nTf | refine aE (b := false) rfl nFt (fun _ => ?_)) | (refine aM ?_;  first | refine aV ?_) | (refine aW ?_;  first | refine bD ?_))
          all_goals first
            | (exfalso; omega)
            | exact absurd rfl (by assumption)
            | (refine aU (by first | exact .inl rfl | exact .inr rfl) (bB rfl (aA rfl) (aA rfl)) rfl ?_; rfl)
        · rw [if_neg e2]
          by_cases e3 : k = 117 ∨ k = 118
          · rw [if_pos e3]
            obtain ⟨x, y, rfl, hx, hy⟩ := p4 (by omega)
            have wx := hwk x (by simp)
            have wy := hwk y (by simp)
            have sx := hsz x (by simp)
            have sy := hsz y (by simp)
            have c1 := pU x wx hX (by omega)
            have ho' := iI hx wx ho
            have hB' : ∀ c ∈ x :: ctx, c.size ≤ 200000 := fun c hc => by
              rcases List.mem_cons.1 hc with rfl | hc
              · omega
              · exact hB c hc
            have c2 := tE _ true [y] (fun t => kindP t (x :: ctx)) (by simp)
              (fun t ht h0 => by rw [List.mem_singleton.1 ht] at *; exact (eK y _ 200000 hy wy ho' hB' (by omega) h0).2.1)
              (fun t ht => by rw [List.mem_singleton.1 ht] at *; exact ih y (by omega) (x :: ctx) _ hy wy (dY false _) ho' hB' (by rw [List.length_cons]; simp only [Tree.size, Tree.sizes] at hs sy ⊢; have := lP wx; omega))
            rw [bindK]
            change ACalls _ _ _ _ (.imm (.tup [(star1 (kindP y (x :: ctx)) (starK, 0)).1.iv, .lit (.int .i64 (star1 (kindP y (x :: ctx)) (starK, 0)).2)])) _ at c2
            generalize star1 _ _ = Q at *
            generalize Tree.ivs (x :: ctx) = Y at *
            generalize (x :: ctx).length = L at *
            obtain ⟨px, hpx⟩ := bT (bK wx)
            obtain ⟨py, hpy⟩ := bT (bK wy)
            rw [Tree.iv, Tree.ivs, Tree.ivs, Tree.ivs, hpx, hpy]
            rw [hpx] at c1
            rw [Tree.ivs, Tree.ivs, hpy] at c2
            change ACalls _ _ [_, .imm (.sl true 1 [.ptr py 0])] _ _ _ at c2
            clear ih p1 p2 p3 p4 p5 hB ho hsz hwk hin hinn ho' hB'
            rcases e3 with rfl | rfl
            · refine aJ Tryz.func34 rfl rfl (nb rfl) rfl ?_
              repeat' (first | refine aG ?_ | (refine aI ?_;  first | refine aC tabOk rfl rfl rfl (nb rfl) rfl ?_ | (refine aK rfl rfl rfl (nb rfl) rfl rfl rfl (fun hq => ?_) (fun hq => ?_) <;> (first | (simp only [sD, sE, sB, sC, sN, sM, sT, sF] at hq; try (exfalso; omega)) | skip)) | refine aD rfl rfl (nb rfl) rfl rfl rfl rfl (c1) ?_ | refine aD rfl rfl (nb rfl) rfl rfl rfl rfl (c2) ?_ | refine cI tabOk rfl rfl rfl (nb rfl) rfl rfl rfl rfl rfl rfl rfl rfl rfl ?_ | refine bE tabOk rfl rfl rfl (nb rfl) rfl rfl rfl rfl (by first | rfl | omega) (by first | omega | simp) ?_) | (refine aN ?_;  first | refine aH ?_ | refine aQ ?_ | refine aX ?_ | refine aT ?_ | refine aZ ?_ | refine aE (b := true) rfl (fun _ => ?_) nTf | refine aE (b := false) rfl nFt (fun _ => ?_) | refine aR mixed (by kernel_rfl) ?_) | (refine aM ?_;  first | refine bA ?_ | refine aV ?_) | (refine aW ?_;  first | refine bD ?_) | refine bG (bF (by kernel_rfl)) ?_)
              all_goals first
                | (exfalso; omega)
                | exact absurd rfl (by assumption)
                | (refine aU (by first | exact .inl rfl | exact .inr rfl) (bB rfl (aA rfl) (aA rfl)) rfl ?_; rfl)
            · refine aJ Tryz.func34 rfl rfl (nb rfl) rfl ?_
              repeat' (first | refine aG ?_ | (refine aI ?_;  first | refine aC tabOk rfl rfl rfl (nb rfl) rfl ?_ | (refine aK rfl rfl rfl (nb rfl) rfl rfl rfl (fun hq => ?_) (fun hq => ?_) <;> (first | (simp only [sD, sE, sB, sC, sN, sM, sT, sF] at hq; try (exfalso; omega)) | skip)) | refine aD rfl rfl (nb rfl) rfl rfl rfl rfl (c1) ?_ | refine aD rfl rfl (nb rfl) rfl rfl rfl rfl (c2) ?_ | refine cI tabOk rfl rfl rfl (nb rfl) rfl rfl rfl rfl rfl rfl rfl rfl rfl ?_ | refine bE tabOk rfl rfl rfl (nb rfl) rfl rfl rfl rfl (by first | rfl | omega) (by first | omega | simp) ?_) | (refine aN ?_;  first | refine aH ?_ | refine aQ ?_ | refine bI ?_ | refine aX ?_ | refine aT ?_ | refine aE (b := true) rfl (fun _ => ?_) nTf | refine aE (b := false) rfl nFt (fun _ => ?_) | refine aR mixed (by kernel_rfl) ?_) | (refine aM ?_;  first | refine bA ?_ | refine aV ?_) | (refine aW ?_;  first | refine bD ?_) | refine bG (bF (by kernel_rfl)) ?_)
              all_goals first
                | (exfalso; omega)
                | exact absurd rfl (by assumption)
                | (refine aU (by first | exact .inl rfl | exact .inr rfl) (bB rfl (aA rfl) (aA rfl)) rfl ?_; rfl)
          · rw [if_neg e3]
            by_cases e4 : k = 119
            · rw [if_pos e4]
              obtain ⟨x, y, rfl, hx, hy⟩ := p4 (by omega)
              subst e4
              have wx := hwk x (by simp)
              have wy := hwk y (by simp)
              have sx := hsz x (by simp)
              have sy := hsz y (by simp)
              have c1 := pU x wx hX (by omega)
              have ho' := iI hx wx ho
              have hB' : ∀ c ∈ x :: ctx, c.size ≤ 200000 := fun c hc => by
                rcases List.mem_cons.1 hc with rfl | hc
                · omega
                · exact hB c hc
              have c2 := ih y (by omega) (x :: ctx) _ hy wy (dY false _) ho' hB' (by rw [List.length_cons]; simp only [Tree.size, Tree.sizes] at hs sy ⊢; have := lP wx; omega)
              have hfi := eK y (x :: ctx) 200000 hy wy ho' hB' (by omega)
              rw [lamK]
              unfold lam1
              generalize kindP y (x :: ctx) = Q at *
              generalize Tree.ivs (x :: ctx) = Y at *
              generalize (x :: ctx).length = L at *
              obtain ⟨px, hpx⟩ := bT (bK wx)
              obtain ⟨py, hpy⟩ := bT (bK wy)
              rw [Tree.iv, Tree.ivs, Tree.ivs, Tree.ivs, hpx, hpy]
              rw [hpx] at c1
              rw [hpy] at c2
              obtain ⟨Q1, Q2⟩ := Q
              dsimp only at *
              clear ih p1 p2 p3 p4 p5 hB ho hsz hwk hin hinn ho' hB'
              by_cases h0 : Q2 = 0
              · obtain ⟨g1, g2, g3⟩ := hfi h0
                obtain ⟨pq, hpq⟩ := bT (bK g2)
                subst h0
                rw [if_neg (by simp)]
                dsimp only
                rw [Tree.iv, Tree.ivs, Tree.ivs, Tree.ivs, hpx, hpq]
                rw [hpq] at c2
                clear hfi g1 g2 g3
                refine aJ Tryz.func34 rfl rfl (nb rfl) rfl ?_
                repeat' (first | refine aG ?_ | (refine aI ?_;  first | refine aC tabOk rfl rfl rfl (nb rfl) rfl ?_ | (refine aK rfl rfl rfl (nb rfl) rfl rfl rfl (fun hq => ?_) (fun hq => ?_) <;> (first | (simp only [sD, sE, sB, sC, sN, sM, sT, sF] at hq; try (exfalso; omega)) | skip)) | refine aD rfl rfl (nb rfl) rfl rfl rfl rfl (c1) ?_ | refine aD rfl rfl (nb rfl) rfl rfl rfl rfl (c2) ?_ | refine cI tabOk rfl rfl rfl (nb rfl) rfl rfl rfl rfl rfl rfl rfl rfl rfl ?_ | refine aY tabOk rfl rfl (nb rfl) rfl ?_ | refine bE tabOk rfl rfl rfl (nb rfl) rfl rfl rfl rfl (by first | rfl | omega) (by first | omega | simp) ?_) | (refine aN ?_;  first | refine aH ?_ | refine aQ ?_ | refine bI ?_ | refine aX ?_ | refine aT ?_ | refine aZ ?_ | refine aE (b := true) rfl (fun _ => ?_) nTf | refine aE (b := false) rfl nFt (fun _ => ?_) | refine aR mixed (by kernel_rfl) ?_) | (refine aM ?_;  first | refine bA ?_ | refine aV ?_) | (refine aW ?_;  first | refine bD ?_) | refine bG (bF (by kernel_rfl)) ?_)
                all_goals first
                  | (exfalso; omega)
                  | exact absurd rfl (by assumption)
                  | (refine aU (by first | exact .inl rfl | exact .inr rfl) (bB rfl (aA rfl) (aA rfl)) rfl ?_; rfl)
              · rw [if_pos h0]
                generalize Q1.iv = qi at *
                clear hfi
                refine aJ Tryz.func34 rfl rfl (nb rfl) rfl ?_
                repeat' (first | refine aG ?_ | (refine aI ?_;  first | refine aC tabOk rfl rfl rfl (nb rfl) rfl ?_ | (refine aK rfl rfl rfl (nb rfl) rfl rfl rfl (fun hq => ?_) (fun hq => ?_) <;> (first | (simp only [sD, sE, sB, sC, sN, sM, sT, sF] at hq; try (exfalso; omega)) | skip)) | refine aD rfl rfl (nb rfl) rfl rfl rfl rfl (c1) ?_ | refine aD rfl rfl (nb rfl) rfl rfl rfl rfl (c2) ?_ | refine bE tabOk rfl rfl rfl (nb rfl) rfl rfl rfl rfl (by first | rfl | omega) (by first | omega | simp) ?_) | (refine aN ?_;  first | refine aH ?_ | refine aQ ?_ | refine bI ?_ | refine aX ?_ | refine aT ?_ | refine aE (b := true) rfl (fun _ => ?_) nTf | refine aE (b := false) rfl nFt (fun _ => ?_) | refine aR mixed (by kernel_rfl) ?_) | (refine aM ?_;  first | refine bA ?_ | refine aV ?_) | (refine aW ?_;  first | refine bD ?_) | refine bG (bF (by kernel_rfl)) ?_)
                all_goals first
                  | (exfalso; omega)
                  | exact absurd rfl (by assumption)
                  | (refine aU (by first | exact .inl rfl | exact .inr rfl) (bB rfl (aA rfl) (aA rfl)) rfl ?_; rfl)
            · rw [if_neg e4]
              by_cases e5 : k = 120
              · rw [if_pos e5]
                obtain ⟨x, y, rfl, hx, hy⟩ := p2 (by omega)
                subst e5
                have wx := hwk x (by simp)
                have wy := hwk y (by simp)
                have sx := hsz x (by simp)
                have sy := hsz y (by simp)
                have gF : fineK 100000000 (kindP x ctx) := fun h0 => by
                  obtain ⟨g1, g2, g3⟩ := eK x ctx 200000 hx wx ho hB (by omega) h0
                  exact ⟨g1, g2, by omega⟩
                have gG : fineK 100000000 (kindP y ctx) := fun h0 => by
                  obtain ⟨g1, g2, g3⟩ := eK y ctx 200000 hy wy ho hB (by omega) h0
                  exact ⟨g1, g2, by omega⟩
                have c1 := aBI X 120 n a b x y (kindP x ctx) (kindP y ctx) wx wy (ih x sx ctx X hx wx hX ho hB (by omega)) (ih y sy ctx X hy wy hX ho hB (by omega)) gF gG
                rw [appK]
                generalize app1 _ _ = Q at *
                rw [Tree.iv] at c1 ⊢
                generalize Tree.ivs [x, y] = Z at *
                clear ih p1 p2 p3 p4 p5 hB ho hsz hwk hin hinn gF gG
                refine aJ Tryz.func34 rfl rfl (nb rfl) rfl ?_
                repeat' (first | refine aG ?_ | (refine aI ?_;  first | refine aC tabOk rfl rfl rfl (nb rfl) rfl ?_ | (refine aK rfl rfl rfl (nb rfl) rfl rfl rfl (fun hq => ?_) (fun hq => ?_) <;> (first | (simp only [sD, sE, sB, sC, sN, sM, sT, sF] at hq; try (exfalso; omega)) | skip)) | refine aD rfl rfl (nb rfl) rfl rfl rfl rfl (c1) ?_) | (refine aN ?_;  first | refine aH ?_ | refine aQ ?_ | refine bI ?_ | refine aX ?_ | refine aT ?_ | refine aE (b := true) rfl (fun _ => ?_) nTf | refine aE (b := false) rfl nFt (fun _ => ?_)) | (refine aM ?_;  first | refine bA ?_ | refine aV ?_) | (refine aW ?_;  first | refine bD ?_))
                all_goals first
                  | (exfalso; omega)
                  | exact absurd rfl (by assumption)
                  | (refine aU (by first | exact .inl rfl | exact .inr rfl) (bB rfl (aA rfl) (aA rfl)) rfl ?_; rfl)
              · rw [if_neg e5]
                by_cases e6 : k = 121
                · rw [if_pos e6]
                  subst e6
                  have ho' := iI kY rfl ho
                  have hB' : ∀ c ∈ starK :: ctx, c.size ≤ 200000 := fun c hc => by
                    rcases List.mem_cons.1 hc with rfl | hc
                    · show 1 ≤ 200000; omega
                    · exact hB c hc
                  have c1 := hinn 122 (p5 rfl)
                  have c2 := pU starK rfl hX (by omega)
                  have c3 := hin 122 (p5 rfl) (starK :: ctx) _ (dY false _) ho' hB' (by rw [List.length_cons]; omega)
                  have c4 := aCl 121 n a b kids (by omega) fun t ht => by
                    obtain ⟨n', a', b', c, rfl, hc⟩ := p5 rfl t ht
                    have h1 := hsz _ ht
                    have h2 := bR (k := 122) (n := n') (a := a') (b := b') (kids := [c]) (t := c) (by simp)
                    exact ⟨n', a', b', c, rfl, bL (hwk _ ht) (by simp), hc, by omega⟩
                  rw [lV] at c2
                  unfold sum1
                  generalize starsF kids (starK :: ctx) = Q at *
                  generalize fitsP kids = e at *
                  generalize (innerP kids).length = L at *
                  generalize Tree.ivs (innerP kids) = Y at *
                  generalize Tree.ivs (starK :: ctx) = W at *
                  generalize (starK :: ctx).length = M at *
                  rw [Tree.iv] at c1 c4 ⊢
                  generalize Tree.ivs kids = Z at *
                  obtain ⟨Q1, Q2⟩ := Q
                  dsimp only at *
                  generalize Q1.iv = qi at *
                  clear ih p1 p2 p3 p4 p5 hB ho hsz hwk hin hinn ho' hB'
                  by_cases h0 : Q2 = 0
                  · subst h0
                    rw [if_neg (by simp)]
                    by_cases h1 : e = 0
                    · subst h1
                      rw [if_neg (by simp), lV]
                      refine aJ Tryz.func34 rfl rfl (nb rfl) rfl ?_
                      repeat' (first | refine aG ?_ | (refine aI ?_;  first | refine aC tabOk rfl rfl rfl (nb rfl) rfl ?_ | (refine aK rfl rfl rfl (nb rfl) rfl rfl rfl (fun hq => ?_) (fun hq => ?_) <;> (first | (simp only [sD, sE, sB, sC, sN, sM, sT, sF] at hq; try (exfalso; omega)) | skip)) | refine aD rfl rfl (nb rfl) rfl rfl rfl rfl (c1) ?_ | refine aD rfl rfl (nb rfl) rfl rfl rfl rfl (c2) ?_ | refine aD rfl rfl (nb rfl) rfl rfl rfl rfl (c3) ?_ | refine aD rfl rfl (nb rfl) rfl rfl rfl rfl (c4) ?_ | refine aD rfl rfl (nb rfl) rfl rfl rfl rfl (cst) ?_) | (refine aN ?_;  first | refine aH ?_ | refine aQ ?_ | refine bI ?_ | refine aX ?_ | refine aT ?_ | refine aZ ?_ | refine aE (b := true) rfl (fun _ => ?_) nTf | refine aE (b := false) rfl nFt (fun _ => ?_)) | (refine aM ?_;  first | refine bA ?_) | (refine aW ?_;  first | refine bS ?_))
                      all_goals first
                        | (exfalso; omega)
                        | exact absurd rfl (by assumption)
                        | (refine aU (by first | exact .inl rfl | exact .inr rfl) (bB rfl (aA rfl) (aA rfl)) rfl ?_; rfl)
                    · rw [if_pos h1]
                      refine aJ Tryz.func34 rfl rfl (nb rfl) rfl ?_
                      repeat' (first | refine aG ?_ | (refine aI ?_;  first | refine aC tabOk rfl rfl rfl (nb rfl) rfl ?_ | (refine aK rfl rfl rfl (nb rfl) rfl rfl rfl (fun hq => ?_) (fun hq => ?_) <;> (first | (simp only [sD, sE, sB, sC, sN, sM, sT, sF] at hq; try (exfalso; omega)) | skip)) | refine aD rfl rfl (nb rfl) rfl rfl rfl rfl (c1) ?_ | refine aD rfl rfl (nb rfl) rfl rfl rfl rfl (c2) ?_ | refine aD rfl rfl (nb rfl) rfl rfl rfl rfl (c3) ?_ | refine aD rfl rfl (nb rfl) rfl rfl rfl rfl (c4) ?_ | refine aD rfl rfl (nb rfl) rfl rfl rfl rfl (cst) ?_) | (refine aN ?_;  first | refine aH ?_ | refine aQ ?_ | refine bI ?_ | refine aX ?_ | refine aT ?_ | refine aZ ?_ | refine aE (b := true) rfl (fun _ => ?_) nTf | refine aE (b := false) rfl nFt (fun _ => ?_)) | (refine aM ?_;  first | refine bA ?_ | refine aV ?_) | (refine aW ?_;  first | refine bD ?_))
                      all_goals first
                        | (exfalso; omega)
                        | exact absurd rfl (by assumption)
                        | (refine aU (by first | exact .inl rfl | exact .inr rfl) (bB rfl (aA rfl) (aA rfl)) rfl ?_; rfl)
                  · rw [if_pos h0]
                    refine aJ Tryz.func34 rfl rfl (nb rfl) rfl ?_
                    repeat' (first | refine aG ?_ | (refine aI ?_;  first | refine aC tabOk rfl rfl rfl (nb rfl) rfl ?_ | (refine aK rfl rfl rfl (nb rfl) rfl rfl rfl (fun hq => ?_) (fun hq => ?_) <;> (first | (simp only [sD, sE, sB, sC, sN, sM, sT, sF] at hq; try (exfalso; omega)) | skip)) | refine aD rfl rfl (nb rfl) rfl rfl rfl rfl (c1) ?_ | refine aD rfl rfl (nb rfl) rfl rfl rfl rfl (c2) ?_ | refine aD rfl rfl (nb rfl) rfl rfl rfl rfl (c3) ?_ | refine aD rfl rfl (nb rfl) rfl rfl rfl rfl (cst) ?_) | (refine aN ?_;  first | refine aH ?_ | refine aQ ?_ | refine bI ?_ | refine aX ?_ | refine aT ?_ | refine aE (b := true) rfl (fun _ => ?_) nTf | refine aE (b := false) rfl nFt (fun _ => ?_)) | (refine aM ?_;  first | refine bA ?_ | refine aV ?_) | (refine aW ?_;  first | refine bD ?_))
                    all_goals first
                      | (exfalso; omega)
                      | exact absurd rfl (by assumption)
                      | (refine aU (by first | exact .inl rfl | exact .inr rfl) (bB rfl (aA rfl) (aA rfl)) rfl ?_; rfl)
                · rw [if_neg e6, lV]
                  rw [Tree.iv]
                  generalize Tree.ivs kids = Z at *
                  clear ih p1 p2 p3 p4 p5 hB ho hsz hwk hin hinn
                  refine aJ Tryz.func34 rfl rfl (nb rfl) rfl ?_
                  repeat' (first | refine aG ?_ | (refine aI ?_;  first | refine aC tabOk rfl rfl rfl (nb rfl) rfl ?_ | (refine aK rfl rfl rfl (nb rfl) rfl rfl rfl (fun hq => ?_) (fun hq => ?_) <;> (first | (simp only [sD, sE, sB, sC, sN, sM, sT, sF] at hq; try (exfalso; omega)) | skip)) | refine aD rfl rfl (nb rfl) rfl rfl rfl rfl (cst) ?_) | (refine aN ?_;  first | refine aH ?_ | refine aQ ?_ | refine bI ?_ | refine aX ?_ | refine aT ?_ | refine aZ ?_ | refine aE (b := false) rfl nFt (fun _ => ?_)) | (refine aM ?_;  first | refine bA ?_) | (refine aW ?_;  first | refine bS ?_))
                  all_goals first
                    | (exfalso; omega)
                    | exact absurd rfl (by assumption)
                    | (refine aU (by first | exact .inl rfl | exact .inr rfl) (bB rfl (aA rfl) (aA rfl)) rfl ?_; rfl)
end Go.Proofs.YtocaohipfiapkaaGreat.Ab
