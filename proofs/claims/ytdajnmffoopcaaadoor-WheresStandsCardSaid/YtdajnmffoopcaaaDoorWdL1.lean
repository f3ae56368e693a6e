/- Words, walks and laws under the claim's statement: what it uses of them. No condition of its own. -/
import Derived.Test.YtdajnmffoopcaaaDoorWdL0
import Derived.Test.YtdajnmffoopcaaaDoorWdAb1
import Derived.Test.YtdajnmffoopcaaaDoorWdAb0
import Derived.Test.YtdajnmffoopcaaaDoorWdP0
import Derived.Lib.ValidLaws
import Derived.Lib.MapLaws
import Derived.Lib.DecodeN
import Derived.Test.YtdajnmffoopcaaaDoorWdS0
import Derived.WalkKit
import Derived.WalkMore
import Derived.WalkSpells
import Derived.Below
import Derived.Outline
import Derived.Deep.LoopGhost
import Derived.Deep.DeepCutAuto
import Derived.Laws.RangeAny
import Derived.Lib.OthersKept
import Derived.Lib.Hide
import Derived.Deep.QuietTactic
import Derived.BigQuiet
import Derived.Lib.SlicesS
import Derived.WalkLawsBesides
import Derived.OneCell
import Derived.Lib.SplitLaws
import Derived.Lib.CutLaws
import Derived.Lib.IndexLaws
namespace Go.Proofs.YtdajnmffoopcaaaDoor.Ab
set_option linter.unusedVariables false
set_option linter.unusedSimpArgs false
open Go.RowKit
attribute [local irreducible] AWP AOps AExit AThen ABlock ANoGoto FeetOk
structure CellD where
  f : Bool
  k : Int
  n : Int
  a : ByteArray
  b : ByteArray
  kids : List Int
def intIVs (l : List Int) : List IV := l.map fun x => .lit (.int .i64 x)
def cellIV (c : CellD) : List IV := [.lit (.int .i64 c.k), .lit (.int .i64 c.n), .lit (.string c.a), .lit (.string c.b), .sl c.f c.kids.length (intIVs c.kids)]
def cellIVs : List CellD → List IV
  | [] => []
  | c :: l => cellIV c ++ cellIVs l
theorem intIVs_get (l : List Int) (j : Nat) (h : j < l.length) : (intIVs l)[j * 1]? = some (.lit (.int .i64 l[j])) := by unfold intIVs; simp [h]
theorem intIVs_len (l : List Int) : (intIVs l).length = l.length := by unfold intIVs; simp
theorem cellIVs_app : ∀ l m : List CellD, cellIVs (l ++ m) = cellIVs l ++ cellIVs m
  | [], m => rfl
  | c :: l, m => by rw [List.cons_append, cellIVs, cellIVs, cellIVs_app l m, List.append_assoc]
theorem cellIVs_get : ∀ (l : List CellD) (j : Nat) (h : j < l.length), ((cellIVs l).drop (j * 5)).take 5 = cellIV l[j]
  | c :: l, 0, h => by rw [Nat.zero_mul, List.drop_zero, cellIVs, List.take_append_of_le_length (by simp [cellIV])]; rfl
  | c :: l, j + 1, h => by
    have e : (j + 1) * 5 = 5 + j * 5 := by omega
    have e5 : (cellIV c).length = 5 := rfl
    rw [e, ← List.drop_drop, cellIVs]
    conv => lhs; rw [← e5, List.drop_left]
    rw [e5, cellIVs_get l j (by simpa using h)]
    rfl
theorem cellIVs_at (l : List CellD) (j i : Nat) (h : j < l.length) (hi : i < 5) : (cellIVs l)[j * 5 + i]? = (cellIV l[j])[i]? := by
  rw [← cellIVs_get l j h, List.getElem?_take, if_pos hi, List.getElem?_drop]
/-- The tree at a cell. -/
def growT (l : List CellD) : Nat → Nat → Tree
  | 0, _ => .nil
  | f + 1, i => match l[i]? with
    | none => .nil
    | some c => .node c.k c.n c.a c.b (c.kids.map fun x => growT l f x.toNat)
def below (l : List CellD) : Prop := ∀ i (h : i < l.length), ∀ x ∈ l[i].kids, 0 ≤ x ∧ x < (i : Int)
theorem growT_ptr (l : List CellD) (f i : Nat) (h : i < f) (hi : i < l.length) : ∃ cs, (growT l f i).iv = .ptr cs 0 := by
  cases f with
  | zero => omega
  | succ f => rw [growT, List.getElem?_eq_getElem hi]; exact ⟨_, rfl⟩
theorem ivs_snoc (l : List Tree) (t : Tree) : Tree.ivs (l ++ [t]) = Tree.ivs l ++ [t.iv] := by rw [ivs_map, ivs_map, List.map_append]; rfl
set_option maxHeartbeats 16000000 in
set_option maxRecDepth 10000 in
theorem grow_a (l : List CellD) (hb : below l) (hlen : l.length ≤ 8192) (hk : ∀ c ∈ l, c.kids.length ≤ 8192) : ∀ (f i : Nat), i < f → i < l.length →
    ACalls Tryd.prog 31 [.imm (.agg [.sl false l.length (cellIVs l)]), .imm (.lit (.int .i64 (i : Int)))] [] (.imm (growT l f i).iv) [] := by
  intro f
  induction f with
  | zero => intro i h; omega
  | succ f ih =>
    intro i hif hil
    have hT : growT l (f + 1) i = .node l[i].k l[i].n l[i].a l[i].b (l[i].kids.map fun x => growT l f x.toNat) := by
      rw [growT, List.getElem?_eq_getElem hil]
    rw [hT]
    have hrow := cellIVs_get l i hil
    have hbi := hb i hil
    have hki := hk l[i] (List.getElem_mem hil)
    generalize hc : l[i] = c at *
    change _ = [IV.lit (.int .i64 c.k), .lit (.int .i64 c.n), .lit (.string c.a), .lit (.string c.b), .sl c.f c.kids.length (intIVs c.kids)] at hrow
    refine acalls_made Tryd.func31 rfl rfl (Nat.le_of_ble_eq_true rfl) rfl ?_
    repeat' (first | refine aops_nil ?_ | (refine aops_one ?_;  first | refine aops_quiet tabOk rfl rfl rfl (Nat.le_of_ble_eq_true rfl) rfl ?_ | refine aops_loadr tabOk rfl rfl rfl (Nat.le_of_ble_eq_true rfl) rfl rfl rfl hrow rfl ?_ | refine aops_buildn tabOk rfl rfl rfl (Nat.le_of_ble_eq_true rfl) rfl rfl rfl rfl rfl ?_ | refine aops_boxm (t := 34) rfl rfl rfl (Nat.le_of_ble_eq_true rfl) rfl rfl rfl rfl rfl rfl rfl ?_ | refine aops_pure tabOk rfl rfl (Nat.le_of_ble_eq_true rfl) rfl ?_ | refine aops_alloc tabOk rfl rfl rfl (Nat.le_of_ble_eq_true rfl) rfl rfl rfl rfl rfl rfl ?_ | refine aops_loadm tabOk rfl rfl rfl (Nat.le_of_ble_eq_true rfl) rfl rfl rfl rfl ?_ | refine aops_storem tabOk rfl rfl rfl rfl rfl rfl rfl rfl rfl rfl rfl ?_ | refine aops_index tabOk rfl rfl rfl (Nat.le_of_ble_eq_true rfl) rfl rfl rfl rfl (by first | assumption | omega) ?_) | (refine awp_one ?_;  first | refine awp_sreg ?_ | refine awp_seq ?_ | refine awp_block ?_))
    have hTs : ∀ j (hj : j < c.kids.length), Tree.ivs ((c.kids.take (j + 1)).map fun x => growT l f x.toNat) = Tree.ivs ((c.kids.take j).map fun x => growT l f x.toNat) ++ [(growT l f (c.kids[j]).toNat).iv] := fun j hj => by
      rw [List.take_succ_eq_append_getElem hj, List.map_append, List.map_singleton, ivs_snoc]
    refine awp_imp (imp_nilc (h0 := 22) (k0 := 4) 500 25 1 rfl rfl (by simp) rfl rfl) ?_
    refine awp_loop (ι := {j : Nat // j ≤ c.kids.length}) (fun j => S.f ⟨[(7, .imm (.lit (.int .i64 (j.1 : Int)))), (6, .obj 22 0), (5, .obj 5 0), (2, .imm (.ptr [.sl false l.length (cellIVs l)] 0))], [(500, .arr 25 1 j.1 (Tree.ivs ((c.kids.take j.1).map fun x => growT l f x.toNat))), (22, .cells [.imm (.lit (.int .i64 c.k)), .imm (.lit (.int .i64 c.n)), .imm (.lit (.string c.a)), .imm (.lit (.string c.b)), .ref 500 j.1]), (5, .cells [.imm (.lit (.int .i64 c.k)), .imm (.lit (.int .i64 c.n)), .imm (.lit (.string c.a)), .imm (.lit (.string c.b)), .imm (.sl c.f c.kids.length (intIVs c.kids))])]⟩) (fun j => c.kids.length - j.1) ⟨0, Nat.zero_le _⟩ (le_of (by repeat' first | exact trivial | refine ⟨rfl, ?_⟩) (by repeat' first | exact trivial | refine ⟨rfl, ?_⟩)) ?_
    rintro ⟨j, hj⟩
    dsimp only
    by_cases hlt : j < c.kids.length
    · have hx := hbi c.kids[j] (List.getElem_mem hlt)
      have hcall := ih (c.kids[j]).toNat (by omega) (by omega)
      have hxe : ((c.kids[j]).toNat : Int) = c.kids[j] := Int.toNat_of_nonneg hx.1
      rw [hxe] at hcall
      obtain ⟨pc, hpc⟩ := growT_ptr l f (c.kids[j]).toNat (by omega) (by omega)
      have hTj := hTs j hlt
      rw [hpc] at hcall hTj
      repeat' (first | refine aops_nil ?_ | (refine aops_one ?_;  first | refine aops_quiet tabOk rfl rfl rfl (Nat.le_of_ble_eq_true rfl) rfl ?_ | (refine aops_cmp rfl rfl rfl (Nat.le_of_ble_eq_true rfl) rfl rfl rfl (fun hq => ?_) (fun hq => ?_) <;> (first | (simp only [decide_eq_true_eq, decide_eq_false_iff_not, beq_iff_eq, beq_eq_false_iff_ne, bne_iff_ne, bne_eq_false_iff_eq, Bool.not_eq_true', Bool.not_eq_false'] at hq; first | (exfalso; omega) | skip) | skip)) | refine aops_call rfl rfl (Nat.le_of_ble_eq_true rfl) rfl rfl rfl rfl (hcall) ?_ | refine aops_load1 tabOk rfl rfl rfl (Nat.le_of_ble_eq_true rfl) rfl rfl rfl (intIVs_get _ _ hlt) ?_ | refine aops_append tabOk rfl rfl rfl (Nat.le_of_ble_eq_true rfl) rfl rfl rfl rfl rfl rfl rfl (by first | omega | decide) rfl (by first | omega | (dsimp only; omega)) (by first | omega | (dsimp only; omega)) ?_ | refine aops_inc rfl rfl rfl (Nat.le_of_ble_eq_true rfl) rfl rfl (by omega) ?_ | refine aops_list tabOk rfl rfl rfl (Nat.le_of_ble_eq_true rfl) rfl rfl rfl rfl rfl rfl rfl rfl rfl ?_ | refine aops_pure tabOk rfl rfl (Nat.le_of_ble_eq_true rfl) rfl ?_ | refine aops_loadm tabOk rfl rfl rfl (Nat.le_of_ble_eq_true rfl) rfl rfl rfl rfl ?_ | refine aops_storem tabOk rfl rfl rfl rfl rfl rfl rfl rfl rfl rfl rfl ?_ | refine aops_index tabOk rfl rfl rfl (Nat.le_of_ble_eq_true rfl) rfl rfl rfl rfl (by first | assumption | omega) ?_) | (refine awp_one ?_;  first | refine awp_sreg ?_ | refine awp_seq ?_ | refine awp_region ?_ | refine awp_block ?_ | refine awp_skip ?_ | refine awp_cond (b := true) rfl (fun _ => ?_) (fun h => Bool.noConfusion h) | refine awp_region_draw mixed (by kernel_rfl) ?_) | (refine then_one ?_;  first | refine q_then ?_) | (refine block_one ?_;  first | refine q_block ?_) | refine feet_one (feetOk_of (by kernel_rfl)) ?_)
      refine ⟨⟨j + 1, hlt⟩, (by show c.kids.length - (j + 1) < c.kids.length - j; omega), ?_⟩
      dsimp only
      rw [hTj]
      exact (le_of (by repeat' first | exact trivial | refine ⟨rfl, ?_⟩) (by repeat' first | exact trivial | refine ⟨rfl, ?_⟩))
    · have ej : j = c.kids.length := by omega
      subst ej
      repeat' (first | refine aops_nil ?_ | (refine aops_one ?_;  first | refine aops_quiet tabOk rfl rfl rfl (Nat.le_of_ble_eq_true rfl) rfl ?_ | (refine aops_cmp rfl rfl rfl (Nat.le_of_ble_eq_true rfl) rfl rfl rfl (fun hq => ?_) (fun hq => ?_) <;> (first | (simp only [decide_eq_true_eq, decide_eq_false_iff_not, beq_iff_eq, beq_eq_false_iff_ne, bne_iff_ne, bne_eq_false_iff_eq, Bool.not_eq_true', Bool.not_eq_false'] at hq; first | (exfalso; omega) | skip) | skip)) | refine aops_pure tabOk rfl rfl (Nat.le_of_ble_eq_true rfl) rfl ?_ | refine aops_loadm tabOk rfl rfl rfl (Nat.le_of_ble_eq_true rfl) rfl rfl rfl rfl ?_) | (refine awp_one ?_;  first | refine awp_sreg ?_ | refine awp_seq ?_ | refine awp_ret ?_ | refine awp_exit ?_ | refine awp_cond (b := false) rfl (fun h => Bool.noConfusion h) (fun _ => ?_)) | (refine then_one ?_;  first | refine q_then ?_ | refine q_then_exit ?_) | (refine block_one ?_;  first | refine q_block_exit ?_))
      have hlen : (c.kids.map fun x => growT l f x.toNat).length = c.kids.length := by simp
      rw [List.take_length]
      refine iexit_imp ((Imp.of_le (σ' := S.f ⟨[(4, .obj 22 0)], [(500, .arr 25 1 c.kids.length (Tree.ivs (c.kids.map fun x => growT l f x.toNat))), (22, .cells [.imm (.lit (.int .i64 c.k)), .imm (.lit (.int .i64 c.n)), .imm (.lit (.string c.a)), .imm (.lit (.string c.b)), .ref 500 c.kids.length])]⟩) (le_of (by repeat' first | exact trivial | refine ⟨rfl, ?_⟩) (by repeat' first | exact trivial | refine ⟨rfl, ?_⟩))).trans ((imp_freezeR (g := 500) rfl (by repeat' first | exact trivial | exact fun _ => rfl | refine ⟨?_, ?_⟩) (by repeat' first | exact trivial | exact fun _ => rfl | refine ⟨?_, ?_⟩)).trans (imp_freeze (g := 22) rfl rfl))) ?_
      refine aexit_eq (by first | exact .inl rfl | exact .inr rfl) (results_1 rfl (resOk_tmp rfl)) rfl ?_
      show AV.imm _ = AV.imm _
      rw [Tree.iv, hlen]
      rfl
end Go.Proofs.YtdajnmffoopcaaaDoor.Ab
namespace Go.Proofs.YtdajnmffoopcaaaDoor.Ab
set_option linter.unusedVariables false
set_option linter.unusedSimpArgs false
open Go.RowKit
attribute [local irreducible] AWP AOps AExit AThen ABlock ANoGoto FeetOk
def allK : List CellD → List Int
  | [] => []
  | c :: l => c.kids ++ allK l
theorem allK_app : ∀ l m : List CellD, allK (l ++ m) = allK l ++ allK m
  | [], m => rfl
  | c :: l, m => by rw [List.cons_append, allK, allK, allK_app l m, List.append_assoc]
theorem allK_succ (l : List CellD) (i : Nat) (h : i < l.length) : allK (l.take (i + 1)) = allK (l.take i) ++ l[i].kids := by
  rw [List.take_succ_eq_append_getElem h, allK_app]
  simp [allK]
theorem allK_len (K : Nat) : ∀ l : List CellD, (∀ c ∈ l, c.kids.length ≤ K) → (allK l).length ≤ l.length * K
  | [], _ => by simp [allK]
  | c :: l, h => by
    have h1 := h c List.mem_cons_self
    have h2 := allK_len K l (fun d hd => h d (List.mem_cons_of_mem _ hd))
    rw [allK, List.length_append, List.length_cons, Nat.add_mul]
    omega
def cntIVs (n : Nat) (l : List Int) : List IV := (List.range n).map fun (j : Nat) => .lit (.int .i64 ((l.count (j : Int) : Nat) : Int))
theorem cnt_zero (n : Nat) : List.replicate n (IV.lit (.int .i64 0)) = cntIVs n [] := by
  apply List.ext_getElem
  · simp [cntIVs]
  · intro i h1 h2
    simp [cntIVs]
theorem cnt_get (n : Nat) (l : List Int) (x : Int) (h0 : 0 ≤ x) (h : x < (n : Int)) : (cntIVs n l)[x.toNat * 1]? = some (.lit (.int .i64 ((l.count x : Nat) : Int))) := by
  unfold cntIVs
  rw [Nat.mul_one, List.getElem?_map, List.getElem?_range (by omega)]
  rw [Option.map_some, Int.toNat_of_nonneg h0]
theorem cnt_set (n : Nat) (l : List Int) (x : Int) (h0 : 0 ≤ x) (h : x < (n : Int)) : (cntIVs n l).set (x.toNat * 1) (.lit (.int .i64 ((l.count x + 1 : Nat) : Int))) = cntIVs n (l ++ [x]) := by
  rw [Nat.mul_one]
  apply List.ext_getElem
  · simp [cntIVs]
  · intro i h1 h2
    rw [List.getElem_set]
    by_cases e : x.toNat = i
    · rw [if_pos e]
      have ex : x = (i : Int) := by omega
      subst ex
      simp [cntIVs, List.count_append]
    · rw [if_neg e]
      have ne : ¬ x = (i : Int) := by omega
      simp [cntIVs, List.count_append, List.count_singleton, ne]
def once (l : List CellD) : Prop := ∀ j : Nat, j < l.length - 1 → (allK l).count (j : Int) = 1
open Classical in
/-- What is made of a row of cells; what is told of it. -/
noncomputable def openR (l : List CellD) : Tree × Int :=
  if l.length = 0 then (.nil, 1) else if 8192 < l.length then (.nil, 3) else if below l ∧ once l then (growT l l.length (l.length - 1), 0) else (.nil, 16)
theorem bad_kid {l : List CellD} {i k : Nat} (hi : i < l.length) (hk : k < l[i].kids.length) (h : l[i].kids[k] < 0 ∨ (i : Int) ≤ l[i].kids[k]) : ¬ below l := fun hb => by
  have := hb i hi _ (List.getElem_mem hk)
  omega
theorem cell_kids {l : List CellD} {i : Nat} (hi : i < l.length) : (cellIVs l)[i * 5 + 4]? = some (.sl l[i].f l[i].kids.length (intIVs l[i].kids)) := by
  rw [cellIVs_at l i 4 hi (by omega)]; rfl
set_option maxHeartbeats 16000000 in
set_option maxRecDepth 10000 in
theorem open_a (l : List CellD) (hk : ∀ c ∈ l, c.kids.length ≤ 8192) :
    ACalls Tryd.prog 13 [.imm (.agg [.sl false l.length (cellIVs l)])] [] (.imm (.tup [(openR l).1.iv, .lit (.int .i64 (openR l).2)])) [] := by
  have hR : openR l = openR l := rfl
  conv at hR => rhs; unfold openR
  generalize openR l = R at *
  by_cases h0 : l.length = 0
  · rw [if_pos h0] at hR
    subst hR
    refine acalls_plain Tryd.func13 rfl rfl (Nat.le_of_ble_eq_true rfl) rfl ?_
    repeat' (first | refine aops_nil ?_ | (refine aops_one ?_;  first | refine aops_quiet tabOk rfl rfl rfl (Nat.le_of_ble_eq_true rfl) rfl ?_ | (refine aops_cmp rfl rfl rfl (Nat.le_of_ble_eq_true rfl) rfl rfl rfl (fun hq => ?_) (fun hq => ?_) <;> (first | (simp only [decide_eq_true_eq, decide_eq_false_iff_not, beq_iff_eq, beq_eq_false_iff_ne, bne_iff_ne, bne_eq_false_iff_eq, Bool.not_eq_true', Bool.not_eq_false'] at hq; first | (exfalso; omega) | skip) | skip)) | refine aops_pure tabOk rfl rfl (Nat.le_of_ble_eq_true rfl) rfl ?_) | (refine awp_one ?_;  first | refine awp_sreg ?_ | refine awp_seq ?_ | refine awp_ret ?_ | refine awp_cond (b := true) rfl (fun _ => ?_) (fun h => Bool.noConfusion h)) | (refine then_one ?_;  first | refine q_then_ret ?_))
    all_goals first
      | (exfalso; omega)
      | (refine aexit_eq (by first | exact .inl rfl | exact .inr rfl) (results_2 rfl (resOk_tmp rfl) (resOk_tmp rfl)) rfl ?_; rfl)
  · rw [if_neg h0] at hR
    by_cases h1 : 8192 < l.length
    · rw [if_pos h1] at hR
      subst hR
      refine acalls_plain Tryd.func13 rfl rfl (Nat.le_of_ble_eq_true rfl) rfl ?_
      repeat' (first | refine aops_nil ?_ | (refine aops_one ?_;  first | refine aops_quiet tabOk rfl rfl rfl (Nat.le_of_ble_eq_true rfl) rfl ?_ | (refine aops_cmp rfl rfl rfl (Nat.le_of_ble_eq_true rfl) rfl rfl rfl (fun hq => ?_) (fun hq => ?_) <;> (first | (simp only [decide_eq_true_eq, decide_eq_false_iff_not, beq_iff_eq, beq_eq_false_iff_ne, bne_iff_ne, bne_eq_false_iff_eq, Bool.not_eq_true', Bool.not_eq_false'] at hq; first | (exfalso; omega) | skip) | skip)) | refine aops_pure tabOk rfl rfl (Nat.le_of_ble_eq_true rfl) rfl ?_) | (refine awp_one ?_;  first | refine awp_sreg ?_ | refine awp_seq ?_ | refine awp_ret ?_ | refine awp_skip ?_ | refine awp_cond (b := true) rfl (fun _ => ?_) (fun h => Bool.noConfusion h) | refine awp_cond (b := false) rfl (fun h => Bool.noConfusion h) (fun _ => ?_)) | (refine then_one ?_;  first | refine q_then ?_ | refine q_then_ret ?_))
      all_goals first
        | (exfalso; omega)
        | (refine aexit_eq (by first | exact .inl rfl | exact .inr rfl) (results_2 rfl (resOk_tmp rfl) (resOk_tmp rfl)) rfl ?_; rfl)
    · rw [if_neg h1] at hR
      have hbad : ¬ (below l ∧ once l) → R = (.nil, 16) := fun h => by rw [hR, if_neg h]
      have hgood : below l ∧ once l → R = (growT l l.length (l.length - 1), 0) := fun h => by rw [hR, if_pos h]
      clear hR
      have hcz := cnt_zero l.length
      have hlimit : ∀ m : List Int, m.length ≤ 67108864 → ∀ x, m.count x < 9223372036854775807 := fun m hm x => by
        have := List.count_le_length (l := m) (a := x)
        omega
      have hpre : ∀ i, (allK (l.take i)).length ≤ l.length * 8192 := fun i => Nat.le_trans (allK_len 8192 _ (fun c hc => hk c (List.mem_of_mem_take hc))) (Nat.mul_le_mul_right _ (by rw [List.length_take]; omega))
      refine acalls_plain Tryd.func13 rfl rfl (Nat.le_of_ble_eq_true rfl) rfl ?_
      repeat' (first | refine aops_nil ?_ | (refine aops_one ?_;  first | refine aops_quiet tabOk rfl rfl rfl (Nat.le_of_ble_eq_true rfl) rfl ?_ | (refine aops_cmp rfl rfl rfl (Nat.le_of_ble_eq_true rfl) rfl rfl rfl (fun hq => ?_) (fun hq => ?_) <;> (first | (simp only [decide_eq_true_eq, decide_eq_false_iff_not, beq_iff_eq, beq_eq_false_iff_ne, bne_iff_ne, bne_eq_false_iff_eq, Bool.not_eq_true', Bool.not_eq_false'] at hq; first | (exfalso; omega) | skip) | skip)) | refine aops_makeslice 600 tabOk rfl rfl rfl (Nat.le_of_ble_eq_true rfl) rfl rfl rfl rfl rfl rfl rfl (by simp only [slMax]; omega) (by dsimp only; omega) (by simp) rfl rfl ?_ | refine aops_pure tabOk rfl rfl (Nat.le_of_ble_eq_true rfl) rfl ?_) | (refine awp_one ?_;  first | refine awp_sreg ?_ | refine awp_seq ?_ | refine awp_block ?_ | refine awp_skip ?_ | refine awp_cond (b := false) rfl (fun h => Bool.noConfusion h) (fun _ => ?_)) | (refine then_one ?_;  first | refine q_then ?_))
      all_goals first | (exfalso; omega) | skip
      rw [hcz]
      refine awp_loop (ι := {i : Nat // i ≤ l.length ∧ ∀ j (h : j < l.length), j < i → ∀ x ∈ l[j].kids, 0 ≤ x ∧ x < (j : Int)}) (fun i => S.f ⟨[(6, .imm (.lit (.int .i64 (i.1 : Int)))), (5, .ref 600 l.length), (4, .imm (.lit (.int .i64 (l.length : Int)))), (1, .imm (.ptr [.sl false l.length (cellIVs l)] 0))], [(600, .arr 3 1 l.length (cntIVs l.length (allK (l.take i.1))))]⟩) (fun i => l.length - i.1) ⟨0, Nat.zero_le _, fun j h h2 => by omega⟩ (le_of (by repeat' first | exact trivial | refine ⟨rfl, ?_⟩) (by repeat' first | exact trivial | refine ⟨rfl, ?_⟩)) ?_
      rintro ⟨i, hi, hpr⟩
      dsimp only
      by_cases hil : i < l.length
      · have hck := cell_kids hil
        have hki := hk _ (List.getElem_mem hil)
        have hstep := allK_succ l i hil
        repeat' (first | refine aops_nil ?_ | (refine aops_one ?_;  first | refine aops_quiet tabOk rfl rfl rfl (Nat.le_of_ble_eq_true rfl) rfl ?_ | (refine aops_cmp rfl rfl rfl (Nat.le_of_ble_eq_true rfl) rfl rfl rfl (fun hq => ?_) (fun hq => ?_) <;> (first | (simp only [decide_eq_true_eq, decide_eq_false_iff_not, beq_iff_eq, beq_eq_false_iff_ne, bne_iff_ne, bne_eq_false_iff_eq, Bool.not_eq_true', Bool.not_eq_false'] at hq; first | (exfalso; omega) | skip) | skip))) | (refine awp_one ?_;  first | refine awp_sreg ?_ | refine awp_seq ?_ | refine awp_block ?_ | refine awp_skip ?_ | refine awp_cond (b := true) rfl (fun _ => ?_) (fun h => Bool.noConfusion h)) | (refine then_one ?_;  first | refine q_then ?_))
        have e0 : cntIVs l.length (allK (l.take i)) = cntIVs l.length (allK (l.take i) ++ l[i].kids.take 0) := by rw [List.take_zero, List.append_nil]
        rw [e0]
        refine awp_loop (ι := {k : Nat // k ≤ l[i].kids.length ∧ ∀ x ∈ l[i].kids.take k, 0 ≤ x ∧ x < (i : Int)}) (fun k => S.f ⟨[(7, .imm (.lit (.int .i64 (k.1 : Int)))), (6, .imm (.lit (.int .i64 (i : Int)))), (5, .ref 600 l.length), (4, .imm (.lit (.int .i64 (l.length : Int)))), (1, .imm (.ptr [.sl false l.length (cellIVs l)] 0))], [(600, .arr 3 1 l.length (cntIVs l.length (allK (l.take i) ++ l[i].kids.take k.1)))]⟩) (fun k => l[i].kids.length - k.1) ⟨0, Nat.zero_le _, fun x hx => by rw [List.take_zero] at hx; cases hx⟩ (le_of (by repeat' first | exact trivial | refine ⟨rfl, ?_⟩) (by repeat' first | exact trivial | refine ⟨rfl, ?_⟩)) ?_
        rintro ⟨k, hkk, hkr⟩
        dsimp only
        by_cases hkl : k < l[i].kids.length
        · have hix := intIVs_get l[i].kids k hkl
          have hbk := @bad_kid l i k hil hkl
          have hnx : l[i].kids.take (k + 1) = l[i].kids.take k ++ [l[i].kids[k]] := List.take_succ_eq_append_getElem hkl
          have hpk : (allK (l.take i) ++ l[i].kids.take k).length ≤ 67108864 := by
            have := hpre i
            have h2 : l.length * 8192 ≤ 8192 * 8192 := Nat.mul_le_mul_right _ (by omega)
            have h3 : allK (l.take (i + 1)) = allK (l.take i) ++ l[i].kids := hstep
            have h4 := hpre (i + 1)
            rw [h3, List.length_append] at h4
            rw [List.length_append, List.length_take]
            omega
          have hcl := hlimit _ hpk l[i].kids[k]
          by_cases hx : 0 ≤ l[i].kids[k] ∧ l[i].kids[k] < (i : Int)
          · have hg1 := cnt_get l.length (allK (l.take i) ++ l[i].kids.take k) l[i].kids[k] hx.1 (by omega)
            have hs1 := cnt_set l.length (allK (l.take i) ++ l[i].kids.take k) l[i].kids[k] hx.1 (by omega)
            have hxe : l[i].kids[k] = ((l[i].kids[k]).toNat : Int) := (Int.toNat_of_nonneg hx.1).symm
            have hxl : (l[i].kids[k]).toNat < l.length := by omega
            have hkr2 : ∀ x ∈ l[i].kids.take (k + 1), 0 ≤ x ∧ x < (i : Int) := fun x hm => by
              rw [hnx, List.mem_append] at hm
              rcases hm with hm | hm
              · exact hkr x hm
              · rw [List.mem_singleton.1 hm]; exact hx
            rw [List.append_assoc, ← hnx] at hs1
            generalize (allK (l.take i) ++ l[i].kids.take k).count l[i].kids[k] = cn at *
            repeat' (first | refine aops_nil ?_ | (refine aops_one ?_;  first | refine aops_quiet tabOk rfl rfl rfl (Nat.le_of_ble_eq_true rfl) rfl ?_ | (refine aops_cmp rfl rfl rfl (Nat.le_of_ble_eq_true rfl) rfl rfl rfl (fun hq => ?_) (fun hq => ?_) <;> (first | (simp only [decide_eq_true_eq, decide_eq_false_iff_not, beq_iff_eq, beq_eq_false_iff_ne, bne_iff_ne, bne_eq_false_iff_eq, Bool.not_eq_true', Bool.not_eq_false'] at hq; first | (exfalso; omega) | skip) | skip)) | refine aops_load1 tabOk rfl rfl rfl (Nat.le_of_ble_eq_true rfl) rfl rfl rfl hck ?_ | refine aops_load1 tabOk rfl rfl rfl (Nat.le_of_ble_eq_true rfl) rfl rfl rfl hix ?_ | refine aops_indexref tabOk rfl rfl rfl (Nat.le_of_ble_eq_true rfl) rfl rfl rfl rfl rfl rfl hxe hxl ?_ | refine aops_loadel tabOk rfl rfl rfl (Nat.le_of_ble_eq_true rfl) rfl rfl rfl rfl (by omega) hg1 ?_ | refine aops_inc rfl rfl rfl (Nat.le_of_ble_eq_true rfl) rfl rfl hcl ?_ | refine aops_storeel tabOk rfl rfl rfl rfl rfl rfl rfl rfl rfl rfl (by omega) (by show (l[i].kids[k]).toNat * 1 < l.length * 1; omega) ?_ | refine aops_inc rfl rfl rfl (Nat.le_of_ble_eq_true rfl) rfl rfl (by omega) ?_ | refine aops_pure tabOk rfl rfl (Nat.le_of_ble_eq_true rfl) rfl ?_ | refine aops_index tabOk rfl rfl rfl (Nat.le_of_ble_eq_true rfl) rfl rfl rfl rfl (by first | assumption | omega) ?_) | (refine awp_one ?_;  first | refine awp_sreg ?_ | refine awp_seq ?_ | refine awp_region ?_ | refine awp_block ?_ | refine awp_skip ?_ | refine awp_cond (b := true) rfl (fun _ => ?_) (fun h => Bool.noConfusion h) | refine awp_cond (b := false) rfl (fun h => Bool.noConfusion h) (fun _ => ?_)) | (refine then_one ?_;  first | refine q_then ?_) | (refine block_one ?_;  first | refine q_block ?_))
            all_goals first | (exfalso; omega) | skip
            refine ⟨⟨k + 1, hkl, hkr2⟩, (by show l[i].kids.length - (k + 1) < l[i].kids.length - k; omega), ?_⟩
            dsimp only
            rw [← hs1]
            exact (le_of (by repeat' first | exact trivial | refine ⟨rfl, ?_⟩) (by repeat' first | exact trivial | refine ⟨rfl, ?_⟩))
          · have e := hbad (fun h => hbk (by omega) h.1)
            subst e
            repeat' (first | refine aops_nil ?_ | (refine aops_one ?_;  first | refine aops_quiet tabOk rfl rfl rfl (Nat.le_of_ble_eq_true rfl) rfl ?_ | refine aops_skip rfl rfl (Nat.le_of_ble_eq_true rfl) ?_ | (refine aops_cmp rfl rfl rfl (Nat.le_of_ble_eq_true rfl) rfl rfl rfl (fun hq => ?_) (fun hq => ?_) <;> (first | (simp only [decide_eq_true_eq, decide_eq_false_iff_not, beq_iff_eq, beq_eq_false_iff_ne, bne_iff_ne, bne_eq_false_iff_eq, Bool.not_eq_true', Bool.not_eq_false'] at hq; first | (exfalso; omega) | skip) | skip)) | refine aops_load1 tabOk rfl rfl rfl (Nat.le_of_ble_eq_true rfl) rfl rfl rfl hck ?_ | refine aops_load1 tabOk rfl rfl rfl (Nat.le_of_ble_eq_true rfl) rfl rfl rfl hix ?_ | refine aops_pure tabOk rfl rfl (Nat.le_of_ble_eq_true rfl) rfl ?_ | refine aops_index tabOk rfl rfl rfl (Nat.le_of_ble_eq_true rfl) rfl rfl rfl rfl (by first | assumption | omega) ?_) | (refine awp_one ?_;  first | refine awp_sreg ?_ | refine awp_seq ?_ | refine awp_block ?_ | refine awp_ret ?_ | refine awp_skip ?_ | refine awp_cond (b := true) rfl (fun _ => ?_) (fun h => Bool.noConfusion h)) | (refine then_one ?_;  first | refine q_then ?_ | refine q_then_ret ?_) | (refine block_one ?_;  first | refine q_block_ret ?_))
            all_goals first
              | (exfalso; omega)
              | (refine aexit_eq (by first | exact .inl rfl | exact .inr rfl) (results_2 rfl (resOk_tmp rfl) (resOk_tmp rfl)) rfl ?_; rfl)
        · have ek : k = l[i].kids.length := by omega
          subst ek
          rw [List.take_length] at *
          rw [← hstep]
          have hpr2 : ∀ j (h : j < l.length), j < i + 1 → ∀ x ∈ l[j].kids, 0 ≤ x ∧ x < (j : Int) := fun j h hj x hx => by
            rcases Nat.lt_or_ge j i with h2 | h2
            · exact hpr j h h2 x hx
            · have e : j = i := by omega
              subst e
              exact hkr x hx
          repeat' (first | refine aops_nil ?_ | (refine aops_one ?_;  first | refine aops_quiet tabOk rfl rfl rfl (Nat.le_of_ble_eq_true rfl) rfl ?_ | (refine aops_cmp rfl rfl rfl (Nat.le_of_ble_eq_true rfl) rfl rfl rfl (fun hq => ?_) (fun hq => ?_) <;> (first | (simp only [decide_eq_true_eq, decide_eq_false_iff_not, beq_iff_eq, beq_eq_false_iff_ne, bne_iff_ne, bne_eq_false_iff_eq, Bool.not_eq_true', Bool.not_eq_false'] at hq; first | (exfalso; omega) | skip) | skip)) | refine aops_load1 tabOk rfl rfl rfl (Nat.le_of_ble_eq_true rfl) rfl rfl rfl hck ?_ | refine aops_inc rfl rfl rfl (Nat.le_of_ble_eq_true rfl) rfl rfl (by omega) ?_ | refine aops_pure tabOk rfl rfl (Nat.le_of_ble_eq_true rfl) rfl ?_ | refine aops_index tabOk rfl rfl rfl (Nat.le_of_ble_eq_true rfl) rfl rfl rfl rfl (by first | assumption | omega) ?_) | (refine awp_one ?_;  first | refine awp_sreg ?_ | refine awp_seq ?_ | refine awp_region ?_ | refine awp_exit ?_ | refine awp_cond (b := false) rfl (fun h => Bool.noConfusion h) (fun _ => ?_)) | (refine then_one ?_;  first | refine q_then ?_ | refine q_then_exit ?_) | (refine block_one ?_;  first | refine q_block ?_ | refine q_block_exit ?_))
          all_goals first
            | (exfalso; omega)
            | exact ⟨⟨i + 1, hil, hpr2⟩, (by show l.length - (i + 1) < l.length - i; omega), (le_of (by repeat' first | exact trivial | refine ⟨rfl, ?_⟩) (by repeat' first | exact trivial | refine ⟨rfl, ?_⟩))⟩
      · have ei : i = l.length := by omega
        subst ei
        have hbl : below l := fun j h x hx => hpr j h h x hx
        rw [List.take_length]
        repeat' (first | refine aops_nil ?_ | (refine aops_one ?_;  first | refine aops_quiet tabOk rfl rfl rfl (Nat.le_of_ble_eq_true rfl) rfl ?_ | (refine aops_cmp rfl rfl rfl (Nat.le_of_ble_eq_true rfl) rfl rfl rfl (fun hq => ?_) (fun hq => ?_) <;> (first | (simp only [decide_eq_true_eq, decide_eq_false_iff_not, beq_iff_eq, beq_eq_false_iff_ne, bne_iff_ne, bne_eq_false_iff_eq, Bool.not_eq_true', Bool.not_eq_false'] at hq; first | (exfalso; omega) | skip) | skip))) | (refine awp_one ?_;  first | refine awp_sreg ?_ | refine awp_seq ?_ | refine awp_block ?_ | refine awp_exit ?_ | refine awp_cond (b := false) rfl (fun h => Bool.noConfusion h) (fun _ => ?_)) | (refine then_one ?_;  first | refine q_then ?_ | refine q_then_exit ?_) | (refine block_one ?_;  first | refine q_block_exit ?_))
        refine awp_loop (ι := {j : Nat // j ≤ l.length - 1 ∧ ∀ q : Nat, q < j → (allK l).count (q : Int) = 1}) (fun j => S.f ⟨[(9, .imm (.lit (.int .i64 (j.1 : Int)))), (5, .ref 600 l.length), (4, .imm (.lit (.int .i64 (l.length : Int)))), (1, .imm (.ptr [.sl false l.length (cellIVs l)] 0))], [(600, .arr 3 1 l.length (cntIVs l.length (allK l)))]⟩) (fun j => l.length - j.1) ⟨0, Nat.zero_le _, fun q h => by omega⟩ (le_of (by repeat' first | exact trivial | refine ⟨rfl, ?_⟩) (by repeat' first | exact trivial | refine ⟨rfl, ?_⟩)) ?_
        rintro ⟨j, hj, hone⟩
        dsimp only
        by_cases hjl : j < l.length - 1
        · have hg1 : (cntIVs l.length (allK l))[j * 1]? = some (.lit (.int .i64 (((allK l).count (j : Int) : Nat) : Int))) := cnt_get l.length (allK l) (j : Int) (by omega) (by omega)
          by_cases hc1 : (allK l).count (j : Int) = 1
          · rw [hc1] at hg1
            have hone2 : ∀ q : Nat, q < j + 1 → (allK l).count (q : Int) = 1 := fun q hq => by
              rcases Nat.lt_or_ge q j with h2 | h2
              · exact hone q h2
              · have e : q = j := by omega
                subst e
                exact hc1
            repeat' (first | refine aops_nil ?_ | (refine aops_one ?_;  first | refine aops_quiet tabOk rfl rfl rfl (Nat.le_of_ble_eq_true rfl) rfl ?_ | (refine aops_cmp rfl rfl rfl (Nat.le_of_ble_eq_true rfl) rfl rfl rfl (fun hq => ?_) (fun hq => ?_) <;> (first | (simp only [decide_eq_true_eq, decide_eq_false_iff_not, beq_iff_eq, beq_eq_false_iff_ne, bne_iff_ne, bne_eq_false_iff_eq, Bool.not_eq_true', Bool.not_eq_false'] at hq; first | (exfalso; omega) | skip) | skip)) | refine aops_indexref tabOk rfl rfl rfl (Nat.le_of_ble_eq_true rfl) rfl rfl rfl rfl rfl rfl rfl (by omega) ?_ | refine aops_loadel tabOk rfl rfl rfl (Nat.le_of_ble_eq_true rfl) rfl rfl rfl rfl (by omega) hg1 ?_ | refine aops_inc rfl rfl rfl (Nat.le_of_ble_eq_true rfl) rfl rfl (by omega) ?_ | refine aops_sub rfl rfl rfl (Nat.le_of_ble_eq_true rfl) rfl rfl rfl (by omega) (by omega) ?_) | (refine awp_one ?_;  first | refine awp_sreg ?_ | refine awp_seq ?_ | refine awp_region ?_ | refine awp_block ?_ | refine awp_skip ?_ | refine awp_cond (b := true) rfl (fun _ => ?_) (fun h => Bool.noConfusion h) | refine awp_cond (b := false) rfl (fun h => Bool.noConfusion h) (fun _ => ?_)) | (refine then_one ?_;  first | refine q_then ?_) | (refine block_one ?_;  first | refine q_block ?_))
            all_goals first
              | (exfalso; omega)
              | exact absurd rfl (by assumption)
              | exact ⟨⟨j + 1, hjl, hone2⟩, (by show l.length - (j + 1) < l.length - j; omega), (le_of (by repeat' first | exact trivial | refine ⟨rfl, ?_⟩) (by repeat' first | exact trivial | refine ⟨rfl, ?_⟩))⟩
          · have e := hbad (fun h => hc1 (h.2 j hjl))
            subst e
            repeat' (first | refine aops_nil ?_ | (refine aops_one ?_;  first | refine aops_quiet tabOk rfl rfl rfl (Nat.le_of_ble_eq_true rfl) rfl ?_ | (refine aops_cmp rfl rfl rfl (Nat.le_of_ble_eq_true rfl) rfl rfl rfl (fun hq => ?_) (fun hq => ?_) <;> (first | (simp only [decide_eq_true_eq, decide_eq_false_iff_not, beq_iff_eq, beq_eq_false_iff_ne, bne_iff_ne, bne_eq_false_iff_eq, Bool.not_eq_true', Bool.not_eq_false'] at hq; first | (exfalso; omega) | skip) | skip)) | refine aops_indexref tabOk rfl rfl rfl (Nat.le_of_ble_eq_true rfl) rfl rfl rfl rfl rfl rfl rfl (by omega) ?_ | refine aops_loadel tabOk rfl rfl rfl (Nat.le_of_ble_eq_true rfl) rfl rfl rfl rfl (by omega) hg1 ?_ | refine aops_sub rfl rfl rfl (Nat.le_of_ble_eq_true rfl) rfl rfl rfl (by omega) (by omega) ?_) | (refine awp_one ?_;  first | refine awp_sreg ?_ | refine awp_seq ?_ | refine awp_block ?_ | refine awp_ret ?_ | refine awp_skip ?_ | refine awp_cond (b := true) rfl (fun _ => ?_) (fun h => Bool.noConfusion h)) | (refine then_one ?_;  first | refine q_then ?_ | refine q_then_ret ?_) | (refine block_one ?_;  first | refine q_block_ret ?_))
            all_goals first
              | (exfalso; omega)
              | (refine aexit_eq (by first | exact .inl rfl | exact .inr rfl) (results_2 rfl (resOk_tmp rfl) (resOk_tmp rfl)) rfl ?_; rfl)
        · have ej : j = l.length - 1 := by omega
          subst ej
          have e := hgood ⟨hbl, hone⟩
          subst e
          have hcall := grow_a l hbl (by omega) hk l.length (l.length - 1) (by omega) (by omega)
          repeat' (first | refine aops_nil ?_ | (refine aops_one ?_;  first | refine aops_quiet tabOk rfl rfl rfl (Nat.le_of_ble_eq_true rfl) rfl ?_ | (refine aops_cmp rfl rfl rfl (Nat.le_of_ble_eq_true rfl) rfl rfl rfl (fun hq => ?_) (fun hq => ?_) <;> (first | (simp only [decide_eq_true_eq, decide_eq_false_iff_not, beq_iff_eq, beq_eq_false_iff_ne, bne_iff_ne, bne_eq_false_iff_eq, Bool.not_eq_true', Bool.not_eq_false'] at hq; first | (exfalso; omega) | skip) | skip)) | refine aops_sub (z := ((l.length - 1 : Nat) : Int)) rfl rfl rfl (Nat.le_of_ble_eq_true rfl) rfl rfl (by omega) (by omega) (by omega) ?_ | refine aops_call rfl rfl (Nat.le_of_ble_eq_true rfl) rfl rfl rfl rfl (hcall) ?_) | (refine awp_one ?_;  first | refine awp_sreg ?_ | refine awp_seq ?_ | refine awp_ret ?_ | refine awp_exit ?_ | refine awp_cond (b := false) rfl (fun h => Bool.noConfusion h) (fun _ => ?_)) | (refine then_one ?_;  first | refine q_then ?_ | refine q_then_exit ?_) | (refine block_one ?_;  first | refine q_block_exit ?_))
          all_goals first
            | (exfalso; omega)
            | (refine aexit_eq (by first | exact .inl rfl | exact .inr rfl) (results_2 rfl (resOk_tmp rfl) (resOk_tmp rfl)) rfl ?_; rfl)
end Go.Proofs.YtdajnmffoopcaaaDoor.Ab
namespace Go.Proofs.YtdajnmffoopcaaaDoor.Ab
set_option linter.unusedVariables false
set_option linter.unusedSimpArgs false
open Go.RowKit
attribute [local irreducible] AWP AOps AExit AThen ABlock ANoGoto FeetOk
theorem min_nat2 (n K : Nat) : (if (K : Int) < (n : Int) then (K : Int) else (n : Int)) = ((min n K : Nat) : Int) := by split <;> omega
def cutB (K : Nat) (s : ByteArray) : ByteArray := s.extract 0 (min s.size K)
theorem cutB_size (K : Nat) (s : ByteArray) : (cutB K s).size ≤ K := by unfold cutB; rw [ByteArray.size_extract]; omega
def fewCell (c : CellD) : CellD := ⟨decide (c.kids.length = 0), c.k, c.n, cutB 165 c.a, cutB 20 c.b, c.kids.take 12⟩
theorem kids_cut (l : List Int) : IV.sl false (min l.length 12 - 0) (((intIVs l).drop (0 * 1)).take ((min l.length 12 - 0) * 1)) = .sl false (l.take 12).length (intIVs (l.take 12)) := by
  unfold intIVs
  rw [Nat.zero_mul, List.drop_zero, Nat.sub_zero, Nat.mul_one, List.length_take, List.map_take, Nat.min_comm]
  congr 1
  conv => rhs; rw [List.take_eq_take_min, List.length_map]
theorem cellIVs_snoc (l : List CellD) (c : CellD) : cellIVs (l ++ [c]) = cellIVs l ++ cellIV c := by
  rw [cellIVs_app]
  show _ ++ (cellIV c ++ []) = _
  rw [List.append_nil]
def fewCells10 (l : List CellD) : List CellD := (l.take 60).map fewCell
set_option maxHeartbeats 16000000 in
set_option maxRecDepth 10000 in
theorem treeFew10_a (l : List CellD) (hff : ∀ c ∈ l, c.f = false) : ACalls Tryd.prog 5 [.imm (.agg [.sl false l.length (cellIVs l)])] [] (.imm (openR (fewCells10 l)).1.iv) [] := by
  have hkids : ∀ c ∈ fewCells10 l, c.kids.length ≤ 8192 := fun c hc => by
    unfold fewCells10 at hc
    obtain ⟨d, _, rfl⟩ := List.mem_map.1 hc
    show (d.kids.take 12).length ≤ 8192
    rw [List.length_take]; omega
  have hopen := open_a (fewCells10 l) hkids
  refine acalls_plain Tryd.func5 rfl rfl (Nat.le_of_ble_eq_true rfl) rfl ?_
  repeat' (first | refine aops_nil ?_ | (refine aops_one ?_;  first | refine aops_quiet tabOk rfl rfl rfl (Nat.le_of_ble_eq_true rfl) rfl ?_ | refine aops_pure tabOk rfl rfl (Nat.le_of_ble_eq_true rfl) rfl ?_ | refine aops_alloc tabOk rfl rfl rfl (Nat.le_of_ble_eq_true rfl) rfl rfl rfl rfl rfl rfl ?_) | (refine awp_one ?_;  first | refine awp_sreg ?_ | refine awp_seq ?_ | refine awp_block ?_))
  refine awp_imp (imp_nilc (h0 := 3) (k0 := 0) 500 42 5 rfl rfl (by simp) rfl rfl) ?_
  refine awp_loop (ι := {i : Nat // i ≤ l.length ∧ i ≤ 60}) (fun i => S.f ⟨[(4, .imm (.lit (.int .i64 (i.1 : Int)))), (3, .obj 3 0), (1, .imm (.ptr [.sl false l.length (cellIVs l)] 0))], [(500, .arr 42 5 i.1 (cellIVs ((l.take i.1).map fewCell))), (3, .cells [.ref 500 i.1])]⟩) (fun i => l.length - i.1) ⟨0, Nat.zero_le _, Nat.zero_le _⟩ (le_of (by repeat' first | exact trivial | refine ⟨rfl, ?_⟩) (by repeat' first | exact trivial | refine ⟨rfl, ?_⟩)) ?_
  rintro ⟨i, hi, hiK⟩
  dsimp only
  by_cases hgo : i < l.length ∧ i < 60
  · obtain ⟨hil, hik⟩ := hgo
    have hrow := cellIVs_get l i hil
    have hcf := hff l[i] (List.getElem_mem hil)
    have hnx : cellIVs ((l.take (i + 1)).map fewCell) = cellIVs ((l.take i).map fewCell) ++ cellIV (fewCell l[i]) := by
      rw [List.take_succ_eq_append_getElem hil, List.map_append, List.map_singleton, cellIVs_snoc]
    generalize l[i] = c at *
    change _ = [IV.lit (.int .i64 c.k), .lit (.int .i64 c.n), .lit (.string c.a), .lit (.string c.b), .sl c.f c.kids.length (intIVs c.kids)] at hrow
    rw [hcf] at hrow
    have hkc := kids_cut c.kids
    by_cases hz : c.kids.length = 0
    · have hk0 : c.kids = [] := List.eq_nil_of_length_eq_zero hz
      have hfc : cellIV (fewCell c) = [IV.lit (.int .i64 c.k), .lit (.int .i64 c.n), .lit (.string (cutB 165 c.a)), .lit (.string (cutB 20 c.b)), .sl true 0 []] := by
        unfold fewCell cellIV
        rw [hk0]
        rfl
      rw [hk0] at hrow hkc
      rw [hfc] at hnx
      repeat' (first | refine aops_nil ?_ | (refine aops_one ?_;  first | refine aops_quiet tabOk rfl rfl rfl (Nat.le_of_ble_eq_true rfl) rfl ?_ | (refine aops_cmp rfl rfl rfl (Nat.le_of_ble_eq_true rfl) rfl rfl rfl (fun hq => ?_) (fun hq => ?_) <;> (first | (simp only [decide_eq_true_eq, decide_eq_false_iff_not, beq_iff_eq, beq_eq_false_iff_ne, bne_iff_ne, bne_eq_false_iff_eq, Bool.not_eq_true', Bool.not_eq_false'] at hq; first | (exfalso; omega) | skip) | skip)) | refine aops_loadr tabOk rfl rfl rfl (Nat.le_of_ble_eq_true rfl) rfl rfl rfl hrow rfl ?_ | refine aops_min rfl rfl rfl (Nat.le_of_ble_eq_true rfl) rfl rfl (min_nat2 c.a.size 165) ?_ | refine aops_min rfl rfl rfl (Nat.le_of_ble_eq_true rfl) rfl rfl (min_nat2 c.b.size 20) ?_ | refine aops_min (r := 0) rfl rfl rfl (Nat.le_of_ble_eq_true rfl) rfl rfl rfl ?_ | refine aops_cut (l := 0) (h := min c.a.size 165) (r := cutB 165 c.a) tabOk rfl rfl rfl (Nat.le_of_ble_eq_true rfl) rfl rfl rfl rfl (by omega) (by omega) rfl ?_ | refine aops_cut (l := 0) (h := min c.b.size 20) (r := cutB 20 c.b) tabOk rfl rfl rfl (Nat.le_of_ble_eq_true rfl) rfl rfl rfl rfl (by omega) (by omega) rfl ?_ | refine aops_slice (l := 0) (h := 0) tabOk rfl rfl rfl (Nat.le_of_ble_eq_true rfl) rfl rfl rfl rfl rfl (Nat.le_refl _) (Nat.zero_le _) rfl ?_ | refine aops_append0 tabOk rfl rfl rfl (Nat.le_of_ble_eq_true rfl) rfl rfl rfl rfl ?_ | refine aops_append tabOk rfl rfl rfl (Nat.le_of_ble_eq_true rfl) rfl rfl rfl rfl rfl rfl rfl (by first | omega | decide) rfl (by first | omega | (dsimp only; omega)) (by first | omega | (dsimp only; omega)) ?_ | refine aops_inc rfl rfl rfl (Nat.le_of_ble_eq_true rfl) rfl rfl (by omega) ?_ | refine aops_list tabOk rfl rfl rfl (Nat.le_of_ble_eq_true rfl) rfl rfl rfl rfl rfl rfl rfl rfl rfl ?_ | refine aops_pure tabOk rfl rfl (Nat.le_of_ble_eq_true rfl) rfl ?_ | refine aops_alloc tabOk rfl rfl rfl (Nat.le_of_ble_eq_true rfl) rfl rfl rfl rfl rfl rfl ?_ | refine aops_loadm tabOk rfl rfl rfl (Nat.le_of_ble_eq_true rfl) rfl rfl rfl rfl ?_ | refine aops_storem tabOk rfl rfl rfl rfl rfl rfl rfl rfl rfl rfl rfl ?_ | refine aops_index tabOk rfl rfl rfl (Nat.le_of_ble_eq_true rfl) rfl rfl rfl rfl (by first | assumption | omega) ?_) | (refine awp_one ?_;  first | refine awp_sreg ?_ | refine awp_seq ?_ | refine awp_region ?_ | refine awp_block ?_ | refine awp_skip ?_ | refine awp_cond (b := true) rfl (fun _ => ?_) (fun h => Bool.noConfusion h) | refine awp_region_draw mixed (by kernel_rfl) ?_) | (refine then_one ?_;  first | refine q_then ?_) | (refine block_one ?_;  first | refine q_block ?_) | refine feet_one (feetOk_of (by kernel_rfl)) ?_)
      refine ⟨⟨i + 1, hil, hik⟩, (by show l.length - (i + 1) < l.length - i; omega), ?_⟩
      dsimp only
      rw [hnx]
      exact (le_of (by repeat' first | exact trivial | refine ⟨rfl, ?_⟩) (by repeat' first | exact trivial | refine ⟨rfl, ?_⟩))
    · have hfc : cellIV (fewCell c) = [IV.lit (.int .i64 c.k), .lit (.int .i64 c.n), .lit (.string (cutB 165 c.a)), .lit (.string (cutB 20 c.b)), .sl false (0 + (c.kids.take 12).length) (intIVs (c.kids.take 12))] := by
        unfold fewCell cellIV
        dsimp only
        rw [decide_eq_false hz, Nat.zero_add]
      have hkl : 0 < (c.kids.take 12).length := by rw [List.length_take]; omega
      have hkl2 : (c.kids.take 12).length ≤ 12 := by rw [List.length_take]; omega
      have hil2 := intIVs_len (c.kids.take 12)
      rw [hfc] at hnx
      repeat' (first | refine aops_nil ?_ | (refine aops_one ?_;  first | refine aops_quiet tabOk rfl rfl rfl (Nat.le_of_ble_eq_true rfl) rfl ?_ | (refine aops_cmp rfl rfl rfl (Nat.le_of_ble_eq_true rfl) rfl rfl rfl (fun hq => ?_) (fun hq => ?_) <;> (first | (simp only [decide_eq_true_eq, decide_eq_false_iff_not, beq_iff_eq, beq_eq_false_iff_ne, bne_iff_ne, bne_eq_false_iff_eq, Bool.not_eq_true', Bool.not_eq_false'] at hq; first | (exfalso; omega) | skip) | skip)) | refine aops_loadr tabOk rfl rfl rfl (Nat.le_of_ble_eq_true rfl) rfl rfl rfl hrow rfl ?_ | refine aops_min rfl rfl rfl (Nat.le_of_ble_eq_true rfl) rfl rfl (min_nat2 c.a.size 165) ?_ | refine aops_min rfl rfl rfl (Nat.le_of_ble_eq_true rfl) rfl rfl (min_nat2 c.b.size 20) ?_ | refine aops_cut (l := 0) (h := min c.a.size 165) (r := cutB 165 c.a) tabOk rfl rfl rfl (Nat.le_of_ble_eq_true rfl) rfl rfl rfl rfl (by omega) (by omega) rfl ?_ | refine aops_cut (l := 0) (h := min c.b.size 20) (r := cutB 20 c.b) tabOk rfl rfl rfl (Nat.le_of_ble_eq_true rfl) rfl rfl rfl rfl (by omega) (by omega) rfl ?_ | refine aops_min rfl rfl rfl (Nat.le_of_ble_eq_true rfl) rfl rfl (min_nat2 c.kids.length 12) ?_ | refine aops_slice (l := 0) (h := min c.kids.length 12) tabOk rfl rfl rfl (Nat.le_of_ble_eq_true rfl) rfl rfl rfl rfl rfl (Nat.zero_le _) (by omega) hkc ?_ | refine aops_appendfull (zs := intIVs (c.kids.take 12)) tabOk rfl rfl rfl (Nat.le_of_ble_eq_true rfl) rfl rfl rfl rfl (.inl rfl) rfl rfl hkl (by rw [hil2]; exact (Nat.mul_one _).symm) (by omega) (by dsimp only; omega) rfl ?_ | refine aops_append tabOk rfl rfl rfl (Nat.le_of_ble_eq_true rfl) rfl rfl rfl rfl rfl rfl rfl (by first | omega | decide) rfl (by first | omega | (dsimp only; omega)) (by first | omega | (dsimp only; omega)) ?_ | refine aops_inc rfl rfl rfl (Nat.le_of_ble_eq_true rfl) rfl rfl (by omega) ?_ | refine aops_list tabOk rfl rfl rfl (Nat.le_of_ble_eq_true rfl) rfl rfl rfl rfl rfl rfl rfl rfl rfl ?_ | refine aops_pure tabOk rfl rfl (Nat.le_of_ble_eq_true rfl) rfl ?_ | refine aops_alloc tabOk rfl rfl rfl (Nat.le_of_ble_eq_true rfl) rfl rfl rfl rfl rfl rfl ?_ | refine aops_loadm tabOk rfl rfl rfl (Nat.le_of_ble_eq_true rfl) rfl rfl rfl rfl ?_ | refine aops_storem tabOk rfl rfl rfl rfl rfl rfl rfl rfl rfl rfl rfl ?_ | refine aops_index tabOk rfl rfl rfl (Nat.le_of_ble_eq_true rfl) rfl rfl rfl rfl (by first | assumption | omega) ?_) | (refine awp_one ?_;  first | refine awp_sreg ?_ | refine awp_seq ?_ | refine awp_region ?_ | refine awp_block ?_ | refine awp_skip ?_ | refine awp_cond (b := true) rfl (fun _ => ?_) (fun h => Bool.noConfusion h) | refine awp_region_draw mixed (by kernel_rfl) ?_) | (refine then_one ?_;  first | refine q_then ?_) | (refine block_one ?_;  first | refine q_block ?_) | refine feet_one (feetOk_of (by kernel_rfl)) ?_)
      refine ⟨⟨i + 1, hil, hik⟩, (by show l.length - (i + 1) < l.length - i; omega), ?_⟩
      dsimp only
      rw [hnx]
      exact (le_of (by repeat' first | exact trivial | refine ⟨rfl, ?_⟩) (by repeat' first | exact trivial | refine ⟨rfl, ?_⟩))
  · have htk : (l.take i).map fewCell = fewCells10 l := by
      unfold fewCells10
      congr 1
      by_cases hK : i = 60
      · rw [hK]
      · rw [List.take_of_length_le (by omega), List.take_of_length_le (by omega)]
    have hfl : i = (fewCells10 l).length := by rw [← htk, List.length_map, List.length_take]; omega
    rw [htk]
    refine awp_imp ((Imp.of_le (σ' := S.f ⟨[(4, .imm (.lit (.int .i64 (i : Int)))), (3, .obj 3 0), (1, .imm (.ptr [.sl false l.length (cellIVs l)] 0))], [(500, .arr 42 5 (fewCells10 l).length (cellIVs (fewCells10 l))), (3, .cells [.ref 500 (fewCells10 l).length])]⟩) (by rw [← hfl]; exact (le_of (by repeat' first | exact trivial | refine ⟨rfl, ?_⟩) (by repeat' first | exact trivial | refine ⟨rfl, ?_⟩)))).trans (imp_freezeR (g := 500) rfl (by repeat' first | exact trivial | exact fun _ => rfl | refine ⟨?_, ?_⟩) (by repeat' first | exact trivial | exact fun _ => rfl | refine ⟨?_, ?_⟩))) ?_
    generalize fewCells10 l = L at *
    generalize openR L = R at *
    obtain ⟨R1, R2⟩ := R
    dsimp only at *
    repeat' (first | refine aops_nil ?_ | (refine aops_one ?_;  first | refine aops_quiet tabOk rfl rfl rfl (Nat.le_of_ble_eq_true rfl) rfl ?_ | refine aops_skip rfl rfl (Nat.le_of_ble_eq_true rfl) ?_ | (refine aops_cmp rfl rfl rfl (Nat.le_of_ble_eq_true rfl) rfl rfl rfl (fun hq => ?_) (fun hq => ?_) <;> (first | (simp only [decide_eq_true_eq, decide_eq_false_iff_not, beq_iff_eq, beq_eq_false_iff_ne, bne_iff_ne, bne_eq_false_iff_eq, Bool.not_eq_true', Bool.not_eq_false'] at hq; first | (exfalso; omega) | skip) | skip)) | refine aops_call rfl rfl (Nat.le_of_ble_eq_true rfl) rfl rfl rfl rfl (hopen) ?_ | refine aops_pure tabOk rfl rfl (Nat.le_of_ble_eq_true rfl) rfl ?_ | refine aops_loadm tabOk rfl rfl rfl (Nat.le_of_ble_eq_true rfl) rfl rfl rfl rfl ?_) | (refine awp_one ?_;  first | refine awp_sreg ?_ | refine awp_seq ?_ | refine awp_ret ?_ | refine awp_exit ?_ | refine awp_cond (b := false) rfl (fun h => Bool.noConfusion h) (fun _ => ?_)) | (refine then_one ?_;  first | refine q_then ?_ | refine q_then_exit ?_) | (refine block_one ?_;  first | refine q_block_exit ?_))
    all_goals first
      | exact aexit_plain (by first | exact .inl rfl | exact .inr rfl) (results_1 rfl (resOk_tmp rfl)) rfl
      | (exfalso; omega)
end Go.Proofs.YtdajnmffoopcaaaDoor.Ab
namespace Go.Proofs.YtdajnmffoopcaaaDoor.Ab
set_option linter.unusedVariables false
set_option linter.unusedSimpArgs false
open Go.RowKit
theorem growT_fuel (l : List CellD) (hb : below l) : ∀ (f f' i : Nat), i < f → i < f' → i < l.length → growT l f i = growT l f' i
  | 0, _, _, h, _, _ => by omega
  | f + 1, 0, _, _, h, _ => by omega
  | f + 1, f' + 1, i, h, h', hi => by
    rw [growT, growT, List.getElem?_eq_getElem hi]
    dsimp only
    congr 1
    refine List.map_congr_left fun x hx => ?_
    have := hb i hi x hx
    exact growT_fuel l hb f f' x.toNat (by omega) (by omega) (by omega)
theorem growT_whole (l : List CellD) (hb : below l) : ∀ (f i : Nat), i < f → i < l.length → (growT l f i).whole = true
  | 0, _, h, _ => by omega
  | f + 1, i, h, hi => by
    rw [growT, List.getElem?_eq_getElem hi]
    show Tree.wholes (List.map _ _) = true
    have key : ∀ ks : List Int, (∀ x ∈ ks, 0 ≤ x ∧ x < (i : Int)) → Tree.wholes (ks.map fun x => growT l f x.toNat) = true := by
      intro ks
      induction ks with
      | nil => intro _; rfl
      | cons x ks ih =>
        intro hk
        have hx := hk x List.mem_cons_self
        rw [List.map_cons, Tree.wholes, growT_whole l hb f x.toNat (by omega) (by omega), ih (fun y hy => hk y (List.mem_cons_of_mem _ hy))]
        rfl
    exact key _ (hb i hi)
theorem sizes_sum : ∀ ts : List Tree, Tree.sizes ts = (ts.map Tree.size).sum
  | [] => rfl
  | t :: ts => by rw [Tree.sizes, sizes_sum ts]; simp
theorem growT_size (l : List CellD) (hb : below l) (i : Nat) (hi : i < l.length) : (growT l l.length i).size = 1 + (l[i].kids.map fun x => (growT l l.length x.toNat).size).sum := by
  obtain ⟨f, hf⟩ : ∃ f, l.length = f + 1 := ⟨l.length - 1, by omega⟩
  conv => lhs; rw [hf]
  rw [growT, List.getElem?_eq_getElem hi]
  show 1 + Tree.sizes (List.map _ _) = _
  rw [sizes_sum, List.map_map]
  congr 2
  refine List.map_congr_left fun x hx => ?_
  have := hb i hi x hx
  show (growT l f x.toNat).size = _
  rw [growT_fuel l hb f l.length x.toNat (by omega) (by omega) (by omega)]
theorem sum_all (l : List CellD) (hb : below l) : ∀ n, n ≤ l.length → ((List.range n).map fun i => (growT l l.length i).size).sum = n + ((allK (l.take n)).map fun x => (growT l l.length x.toNat).size).sum
  | 0, _ => by simp [allK]
  | n + 1, h => by
    rw [List.range_succ, List.map_append, List.sum_append, sum_all l hb n (by omega), allK_succ l n (by omega), List.map_append, List.sum_append, List.map_singleton, List.sum_singleton, growT_size l hb n (by omega)]
    omega
theorem allK_mem (l : List CellD) (x : Int) (h : x ∈ allK l) : ∃ i, ∃ hi : i < l.length, x ∈ l[i].kids := by
  induction l with
  | nil => cases h
  | cons c l ih =>
    rw [allK, List.mem_append] at h
    rcases h with h | h
    · exact ⟨0, by simp, h⟩
    · obtain ⟨i, hi, hx⟩ := ih h
      exact ⟨i + 1, by simpa using hi, by simpa using hx⟩
theorem allK_perm (l : List CellD) (hb : below l) (ho : once l) : List.Perm (allK l) ((List.range (l.length - 1)).map fun (j : Nat) => (j : Int)) := by
  rw [List.perm_iff_count]
  intro a
  by_cases h : 0 ≤ a ∧ a < ((l.length - 1 : Nat) : Int)
  · obtain ⟨j, rfl⟩ : ∃ j : Nat, a = (j : Int) := ⟨a.toNat, by omega⟩
    rw [ho j (by omega)]
    have hn : ((List.range (l.length - 1)).map fun (j : Nat) => (j : Int)).Nodup := by
      rw [List.nodup_iff_pairwise_ne, List.pairwise_map]
      exact List.nodup_range.imp (fun h1 h2 => h1 (by omega))
    rw [hn.count, if_pos]
    exact List.mem_map.2 ⟨j, List.mem_range.2 (by omega), rfl⟩
  · rw [List.count_eq_zero.2, List.count_eq_zero.2]
    · intro hm
      obtain ⟨j, hj, rfl⟩ := List.mem_map.1 hm
      rw [List.mem_range] at hj
      exact h ⟨by omega, by omega⟩
    · intro hm
      obtain ⟨i, hi, hx⟩ := allK_mem l a hm
      have := hb i hi a hx
      exact h ⟨this.1, by omega⟩
theorem grow_size (l : List CellD) (hb : below l) (ho : once l) (h0 : 0 < l.length) : (growT l l.length (l.length - 1)).size = l.length := by
  have h1 := sum_all l hb l.length (Nat.le_refl _)
  rw [List.take_length] at h1
  have h2 := ((allK_perm l hb ho).map (fun x => (growT l l.length x.toNat).size)).sum_nat
  rw [h2, List.map_map] at h1
  obtain ⟨n, hn⟩ : ∃ n, l.length = n + 1 := ⟨l.length - 1, by omega⟩
  have e : l.length - 1 = n := by omega
  rw [e] at h1 ⊢
  have h3 : (List.range l.length) = List.range n ++ [n] := by rw [hn, List.range_succ]
  rw [h3, List.map_append, List.sum_append, List.map_singleton, List.sum_singleton] at h1
  have h4 : ((fun x : Int => (growT l l.length x.toNat).size) ∘ fun (j : Nat) => (j : Int)) = fun i => (growT l l.length i).size := rfl
  rw [h4] at h1
  omega
theorem growT_wt (l : List CellD) (A B : Nat) (hb : below l) (hc : ∀ c ∈ l, c.a.size ≤ A ∧ c.b.size ≤ B) : ∀ (f i : Nat), i < f → i < l.length → (growT l f i).wt ≤ (1 + A + B) * (growT l f i).size
  | 0, _, h, _ => by omega
  | f + 1, i, h, hi => by
    rw [growT, List.getElem?_eq_getElem hi]
    dsimp only
    have h1 := hc l[i] (List.getElem_mem hi)
    have key : ∀ ks : List Int, (∀ x ∈ ks, 0 ≤ x ∧ x < (i : Int)) → Tree.wts (ks.map fun x => growT l f x.toNat) ≤ (1 + A + B) * Tree.sizes (ks.map fun x => growT l f x.toNat) := by
      intro ks
      induction ks with
      | nil => intro _; exact Nat.zero_le _
      | cons x ks ih =>
        intro hk
        have hx := hk x List.mem_cons_self
        have h2 := growT_wt l A B hb hc f x.toNat (by omega) (by omega)
        have h3 := ih (fun y hy => hk y (List.mem_cons_of_mem _ hy))
        rw [List.map_cons, Tree.wts, Tree.sizes, Nat.mul_add]
        omega
    have h4 := key _ (hb i hi)
    rw [Tree.wt, Tree.size, Nat.mul_add]
    omega
theorem openR_fine (L : List CellD) (A B : Nat) (hc : ∀ c ∈ L, c.a.size ≤ A ∧ c.b.size ≤ B) : (openR L).1 = .nil ∨ ((openR L).1.whole = true ∧ (openR L).1.size ≤ L.length ∧ (openR L).1.wt ≤ (1 + A + B) * L.length) := by
  unfold openR
  split
  · exact .inl rfl
  · split
    · exact .inl rfl
    · split
      · rename_i h0 h1 h
        obtain ⟨hb, ho⟩ := h
        have hs := grow_size L hb ho (by omega)
        have hw := growT_wt L A B hb hc L.length (L.length - 1) (by omega) (by omega)
        rw [hs] at hw
        exact .inr ⟨growT_whole L hb _ _ (by omega) (by omega), by rw [hs]; exact Nat.le_refl _, hw⟩
      · exact .inl rfl
theorem few_fine (K : Nat) (l : List CellD) : ∀ c ∈ (l.take K).map fewCell, c.a.size ≤ 165 ∧ c.b.size ≤ 20 := fun c hc => by
  obtain ⟨d, _, rfl⟩ := List.mem_map.1 hc
  exact ⟨cutB_size _ _, cutB_size _ _⟩
theorem few10_tree (l : List CellD) (hff : ∀ c ∈ l, c.f = false) : ∃ t : Tree, (t = .nil ∨ (t.whole = true ∧ t.size ≤ 60 ∧ t.wt ≤ 11160)) ∧ ACalls Tryd.prog 5 [.imm (.agg [.sl false l.length (cellIVs l)])] [] (.imm t.iv) [] := by
  refine ⟨_, ?_, treeFew10_a l hff⟩
  rcases openR_fine (fewCells10 l) 165 20 (few_fine 60 l) with h | ⟨h1, h2, h3⟩
  · exact .inl h
  · have hl : (fewCells10 l).length ≤ 60 := by unfold fewCells10; rw [List.length_map, List.length_take]; omega
    exact .inr ⟨h1, by omega, by omega⟩
abbrev tyCell : Ty := .struct [.int .i64, .int .i64, .string, .string, .slice (.int .i64)]
abbrev tyTree : Ty := .struct [.slice tyCell]
theorem fits_ints : ∀ (xs : List (List IV)), (∀ x ∈ xs, Fits (.int .i64) x) → ∃ l : List Int, l.length = xs.length ∧ xs.flatten = intIVs l
  | [], h => ⟨[], rfl, rfl⟩
  | x :: xs, h => by
    obtain ⟨l, h1, h2⟩ := fits_ints xs (fun y hy => h y (List.mem_cons_of_mem _ hy))
    cases h x List.mem_cons_self with
    | int k n hn => exact ⟨n :: l, by simp [h1], by rw [List.flatten_cons, h2]; rfl⟩
theorem fits_cell {x : List IV} (h : Fits tyCell x) : ∃ c : CellD, c.f = false ∧ x = cellIV c := by
  cases h with
  | struct fs xs h =>
    cases h with
    | cons t ts x xs h1 h =>
      cases h1 with
      | int k n hn =>
        cases h with
        | cons t ts x xs h2 h =>
          cases h2 with
          | int k n2 hn2 =>
            cases h with
            | cons t ts x xs h3 h =>
              cases h3 with
              | string a ha =>
                cases h with
                | cons t ts x xs h4 h =>
                  cases h4 with
                  | string b hb =>
                    cases h with
                    | cons t ts x xs h5 h =>
                      cases h
                      cases h5 with
                      | slice e ys hy hys =>
                        obtain ⟨l, hl1, hl2⟩ := fits_ints ys hys
                        refine ⟨⟨false, n, n2, a, b, l⟩, rfl, ?_⟩
                        rw [hl2, ← hl1]
                        rfl
theorem fits_cells : ∀ (xs : List (List IV)), (∀ x ∈ xs, Fits tyCell x) → ∃ l : List CellD, l.length = xs.length ∧ xs.flatten = cellIVs l ∧ ∀ c ∈ l, c.f = false
  | [], h => ⟨[], rfl, rfl, fun c hc => by cases hc⟩
  | x :: xs, h => by
    obtain ⟨l, h1, h2, h3⟩ := fits_cells xs (fun y hy => h y (List.mem_cons_of_mem _ hy))
    obtain ⟨c, hc, rfl⟩ := fits_cell (h x List.mem_cons_self)
    refine ⟨c :: l, by simp [h1], by rw [List.flatten_cons, h2]; rfl, fun d hd => ?_⟩
    rcases List.mem_cons.1 hd with rfl | hd
    · exact hc
    · exact h3 d hd
theorem fits_tree {x : IV} (h : FitsV tyTree x) : ∃ l : List CellD, x = .agg [.sl false l.length (cellIVs l)] ∧ ∀ c ∈ l, c.f = false := by
  obtain ⟨xs, rfl, h⟩ := h
  cases h with
  | struct fs xs h =>
    cases h with
    | cons t ts x xs h1 h =>
      cases h
      cases h1 with
      | slice e ys hy hys =>
        obtain ⟨l, h1, h2, h3⟩ := fits_cells ys hys
        exact ⟨l, by rw [h2, ← h1]; rfl, h3⟩
end Go.Proofs.YtdajnmffoopcaaaDoor.Ab
namespace Go.Proofs.YtdajnmffoopcaaaDoor.Ab
set_option linter.unusedVariables false
set_option linter.unusedSimpArgs false
theorem few10_s (l : List CellD) (hff : ∀ c ∈ l, c.f = false) : ∃ t : Tree, t.size ≤ 60 ∧ t.wt ≤ 11160 ∧ (t = .nil ∨ t.whole = true) ∧ ACalls Tryd.prog 5 [.imm (.agg [.sl false l.length (cellIVs l)])] [] (.imm t.iv) [] := by
  obtain ⟨t, h, c⟩ := few10_tree l hff
  rcases h with rfl | ⟨h1, h2, h3⟩
  · exact ⟨_, by simp [Tree.size], by simp [Tree.wt], .inl rfl, c⟩
  · exact ⟨t, h2, h3, .inr h1, c⟩
end Go.Proofs.YtdajnmffoopcaaaDoor.Ab
namespace Go.Proofs.YtdajnmffoopcaaaDoor.Ab
set_option linter.unusedVariables false
set_option linter.unusedSimpArgs false
open Go.RowKit
attribute [local irreducible] AWP AOps AExit AThen ABlock ANoGoto FeetOk
theorem samePs_len : ∀ (l l' : List Tree), l.length ≠ l'.length → samePs l l' = false := fun l l' h => by rw [samePs_zip]; exact zipP_len _ _ _ h
set_option maxHeartbeats 8000000 in
set_option maxRecDepth 10000 in
theorem rSame_a (t : Tree) : ∀ u : Tree, (t = .nil ∨ t.whole = true) → (u = .nil ∨ u.whole = true) → t.size ≤ 1000000 → u.size ≤ 1000000 → ACalls Tryd.prog 21 [.imm t.iv, .imm u.iv] [] (.imm (.lit (.bool (sameP t u)))) [] := by
  induction t using Tree.ind with
  | h1 =>
    intro u _ _ _ _
    cases u with
    | nil =>
      rw [show sameP .nil .nil = true by simp [sameP]]
      refine acalls_plain Tryd.func21 rfl rfl (Nat.le_of_ble_eq_true rfl) rfl ?_
      repeat' (first | refine aops_nil ?_ | (refine aops_one ?_;  first | refine aops_quiet tabOk rfl rfl rfl (Nat.le_of_ble_eq_true rfl) rfl ?_ | refine aops_skip rfl rfl (Nat.le_of_ble_eq_true rfl) ?_ | refine aops_pure tabOk rfl rfl (Nat.le_of_ble_eq_true rfl) rfl ?_) | (refine awp_one ?_;  first | refine awp_sreg ?_ | refine awp_seq ?_ | refine awp_ret ?_ | refine awp_cond (b := true) rfl (fun _ => ?_) (fun h => Bool.noConfusion h)) | (refine then_one ?_;  first | refine q_then_ret ?_))
      all_goals first
        | exact absurd rfl (by assumption)
        | exact aexit_plain (by first | exact .inl rfl | exact .inr rfl) (results_1 rfl (resOk_tmp rfl)) rfl
    | node k n a b ks =>
      rw [show sameP .nil (.node k n a b ks) = false by simp [sameP]]
      refine acalls_plain Tryd.func21 rfl rfl (Nat.le_of_ble_eq_true rfl) rfl ?_
      repeat' (first | refine aops_nil ?_ | (refine aops_one ?_;  first | refine aops_quiet tabOk rfl rfl rfl (Nat.le_of_ble_eq_true rfl) rfl ?_ | refine aops_skip rfl rfl (Nat.le_of_ble_eq_true rfl) ?_ | refine aops_pure tabOk rfl rfl (Nat.le_of_ble_eq_true rfl) rfl ?_) | (refine awp_one ?_;  first | refine awp_sreg ?_ | refine awp_seq ?_ | refine awp_ret ?_ | refine awp_cond (b := true) rfl (fun _ => ?_) (fun h => Bool.noConfusion h)) | (refine then_one ?_;  first | refine q_then_ret ?_))
      all_goals first
        | exact absurd rfl (by assumption)
        | exact aexit_plain (by first | exact .inl rfl | exact .inr rfl) (results_1 rfl (resOk_tmp rfl)) rfl
  | h2 k n a b ks ih =>
    intro u hw hw2 hs hs2
    cases u with
    | nil =>
      rw [show sameP (.node k n a b ks) .nil = false by simp [sameP]]
      refine acalls_plain Tryd.func21 rfl rfl (Nat.le_of_ble_eq_true rfl) rfl ?_
      repeat' (first | refine aops_nil ?_ | (refine aops_one ?_;  first | refine aops_quiet tabOk rfl rfl rfl (Nat.le_of_ble_eq_true rfl) rfl ?_ | refine aops_skip rfl rfl (Nat.le_of_ble_eq_true rfl) ?_ | refine aops_pure tabOk rfl rfl (Nat.le_of_ble_eq_true rfl) rfl ?_) | (refine awp_one ?_;  first | refine awp_sreg ?_ | refine awp_seq ?_ | refine awp_ret ?_ | refine awp_cond (b := true) rfl (fun _ => ?_) (fun h => Bool.noConfusion h)) | (refine then_one ?_;  first | refine q_then_ret ?_))
      all_goals first
        | exact absurd rfl (by assumption)
        | exact aexit_plain (by first | exact .inl rfl | exact .inr rfl) (results_1 rfl (resOk_tmp rfl)) rfl
    | node k' n' a' b' ks' =>
      have hw : (Tree.node k n a b ks).whole = true := by
        rcases hw with h | h
        · cases h
        · exact h
      have hw2 : (Tree.node k' n' a' b' ks').whole = true := by
        rcases hw2 with h | h
        · cases h
        · exact h
      have hl := length_sizes ks hw
      have hl2 := length_sizes ks' hw2
      simp only [Tree.size] at hs hs2
      have hf : ∀ i (hi : i < ks.length) (hk : i < ks'.length), ACalls Tryd.prog 21 [.imm ks[i].iv, .imm ks'[i].iv] [] (.imm (.lit (.bool (sameP ks[i] ks'[i])))) [] := fun i hi hk => by
        have h1 := List.getElem_mem hi
        have h2 := List.getElem_mem hk
        have h3 := sizes_mem h1
        have h4 := sizes_mem h2
        exact ih _ h1 _ (.inr (wholes_mem hw h1)) (.inr (wholes_mem hw2 h2)) (by omega) (by omega)
      clear ih
      obtain ⟨q, hQ0⟩ : ∃ q, sameP (.node k n a b ks) (.node k' n' a' b' ks') = q := ⟨_, rfl⟩
      rw [hQ0]
      rw [sameP] at hQ0
      have hlen := samePs_len ks ks'
      by_cases hd : (k = k' ∧ n = n' ∧ a = a' ∧ b = b') ∧ ks.length = ks'.length
      · obtain ⟨⟨rfl, rfl, rfl, rfl⟩, hl3⟩ := hd
        rw [show ((((k == k && n == n) && eqB a a) && eqB b b) && samePs ks ks') = samePs ks ks' by rw [(eqB_iff a a).2 rfl, (eqB_iff b b).2 rfl]; simp] at hQ0
        have hz := zipP_idx sameP ks ks' hl3
        rw [← samePs_zip, hQ0] at hz
        refine acalls_plain Tryd.func21 rfl rfl (Nat.le_of_ble_eq_true rfl) rfl ?_
        repeat' (first | refine aops_nil ?_ | (refine aops_one ?_;  first | refine aops_quiet tabOk rfl rfl rfl (Nat.le_of_ble_eq_true rfl) rfl ?_ | refine aops_skip rfl rfl (Nat.le_of_ble_eq_true rfl) ?_ | (refine aops_cmp rfl rfl rfl (Nat.le_of_ble_eq_true rfl) rfl rfl rfl (fun hq => ?_) (fun hq => ?_) <;> (first | (simp only [decide_eq_true_eq, decide_eq_false_iff_not, beq_iff_eq, beq_eq_false_iff_ne, bne_iff_ne, bne_eq_false_iff_eq, Bool.not_eq_true', Bool.not_eq_false'] at hq; first | (exfalso; omega) | skip) | skip)) | refine aops_pure tabOk rfl rfl (Nat.le_of_ble_eq_true rfl) rfl ?_) | (refine awp_one ?_;  first | refine awp_sreg ?_ | refine awp_seq ?_ | refine awp_block ?_ | refine awp_ret ?_ | refine awp_skip ?_ | refine awp_cond (b := true) rfl (fun _ => ?_) (fun h => Bool.noConfusion h) | refine awp_cond (b := false) rfl (fun h => Bool.noConfusion h) (fun _ => ?_) | refine awp_region_draw mixed (by kernel_rfl) ?_) | (refine then_one ?_;  first | refine q_then ?_ | refine q_then_ret ?_) | refine feet_one (feetOk_of (by kernel_rfl)) ?_)
        all_goals first
          | exact absurd rfl (by assumption)
          | (exfalso; omega)
          | skip
        refine awp_loop (ι := {j : Nat // j ≤ ks.length ∧ ∀ i (hi : i < ks.length) (hk : i < ks'.length), i < j → sameP ks[i] ks'[i] = true}) (fun j => S.f ⟨[(5, .imm (.lit (.int .i64 (j.1 : Int)))), (0, .imm (Tree.iv (.node k n a b ks))), (1, .imm (Tree.iv (.node k n a b ks')))], []⟩) (fun j => ks.length - j.1) ⟨0, Nat.zero_le _, fun i _ _ hi => absurd hi (Nat.not_lt_zero _)⟩ (le_of (by repeat' first | exact trivial | refine ⟨rfl, ?_⟩) (by repeat' first | exact trivial | refine ⟨rfl, ?_⟩)) ?_
        rintro ⟨j, hj, hok⟩
        dsimp only
        by_cases hlt : j < ks.length
        · have hltk : j < ks'.length := by omega
          have hg1 := ivs_get ks j hlt
          have hg2 := ivs_get ks' j hltk
          have hc := hf j hlt hltk
          cases hS : sameP ks[j] ks'[j] with
          | true =>
            rw [hS] at hc
            have hok2 : ∀ i (hi : i < ks.length) (hk : i < ks'.length), i < j + 1 → sameP ks[i] ks'[i] = true := fun i hi hk hij => by
              by_cases e : i = j
              · subst e; exact hS
              · exact hok i hi hk (by omega)
            clear hz hf hlen
            repeat' (first | refine aops_nil ?_ | (refine aops_one ?_;  first | refine aops_quiet tabOk rfl rfl rfl (Nat.le_of_ble_eq_true rfl) rfl ?_ | (refine aops_cmp rfl rfl rfl (Nat.le_of_ble_eq_true rfl) rfl rfl rfl (fun hq => ?_) (fun hq => ?_) <;> (first | (simp only [decide_eq_true_eq, decide_eq_false_iff_not, beq_iff_eq, beq_eq_false_iff_ne, bne_iff_ne, bne_eq_false_iff_eq, Bool.not_eq_true', Bool.not_eq_false'] at hq; first | (exfalso; omega) | skip) | skip)) | refine aops_load1 tabOk rfl rfl rfl (Nat.le_of_ble_eq_true rfl) rfl rfl rfl hg1 ?_ | refine aops_load1 tabOk rfl rfl rfl (Nat.le_of_ble_eq_true rfl) rfl rfl rfl hg2 ?_ | refine aops_call rfl rfl (Nat.le_of_ble_eq_true rfl) rfl rfl rfl rfl (hc) ?_ | refine aops_inc rfl rfl rfl (Nat.le_of_ble_eq_true rfl) rfl rfl (by omega) ?_ | refine aops_pure tabOk rfl rfl (Nat.le_of_ble_eq_true rfl) rfl ?_ | refine aops_index tabOk rfl rfl rfl (Nat.le_of_ble_eq_true rfl) rfl rfl rfl rfl (by first | assumption | omega) ?_) | (refine awp_one ?_;  first | refine awp_sreg ?_ | refine awp_seq ?_ | refine awp_region ?_ | refine awp_block ?_ | refine awp_skip ?_ | refine awp_cond (b := true) rfl (fun _ => ?_) (fun h => Bool.noConfusion h) | refine awp_cond (b := false) rfl (fun h => Bool.noConfusion h) (fun _ => ?_) | refine awp_region_draw mixed (by kernel_rfl) ?_) | (refine then_one ?_;  first | refine q_then ?_) | (refine block_one ?_;  first | refine q_block ?_) | refine feet_one (feetOk_of (by kernel_rfl)) ?_)
            all_goals first
              | exact absurd rfl (by assumption)
              | (exfalso; omega)
              | exact ⟨⟨j + 1, hlt, hok2⟩, (by show ks.length - (j + 1) < ks.length - j; omega), (le_of (by repeat' first | exact trivial | refine ⟨rfl, ?_⟩) (by repeat' first | exact trivial | refine ⟨rfl, ?_⟩))⟩
          | false =>
            rw [hS] at hc
            have e1 : q = false := by
              rw [Bool.eq_false_iff]
              intro hc2
              have := hz.1 hc2 j hlt hltk
              rw [hS] at this; cases this
            subst e1
            clear hz hf hlen
            repeat' (first | refine aops_nil ?_ | (refine aops_one ?_;  first | refine aops_quiet tabOk rfl rfl rfl (Nat.le_of_ble_eq_true rfl) rfl ?_ | (refine aops_cmp rfl rfl rfl (Nat.le_of_ble_eq_true rfl) rfl rfl rfl (fun hq => ?_) (fun hq => ?_) <;> (first | (simp only [decide_eq_true_eq, decide_eq_false_iff_not, beq_iff_eq, beq_eq_false_iff_ne, bne_iff_ne, bne_eq_false_iff_eq, Bool.not_eq_true', Bool.not_eq_false'] at hq; first | (exfalso; omega) | skip) | skip)) | refine aops_load1 tabOk rfl rfl rfl (Nat.le_of_ble_eq_true rfl) rfl rfl rfl hg1 ?_ | refine aops_load1 tabOk rfl rfl rfl (Nat.le_of_ble_eq_true rfl) rfl rfl rfl hg2 ?_ | refine aops_call rfl rfl (Nat.le_of_ble_eq_true rfl) rfl rfl rfl rfl (hc) ?_ | refine aops_pure tabOk rfl rfl (Nat.le_of_ble_eq_true rfl) rfl ?_ | refine aops_index tabOk rfl rfl rfl (Nat.le_of_ble_eq_true rfl) rfl rfl rfl rfl (by first | assumption | omega) ?_) | (refine awp_one ?_;  first | refine awp_sreg ?_ | refine awp_seq ?_ | refine awp_block ?_ | refine awp_ret ?_ | refine awp_skip ?_ | refine awp_cond (b := true) rfl (fun _ => ?_) (fun h => Bool.noConfusion h) | refine awp_region_draw mixed (by kernel_rfl) ?_) | (refine then_one ?_;  first | refine q_then ?_ | refine q_then_ret ?_) | (refine block_one ?_;  first | refine q_block_ret ?_) | refine feet_one (feetOk_of (by kernel_rfl)) ?_)
            all_goals first
              | exact absurd rfl (by assumption)
              | (exfalso; omega)
              | (refine aexit_eq (by first | exact .inl rfl | exact .inr rfl) (results_1 rfl (resOk_tmp rfl)) rfl ?_; rfl)
        · have e1 : q = true := hz.2 fun i hi hk => hok i hi hk (by omega)
          subst e1
          clear hz hf hlen
          repeat' (first | refine aops_nil ?_ | (refine aops_one ?_;  first | refine aops_quiet tabOk rfl rfl rfl (Nat.le_of_ble_eq_true rfl) rfl ?_ | (refine aops_cmp rfl rfl rfl (Nat.le_of_ble_eq_true rfl) rfl rfl rfl (fun hq => ?_) (fun hq => ?_) <;> (first | (simp only [decide_eq_true_eq, decide_eq_false_iff_not, beq_iff_eq, beq_eq_false_iff_ne, bne_iff_ne, bne_eq_false_iff_eq, Bool.not_eq_true', Bool.not_eq_false'] at hq; first | (exfalso; omega) | skip) | skip)) | refine aops_pure tabOk rfl rfl (Nat.le_of_ble_eq_true rfl) rfl ?_) | (refine awp_one ?_;  first | refine awp_sreg ?_ | refine awp_seq ?_ | refine awp_ret ?_ | refine awp_exit ?_ | refine awp_cond (b := false) rfl (fun h => Bool.noConfusion h) (fun _ => ?_)) | (refine then_one ?_;  first | refine q_then ?_ | refine q_then_exit ?_) | (refine block_one ?_;  first | refine q_block_exit ?_))
          all_goals first
            | (exfalso; omega)
            | (refine aexit_eq (by first | exact .inl rfl | exact .inr rfl) (results_1 rfl (resOk_tmp rfl)) rfl ?_; rfl)
      · have e1 : q = false := by
          rw [← hQ0]
          by_cases hl3 : ks.length = ks'.length
          · have hd : ¬ (k = k' ∧ n = n' ∧ a = a' ∧ b = b') := fun h => hd ⟨h, hl3⟩
            rw [Bool.eq_false_iff]
            intro h
            simp only [Bool.and_eq_true, beq_iff_eq, eqB_iff] at h
            exact hd ⟨h.1.1.1.1, h.1.1.1.2, h.1.1.2, h.1.2⟩
          · rw [hlen hl3, Bool.and_false]
        subst e1
        have hd : k = k' → n = n' → a.toList = a'.toList → b.toList = b'.toList → ks.length = ks'.length → False := fun h1 h2 h3 h4 h5 => hd ⟨⟨h1, h2, (eqB_iff a a').1 (by unfold eqB; rw [h3]; simp), (eqB_iff b b').1 (by unfold eqB; rw [h4]; simp)⟩, h5⟩
        clear hQ0 hf hlen
        refine acalls_plain Tryd.func21 rfl rfl (Nat.le_of_ble_eq_true rfl) rfl ?_
        repeat' (first | refine aops_nil ?_ | (refine aops_one ?_;  first | refine aops_quiet tabOk rfl rfl rfl (Nat.le_of_ble_eq_true rfl) rfl ?_ | refine aops_skip rfl rfl (Nat.le_of_ble_eq_true rfl) ?_ | (refine aops_cmp rfl rfl rfl (Nat.le_of_ble_eq_true rfl) rfl rfl rfl (fun hq => ?_) (fun hq => ?_) <;> (first | (simp only [decide_eq_true_eq, decide_eq_false_iff_not, beq_iff_eq, beq_eq_false_iff_ne, bne_iff_ne, bne_eq_false_iff_eq, Bool.not_eq_true', Bool.not_eq_false'] at hq; first | (exfalso; omega) | skip) | skip)) | refine aops_pure tabOk rfl rfl (Nat.le_of_ble_eq_true rfl) rfl ?_) | (refine awp_one ?_;  first | refine awp_sreg ?_ | refine awp_seq ?_ | refine awp_block ?_ | refine awp_ret ?_ | refine awp_skip ?_ | refine awp_cond (b := true) rfl (fun _ => ?_) (fun h => Bool.noConfusion h) | refine awp_cond (b := false) rfl (fun h => Bool.noConfusion h) (fun _ => ?_) | refine awp_region_draw mixed (by kernel_rfl) ?_) | (refine then_one ?_;  first | refine q_then ?_ | refine q_then_ret ?_) | refine feet_one (feetOk_of (by kernel_rfl)) ?_)
        all_goals first
          | exact absurd rfl (by assumption)
          | (exfalso; omega)
          | (exact (hd (by assumption) (by assumption) (by assumption) (by assumption) (by omega)).elim)
          | (refine aexit_eq (by first | exact .inl rfl | exact .inr rfl) (results_1 rfl (resOk_tmp rfl)) rfl ?_; rfl)
instance : DecidableEq Tree := fun a b => decidable_of_iff (sameP a b = true) (sameP_iff a b)
end Go.Proofs.YtdajnmffoopcaaaDoor.Ab
namespace Go.Proofs.YtdajnmffoopcaaaDoor.Ab
set_option linter.unusedVariables false
set_option linter.unusedSimpArgs false
open Go.RowKit
attribute [local irreducible] AWP AOps AExit AThen ABlock ANoGoto FeetOk
end Go.Proofs.YtdajnmffoopcaaaDoor.Ab
namespace Go.Proofs.YtdajnmffoopcaaaDoor.Ab
set_option linter.unusedVariables false
set_option linter.unusedSimpArgs false
open Go.RowKit
attribute [local irreducible] AWP AOps AExit AThen ABlock ANoGoto FeetOk
end Go.Proofs.YtdajnmffoopcaaaDoor.Ab
namespace Go.Proofs.YtdajnmffoopcaaaDoor.Ab
set_option linter.unusedVariables false
set_option linter.unusedSimpArgs false
open Go.RowKit
attribute [local irreducible] AWP AOps AExit AThen ABlock ANoGoto FeetOk
end Go.Proofs.YtdajnmffoopcaaaDoor.Ab
namespace Go.Proofs.YtdajnmffoopcaaaDoor.Ab
set_option linter.unusedVariables false
set_option linter.unusedSimpArgs false
open Go.RowKit
attribute [local irreducible] AWP AOps AExit AThen ABlock ANoGoto FeetOk
theorem wholeP_ok (t : Tree) : t.whole = true → ∀ l : Int, (t.size : Int) ≤ l → wholeP t l = (0, l - t.size) := by
  induction t using Tree.ind with
  | h1 => intro h; simp [Tree.whole] at h
  | h2 k n a b kids ih =>
    intro h l hl
    have hz : (Tree.node k n a b kids).size = 1 + Tree.sizes kids := rfl
    rw [wholeP, if_neg (by omega)]
    have key : ∀ (ts : List Tree), (∀ t ∈ ts, t ∈ kids) → ∀ l : Int, (Tree.sizes ts : Int) ≤ l → wholePs ts l = (0, l - Tree.sizes ts) := by
      intro ts
      induction ts with
      | nil => intro _ l _; simp [wholePs, Tree.sizes]
      | cons x ts ihs =>
        intro hm l hl
        rw [Tree.sizes] at hl
        have hx := ih x (hm x List.mem_cons_self) (wholes_mem h (hm x List.mem_cons_self)) l (by omega)
        rw [wholePs, hx, if_pos rfl, ihs (fun t ht => hm t (List.mem_cons_of_mem _ ht)) _ (by omega), Tree.sizes]
        congr 1
        omega
    rw [key kids (fun t ht => ht) _ (by omega), hz]
    congr 1
    omega
theorem checkP_ok (form : Tree → Bool) (t : Tree) (h : t.whole = true) (hs : t.size ≤ 65536) : checkP form t = if form t = true then 0 else 16 := by
  unfold checkP
  rw [wholeP_ok t h 65536 (by omega), if_pos rfl]
end Go.Proofs.YtdajnmffoopcaaaDoor.Ab
namespace Go.Proofs.YtdajnmffoopcaaaDoor.Ab
set_option linter.unusedVariables false
set_option linter.unusedSimpArgs false
open Go.RowKit
attribute [local irreducible] AWP AOps AExit AThen ABlock ANoGoto FeetOk
end Go.Proofs.YtdajnmffoopcaaaDoor.Ab
namespace Go.Proofs.YtdajnmffoopcaaaDoor.Ab
set_option linter.unusedVariables false
set_option linter.unusedSimpArgs false
open Go.RowKit
attribute [local irreducible] AWP AOps AExit AThen ABlock ANoGoto FeetOk
end Go.Proofs.YtdajnmffoopcaaaDoor.Ab
namespace Go.Proofs.YtdajnmffoopcaaaDoor.Ab
set_option linter.unusedVariables false
set_option linter.unusedSimpArgs false
open Go.RowKit
attribute [local irreducible] AWP AOps AExit AThen ABlock ANoGoto FeetOk
end Go.Proofs.YtdajnmffoopcaaaDoor.Ab
namespace Go.Proofs.YtdajnmffoopcaaaDoor.Ab
set_option linter.unusedVariables false
set_option linter.unusedSimpArgs false
open Go.RowKit
attribute [local irreducible] AWP AOps AExit AThen ABlock ANoGoto FeetOk
section
variable {σ : Type} (V : Int → Int → σ → Tree × σ) (B : σ → Prop)
theorem walkS_any {k : Int} (n d : Int) (s : σ) {a b : ByteArray} (kids : List Tree) (hk : ¬ k = 110) : walkS V (.node k n a b kids) d s = (.node k n a b (walkSs V kids (d + bindsP k) s).1, (walkSs V kids (d + bindsP k) s).2) := by
  by_cases h : kids.length = 0
  · have e0 : kids = [] := List.eq_nil_of_length_eq_zero h
    subst e0
    rw [walkS_leaf _ _ _ _ hk, walkSs_nil]
  · rw [walkS_node _ _ _ _ hk h]
/-- What is refused once stays refused. -/
theorem walkS_bad (hV : ∀ n d s, B s → B (V n d s).2) (t : Tree) : ∀ d s, B s → B (walkS V t d s).2 := by
  induction t using Tree.ind with
  | h1 => intro d s h; rw [walkS]; exact h
  | h2 k n a b kids ih =>
    intro d s h
    by_cases k0 : k = 110
    · subst k0; rw [walkS_var]; exact hV _ _ _ h
    · rw [walkS_any V _ _ _ _ k0]
      have key : ∀ (l : List Tree) (s : σ), (∀ t ∈ l, t ∈ kids) → B s → B (walkSs V l (d + bindsP k) s).2 := by
        intro l
        induction l with
        | nil => intro s _ h; rw [walkSs_nil]; exact h
        | cons t ts ih2 =>
          intro s hm h
          rw [walkSs]
          exact ih2 _ (fun t' h' => hm t' (by simp [h'])) (ih t (hm t (by simp)) _ _ h)
      exact key kids s (fun _ h => h) h
theorem walkSs_bad (hV : ∀ n d s, B s → B (V n d s).2) (d : Int) : ∀ (l : List Tree) (s : σ), B s → B (walkSs V l d s).2
  | [], s, h => by rw [walkSs_nil]; exact h
  | t :: ts, s, h => by rw [walkSs]; exact walkSs_bad hV d ts _ (walkS_bad V B hV t d s h)
end
/-- What is told of what was made anew: it, or nil. -/
def told (R : Tree × Bool) : Tree := if R.2 = true then R.1 else .nil
end Go.Proofs.YtdajnmffoopcaaaDoor.Ab
namespace Go.Proofs.YtdajnmffoopcaaaDoor.Ab
set_option linter.unusedVariables false
set_option linter.unusedSimpArgs false
open Go.RowKit
attribute [local irreducible] AWP AOps AExit AThen ABlock ANoGoto FeetOk
end Go.Proofs.YtdajnmffoopcaaaDoor.Ab
namespace Go.Proofs.YtdajnmffoopcaaaDoor.Ab
set_option linter.unusedVariables false
set_option linter.unusedSimpArgs false
open Go.RowKit
attribute [local irreducible] AWP AOps AExit AThen ABlock ANoGoto FeetOk
/-- What Put makes of a variable. -/
def putV (i : Int) (by_ : Tree) (n d : Int) (ok : Bool) : Tree × Bool :=
  if n < d ∨ n - d < i then (varT n, ok)
  else if n - d > i then (varT (n - 1), ok)
  else if ok = true ∧ (walkS (shiftV d 0) by_ 0 true).2 = true then ((walkS (shiftV d 0) by_ 0 true).1, true) else (varT n, false)
theorem putV_bad (i : Int) (by_ : Tree) (n d : Int) (s : Bool) (h : s = false) : (putV i by_ n d s).2 = false := by
  subst h
  unfold putV
  split
  · rfl
  · split
    · rfl
    · rw [if_neg (by simp)]
mutual
/-- How often a variable stands in a tree, within so many binders. -/
def cntP (i : Int) : Tree → Int → Nat
  | .nil, _ => 0
  | .node k n _ _ kids, d => (if k = 110 ∧ d ≤ n ∧ n - d = i then 1 else 0) + cntPs i kids (d + bindsP k)
def cntPs (i : Int) : List Tree → Int → Nat
  | [], _ => 0
  | t :: ts, d => cntP i t d + cntPs i ts d
end
theorem cntP_le (i : Int) (t : Tree) : ∀ d, cntP i t d ≤ t.size := by
  induction t using Tree.ind with
  | h1 => intro d; rw [cntP]; exact Nat.zero_le _
  | h2 k n a b kids ih =>
    intro d
    have key : ∀ (l : List Tree), (∀ t ∈ l, t ∈ kids) → cntPs i l (d + bindsP k) ≤ Tree.sizes l := by
      intro l
      induction l with
      | nil => intro _; rw [cntPs]; exact Nat.zero_le _
      | cons t ts ih2 =>
        intro hm
        rw [cntPs, Tree.sizes]
        exact Nat.add_le_add (ih t (hm t (by simp)) _) (ih2 fun t' h' => hm t' (by simp [h']))
    have := key kids fun _ h => h
    rw [cntP, Tree.size]
    split <;> omega
end Go.Proofs.YtdajnmffoopcaaaDoor.Ab
namespace Go.Proofs.YtdajnmffoopcaaaDoor.Ab
set_option linter.unusedVariables false
set_option linter.unusedSimpArgs false
open Go.RowKit
attribute [local irreducible] AWP AOps AExit AThen ABlock ANoGoto FeetOk
end Go.Proofs.YtdajnmffoopcaaaDoor.Ab
namespace Go.Proofs.YtdajnmffoopcaaaDoor.Ab
set_option linter.unusedVariables false
set_option linter.unusedSimpArgs false
theorem walkS_size {σ : Type} (V : Int → Int → σ → Tree × σ) (hV : ∀ n d s, (V n d s).1.size = 1) (t : Tree) : ∀ d s, okVars t = true → (walkS V t d s).1.size = t.size := by
  induction t using Tree.ind with
  | h1 => intro d s h; simp [okVars] at h
  | h2 k n a b kids ih =>
    intro d s hv
    by_cases k0 : k = 110
    · obtain ⟨_, _, rfl, rfl, rfl⟩ := okVars_var k0 hv
      subst k0
      rw [walkS_var, hV]
      rfl
    · rw [walkS_any V _ _ _ _ k0]
      have hvs := okVars_kids k0 hv
      have key : ∀ (l : List Tree) (s : σ), (∀ t ∈ l, t ∈ kids) → Tree.sizes (walkSs V l (d + bindsP k) s).1 = Tree.sizes l := by
        intro l
        induction l with
        | nil => intro s _; rw [walkSs_nil]
        | cons t ts ih2 =>
          intro s hm
          rw [walkSs]
          simp only [Tree.sizes]
          rw [ih t (hm t (by simp)) _ _ (hvs _ (hm t (by simp))), ih2 _ fun t' h' => hm t' (by simp [h'])]
      simp only [Tree.size]
      rw [key kids s fun _ h => h]
theorem substV_bad (i own : Int) (by_ : Tree) (n d : Int) (s : Int × Int) (h : s.2 ≠ 0) : (substV i own by_ n d s).2.2 ≠ 0 := by
  unfold substV
  rw [if_pos (.inl h)]
  exact h
theorem shiftP_zero (by_ : Tree) (hb : checkP isConP by_ = 0) (d : Int) : shiftP by_ d 0 = if (walkS (shiftV d 0) by_ 0 true).2 = true then ((walkS (shiftV d 0) by_ 0 true).1, 0) else (.nil, 2) := by
  unfold shiftP
  rw [if_pos hb, decide_eq_true (Int.le_refl _)]
/-- What of a tree is made by the one is what is made by the other, as long as nothing is refused. -/
def Alike (own : Nat) (sz : Nat) (c : Nat) (R : Tree × (Int × Int)) (Q : Tree × Bool) (n : Nat) : Prop :=
  (Q.2 = true ∧ sz + c * own ≤ 65536 → R = (Q.1, ((sz + c * own : Nat) : Int), 0) ∧ Q.1.size + c = n + c * own) ∧ (¬ (Q.2 = true ∧ sz + c * own ≤ 65536) → R.2.2 ≠ 0)
theorem subst_alike (i : Int) (hi : 0 ≤ i) (by_ : Tree) (hb : checkP isConP by_ = 0) (t : Tree) :
    ∀ (d : Int) (sz : Nat), sz ≤ 65536 → okVars t = true → Alike by_.size sz (cntP i t d) (walkS (substV i by_.size by_) t d ((sz : Nat), 0)) (walkS (putV i by_) t d true) t.size := by
  induction t using Tree.ind with
  | h1 => intro d sz _ h; simp [okVars] at h
  | h2 k n a b kids ih =>
    intro d sz hz hv
    by_cases k0 : k = 110
    · obtain ⟨q1, q2, rfl, rfl, rfl⟩ := okVars_var k0 hv
      subst k0
      rw [walkS_var, walkS_var, cntP, cntPs]
      have hsz : (Tree.node 110 n emptyB emptyB []).size = 1 := rfl
      rw [hsz]
      unfold Alike
      by_cases h1 : n < d ∨ n - d < i
      · have eS : substV i by_.size by_ n d ((sz : Nat), 0) = (varT n, (((sz : Nat) : Int), 0)) := by unfold substV; rw [if_pos (.inr h1)]
        have eP : putV i by_ n d true = (varT n, true) := by unfold putV; rw [if_pos h1]
        rw [eS, eP, if_neg (by omega)]
        refine ⟨fun _ => ⟨by simp, by dsimp only; rw [size_varT]; omega⟩, fun h => absurd ⟨rfl, by omega⟩ h⟩
      · have h0 : ¬ ((((sz : Nat) : Int), (0 : Int)).2 ≠ 0 ∨ n < d ∨ n - d < i) := fun h => h.elim (fun h => h rfl) h1
        by_cases h2 : n - d > i
        · have eS : substV i by_.size by_ n d ((sz : Nat), 0) = (varT (n - 1), (((sz : Nat) : Int), 0)) := by unfold substV; rw [if_neg h0, if_pos h2]
          have eP : putV i by_ n d true = (varT (n - 1), true) := by unfold putV; rw [if_neg h1, if_pos h2]
          rw [eS, eP, if_neg (by omega)]
          refine ⟨fun _ => ⟨by simp, by dsimp only; rw [size_varT]; omega⟩, fun h => absurd ⟨rfl, by omega⟩ h⟩
        · obtain ⟨bw, bz, bf⟩ := checkP_whole hb
          have hs := walkS_size (shiftV d 0) (fun n d' s => (shiftV_fine d 0 n d' s).2) by_ 0 true (okVars_con _ bf)
          have hsh := shiftP_zero by_ hb d
          obtain ⟨W, hW⟩ : ∃ W, walkS (shiftV d 0) by_ 0 true = W := ⟨_, rfl⟩
          rw [hW] at hs hsh
          obtain ⟨W1, W2⟩ := W
          rw [if_pos ⟨rfl, by omega, by omega⟩]
          have e1 : (1 + 0) * by_.size = by_.size := by omega
          rw [e1]
          cases W2 with
          | false =>
            have eP : putV i by_ n d true = (varT n, false) := by unfold putV; rw [if_neg h1, if_neg h2, hW, if_neg (by simp)]
            have eS : substV i by_.size by_ n d ((sz : Nat), 0) = (varT n, (((sz : Nat) : Int) + by_.size, 3)) := by
              unfold substV; rw [if_neg h0, if_neg h2, if_pos (.inr (by rw [hsh]; simp))]
            rw [eS, eP]
            exact ⟨fun h => Bool.noConfusion h.1, fun _ => show (3 : Int) ≠ 0 by decide⟩
          | true =>
            rw [if_pos rfl] at hsh
            have eP : putV i by_ n d true = (W1, true) := by unfold putV; rw [if_neg h1, if_neg h2, hW, if_pos ⟨rfl, rfl⟩]
            rw [eP]
            by_cases hbig : sz + by_.size ≤ 65536
            · have eS : substV i by_.size by_ n d ((sz : Nat), 0) = (W1, (((sz : Nat) : Int) + by_.size, 0)) := by
                unfold substV; rw [if_neg h0, if_neg h2, if_neg (by rw [hsh]; dsimp only; omega), hsh]
              rw [eS]
              refine ⟨fun _ => ⟨by rw [show ((sz : Int) + (by_.size : Int)) = ((sz + by_.size : Nat) : Int) by omega], by dsimp only at hs ⊢; rw [hs]; omega⟩, fun h => absurd ⟨rfl, hbig⟩ h⟩
            · have eS : substV i by_.size by_ n d ((sz : Nat), 0) = (varT n, (((sz : Nat) : Int) + by_.size, 3)) := by
                unfold substV; rw [if_neg h0, if_neg h2, if_pos (.inl (by dsimp only; omega))]
              rw [eS]
              exact ⟨fun h => absurd h.2 hbig, fun _ => show (3 : Int) ≠ 0 by decide⟩
    · rw [walkS_any _ _ _ _ _ k0, walkS_any _ _ _ _ _ k0, cntP, if_neg (fun h => k0 h.1)]
      have hvs := okVars_kids k0 hv
      have key : ∀ (l : List Tree) (sz : Nat), (∀ t ∈ l, t ∈ kids) → sz ≤ 65536 →
          (((walkSs (putV i by_) l (d + bindsP k) true).2 = true ∧ sz + cntPs i l (d + bindsP k) * by_.size ≤ 65536 → walkSs (substV i by_.size by_) l (d + bindsP k) ((sz : Nat), 0) = ((walkSs (putV i by_) l (d + bindsP k) true).1, ((sz + cntPs i l (d + bindsP k) * by_.size : Nat) : Int), 0) ∧ Tree.sizes (walkSs (putV i by_) l (d + bindsP k) true).1 + cntPs i l (d + bindsP k) = Tree.sizes l + cntPs i l (d + bindsP k) * by_.size) ∧
           (¬ ((walkSs (putV i by_) l (d + bindsP k) true).2 = true ∧ sz + cntPs i l (d + bindsP k) * by_.size ≤ 65536) → (walkSs (substV i by_.size by_) l (d + bindsP k) ((sz : Nat), 0)).2.2 ≠ 0)) := by
        intro l
        induction l with
        | nil =>
          intro sz _ hz
          rw [walkSs_nil, walkSs_nil, cntPs]
          refine ⟨fun _ => ⟨by simp, by simp⟩, fun h => absurd ⟨rfl, by omega⟩ h⟩
        | cons t ts ih2 =>
          intro sz hm hz
          have h1 := ih t (hm t (by simp)) (d + bindsP k) sz hz (hvs _ (hm t (by simp)))
          rw [walkSs, walkSs, cntPs]
          unfold Alike at h1
          obtain ⟨Q, hQ⟩ : ∃ Q, walkS (putV i by_) t (d + bindsP k) true = Q := ⟨_, rfl⟩
          obtain ⟨R, hR⟩ : ∃ R, walkS (substV i by_.size by_) t (d + bindsP k) ((sz : Nat), 0) = R := ⟨_, rfl⟩
          rw [hQ, hR] at h1
          rw [hQ, hR]
          obtain ⟨c, hc⟩ : ∃ c, cntP i t (d + bindsP k) = c := ⟨_, rfl⟩
          rw [hc] at h1 ⊢
          obtain ⟨c2, hc2⟩ : ∃ c2, cntPs i ts (d + bindsP k) = c2 := ⟨_, rfl⟩
          by_cases hok : Q.2 = true ∧ sz + c * by_.size ≤ 65536
          · obtain ⟨e1, e2⟩ := h1.1 hok
            have h2 := ih2 (sz + c * by_.size) (fun t' h' => hm t' (by simp [h'])) hok.2
            subst e1
            rw [hok.1]
            rw [hc2] at h2 ⊢
            have em : (c + c2) * by_.size = c * by_.size + c2 * by_.size := Nat.add_mul _ _ _
            rw [em]
            have e3 : sz + (c * by_.size + c2 * by_.size) = sz + c * by_.size + c2 * by_.size := by omega
            rw [e3]
            dsimp only
            refine ⟨fun h => ?_, fun h => h2.2 h⟩
            obtain ⟨g1, g2⟩ := h2.1 h
            rw [g1]
            refine ⟨rfl, ?_⟩
            simp only [Tree.sizes]
            omega
          · have h3 := h1.2 hok
            refine ⟨fun h => ?_, fun _ => ?_⟩
            · exfalso
              apply hok
              rw [hc2] at h
              have em : (c + c2) * by_.size = c * by_.size + c2 * by_.size := Nat.add_mul _ _ _
              refine ⟨?_, by have := h.2; rw [em] at this; omega⟩
              cases hq2 : Q.2 with
              | true => rfl
              | false =>
                have := walkSs_bad (putV i by_) (fun s => s = false) (fun n d s h => putV_bad i by_ n d s h) (d + bindsP k) ts Q.2 hq2
                have h4 := h.1
                dsimp only at h4
                rw [this] at h4
                cases h4
            · exact walkSs_bad (substV i by_.size by_) (fun s => s.2 ≠ 0) (fun n d s h => substV_bad i _ by_ n d s h) (d + bindsP k) ts R.2 h3
      have := key kids sz (fun _ h => h) hz
      unfold Alike
      dsimp only
      have e0 : 0 + cntPs i kids (d + bindsP k) = cntPs i kids (d + bindsP k) := Nat.zero_add _
      rw [e0]
      refine ⟨fun h => ?_, fun h => this.2 h⟩
      obtain ⟨g1, g2⟩ := this.1 h
      rw [g1]
      refine ⟨rfl, ?_⟩
      simp only [Tree.size]
      omega
/-- What Subst tells, as the reference tells it. -/
theorem substP_ref (t : Tree) (i : Int) (by_ : Tree) (ht : checkP isConP t = 0) (hb : checkP isConP by_ = 0) (hi : 0 ≤ i) :
    substP t i by_ = if 65536 < cntP i t 0 * by_.size ∨ 65536 < t.size - cntP i t 0 + cntP i t 0 * by_.size ∨ (walkS (putV i by_) t 0 true).2 = false then (.nil, 3) else ((walkS (putV i by_) t 0 true).1, 0) := by
  unfold substP
  rw [if_neg (by simpa using ht), if_neg (by simpa using hb), if_neg (by omega)]
  obtain ⟨tw, tz, tf⟩ := checkP_whole ht
  have ha := subst_alike i hi by_ hb t 0 0 (by omega) (okVars_con t tf)
  have hcl := cntP_le i t 0
  unfold Alike at ha
  rw [Nat.zero_add] at ha
  have e0 : (((0 : Nat) : Int), (0 : Int)) = (0, 0) := rfl
  rw [e0] at ha
  obtain ⟨Q, hQ⟩ : ∃ Q, walkS (putV i by_) t 0 true = Q := ⟨_, rfl⟩
  obtain ⟨R, hR⟩ : ∃ R, walkS (substV i by_.size by_) t 0 (0, 0) = R := ⟨_, rfl⟩
  rw [hQ, hR] at ha
  rw [hQ, hR]
  generalize cntP i t 0 = c at *
  generalize c * by_.size = cs at *
  by_cases hok : Q.2 = true ∧ cs ≤ 65536
  · obtain ⟨e1, e2⟩ := ha.1 hok
    subst e1
    dsimp only
    by_cases hbig : Q.1.size > 65536
    · rw [if_pos (.inr hbig), if_pos (.inr (.inl (by omega)))]
    · rw [if_neg (by intro h; rcases h with h | h; exact h rfl; exact hbig h), if_neg (by
        intro h
        rcases h with h | h | h
        · omega
        · omega
        · rw [hok.1] at h; cases h)]
  · have := ha.2 hok
    rw [if_pos (.inl this), if_pos]
    by_cases hc : 65536 < cs
    · exact .inl hc
    · right; right
      cases h2 : Q.2 with
      | false => rfl
      | true => exact absurd ⟨h2, by omega⟩ hok
end Go.Proofs.YtdajnmffoopcaaaDoor.Ab
namespace Go.Proofs.YtdajnmffoopcaaaDoor.Ab
set_option linter.unusedVariables false
set_option linter.unusedSimpArgs false
open Go.RowKit
attribute [local irreducible] AWP AOps AExit AThen ABlock ANoGoto FeetOk
end Go.Proofs.YtdajnmffoopcaaaDoor.Ab
namespace Go.Proofs.YtdajnmffoopcaaaDoor.Ab
set_option linter.unusedVariables false
set_option linter.unusedSimpArgs false
open Go.RowKit
attribute [local irreducible] AWP AOps AExit AThen ABlock ANoGoto FeetOk
end Go.Proofs.YtdajnmffoopcaaaDoor.Ab
namespace Go.Proofs.YtdajnmffoopcaaaDoor.Ab
set_option linter.unusedVariables false
set_option linter.unusedSimpArgs false
/-- What is a signature, an abstract one, a functor's. -/
def tForm (t : Tree) : Prop := isSigP t = true ∨ isExP t = true ∨ isFunP t = true
theorem tForm_of {t : Tree} (h : sformP t = true) : tForm t := by
  unfold sformP at h
  simp only [Bool.or_eq_true] at h
  exact h
theorem ex_form {t : Tree} (h : isExP t = true) : ∃ n a b c, t = .node 164 n a b [c] ∧ 0 ≤ n ∧ n ≤ 8192 ∧ isSigP c = true := by
  cases t with
  | nil => simp [isExP] at h
  | node k n a b kids =>
    by_cases h1 : kids.length = 1
    · obtain ⟨c, rfl⟩ := one_of h1
      have hk := isEx_kind h
      have hk : k = 164 := hk
      subst hk
      simp only [isExP, Bool.and_eq_true] at h
      have hn := sbare_num h.1.2
      exact ⟨n, a, b, c, rfl, hn.1, hn.2, h.2⟩
    · rw [isExP_no h1] at h; cases h
theorem fun_form {t : Tree} (h : isFunP t = true) : ∃ n a b c e, t = .node 165 n a b [c, e] ∧ 0 ≤ n ∧ n ≤ 8192 ∧ isSigP c = true ∧ isExP e = true := by
  cases t with
  | nil => simp [isFunP] at h
  | node k n a b kids =>
    by_cases h1 : kids.length = 2
    · obtain ⟨c, e, rfl⟩ := two h1
      have hk := isFun_kind h
      have hk : k = 165 := hk
      subst hk
      simp only [isFunP, Bool.and_eq_true] at h
      have hn := sbare_num h.1.2
      exact ⟨n, a, b, c, e, rfl, hn.1, hn.2, h.2.1, h.2.2⟩
    · rw [isFunP_no h1] at h; cases h
end Go.Proofs.YtdajnmffoopcaaaDoor.Ab
namespace Go.Proofs.YtdajnmffoopcaaaDoor.Ab
set_option linter.unusedVariables false
set_option linter.unusedSimpArgs false
mutual
/-- A tree with other variables: g of their numbers and of the binders around. -/
def mapV (g : Int → Int → Int) : Tree → Int → Tree
  | .nil, _ => .nil
  | .node k n a b kids, d => if k = 110 then varT (g n d) else .node k n a b (mapVs g kids (d + bindsP k))
def mapVs (g : Int → Int → Int) : List Tree → Int → List Tree
  | [], _ => []
  | t :: ts, d => mapV g t d :: mapVs g ts d
end
mutual
/-- Does it hold of each variable? -/
def allV (p : Int → Int → Bool) : Tree → Int → Bool
  | .nil, _ => true
  | .node k n _ _ kids, d => if k = 110 then p n d else allVs p kids (d + bindsP k)
def allVs (p : Int → Int → Bool) : List Tree → Int → Bool
  | [], _ => true
  | t :: ts, d => allV p t d && allVs p ts d
end
theorem mapVs_map (g : Int → Int → Int) (d : Int) : ∀ l : List Tree, mapVs g l d = l.map fun t => mapV g t d
  | [] => by rw [mapVs]; rfl
  | t :: ts => by rw [mapVs, mapVs_map g d ts]; rfl
theorem allVs_all (p : Int → Int → Bool) (d : Int) : ∀ l : List Tree, allVs p l d = l.all fun t => allV p t d
  | [] => by rw [allVs]; rfl
  | t :: ts => by rw [allVs, allVs_all p d ts]; rfl
theorem mapV_node (g : Int → Int → Int) {k n : Int} {a b : ByteArray} {kids : List Tree} (d : Int) (hk : ¬ k = 110) : mapV g (.node k n a b kids) d = .node k n a b (kids.map fun t => mapV g t (d + bindsP k)) := by rw [mapV, if_neg hk, mapVs_map]
theorem mapV_var (g : Int → Int → Int) {n : Int} {a b : ByteArray} {kids : List Tree} (d : Int) : mapV g (.node 110 n a b kids) d = varT (g n d) := by rw [mapV, if_pos rfl]
theorem allV_node (p : Int → Int → Bool) {k n : Int} {a b : ByteArray} {kids : List Tree} (d : Int) (hk : ¬ k = 110) : allV p (.node k n a b kids) d = kids.all fun t => allV p t (d + bindsP k) := by rw [allV, if_neg hk, allVs_all]
theorem allV_var (p : Int → Int → Bool) {n : Int} {a b : ByteArray} {kids : List Tree} (d : Int) : allV p (.node 110 n a b kids) d = p n d := by rw [allV, if_pos rfl]
theorem mapV_map (g h : Int → Int → Int) (e : Int) (t : Tree) : ∀ d, mapV g (mapV h t d) (d + e) = mapV (fun n x => g (h n x) (x + e)) t d := by
  induction t using Tree.ind with
  | h1 => intro d; rw [mapV, mapV, mapV]
  | h2 k n a b kids ih =>
    intro d
    by_cases hk : k = 110
    · subst hk
      rw [mapV_var, mapV_var]
      exact mapV_var _ _
    · rw [mapV_node _ _ hk, mapV_node _ _ hk, mapV_node _ _ hk, List.map_map]
      congr 1
      refine List.map_congr_left fun t ht => ?_
      show mapV g (mapV h t (d + bindsP k)) (d + e + bindsP k) = _
      rw [show d + e + bindsP k = (d + bindsP k) + e by omega]
      exact ih t ht _
theorem mapV_congr (p : Int → Int → Bool) (g g' : Int → Int → Int) (t : Tree) : ∀ d, okVars t = true → allV p t d = true → (∀ n x, 0 ≤ n → n ≤ 65536 → d ≤ x → p n x = true → g n x = g' n x) → mapV g t d = mapV g' t d := by
  induction t using Tree.ind with
  | h1 => intro d h; simp [okVars] at h
  | h2 k n a b kids ih =>
    intro d hv hp hg
    by_cases hk : k = 110
    · subst hk
      obtain ⟨q1, q2, _⟩ := okVars_var rfl hv
      rw [allV_var] at hp
      rw [mapV_var, mapV_var, hg n d q1 q2 (Int.le_refl _) hp]
    · rw [allV_node _ _ hk, List.all_eq_true] at hp
      have hvs := okVars_kids hk hv
      have hb := bindsP_le k
      rw [mapV_node _ _ hk, mapV_node _ _ hk]
      congr 1
      exact List.map_congr_left fun t ht => ih t ht _ (hvs t ht) (hp t ht) fun n x h1 h2 h3 h4 => hg n x h1 h2 (by omega) h4
theorem allV_imp (p q : Int → Int → Bool) (t : Tree) : ∀ d, okVars t = true → allV p t d = true → (∀ n x, 0 ≤ n → n ≤ 65536 → d ≤ x → p n x = true → q n x = true) → allV q t d = true := by
  induction t using Tree.ind with
  | h1 => intro d h; simp [okVars] at h
  | h2 k n a b kids ih =>
    intro d hv hp hg
    by_cases hk : k = 110
    · subst hk
      obtain ⟨q1, q2, _⟩ := okVars_var rfl hv
      rw [allV_var] at hp ⊢
      exact hg n d q1 q2 (Int.le_refl _) hp
    · have hvs := okVars_kids hk hv
      have hb := bindsP_le k
      rw [allV_node _ _ hk, List.all_eq_true] at hp ⊢
      exact fun t ht => ih t ht _ (hvs t ht) (hp t ht) fun n x h1 h2 h3 h4 => hg n x h1 h2 (by omega) h4
theorem mapV_id (t : Tree) : ∀ d, okVars t = true → mapV (fun n _ => n) t d = t := by
  induction t using Tree.ind with
  | h1 => intro d h; simp [okVars] at h
  | h2 k n a b kids ih =>
    intro d hv
    by_cases hk : k = 110
    · obtain ⟨_, _, rfl, rfl, rfl⟩ := okVars_var hk hv
      subst hk
      exact mapV_var _ _
    · have hvs := okVars_kids hk hv
      rw [mapV_node _ _ hk]
      congr 1
      conv => rhs; rw [← List.map_id kids]
      exact List.map_congr_left fun t ht => ih t ht _ (hvs t ht)
theorem mapV_size (g : Int → Int → Int) (t : Tree) : ∀ d, okVars t = true → (mapV g t d).size = t.size := by
  induction t using Tree.ind with
  | h1 => intro d h; simp [okVars] at h
  | h2 k n a b kids ih =>
    intro d hv
    by_cases hk : k = 110
    · obtain ⟨_, _, rfl, rfl, rfl⟩ := okVars_var hk hv
      subst hk
      rw [mapV_var]; rfl
    · have hvs := okVars_kids hk hv
      rw [mapV_node _ _ hk, Tree.size, Tree.size]
      congr 1
      have key : ∀ l : List Tree, (∀ t ∈ l, t ∈ kids) → Tree.sizes (l.map fun t => mapV g t (d + bindsP k)) = Tree.sizes l := by
        intro l
        induction l with
        | nil => intro _; rfl
        | cons t ts ih2 =>
          intro hm
          rw [List.map_cons, Tree.sizes, Tree.sizes, ih t (hm t (by simp)) _ (hvs t (hm t (by simp))), ih2 fun t' h' => hm t' (by simp [h'])]
      exact key kids fun _ h => h
theorem mapV_whole (g : Int → Int → Int) (t : Tree) : ∀ d, t.whole = true → (mapV g t d).whole = true := by
  induction t using Tree.ind with
  | h1 => intro d h; simp [Tree.whole] at h
  | h2 k n a b kids ih =>
    intro d hw
    by_cases hk : k = 110
    · subst hk
      rw [mapV_var]; rfl
    · rw [mapV_node _ _ hk]
      refine wholes_of fun u hu => ?_
      obtain ⟨t, ht, rfl⟩ := List.mem_map.1 hu
      exact ih t ht _ (wholes_mem hw ht)
theorem mapV_name (g : Int → Int → Int) (t : Tree) (d : Int) (hk : t.kind ≠ 110) : (mapV g t d).name = t.name := by
  cases t with
  | nil => rw [mapV]
  | node k n a b kids =>
    have hk : ¬ k = 110 := hk
    rw [mapV_node _ _ hk]; rfl
theorem rising_map (f : Tree → Tree) : ∀ l : List Tree, (∀ t ∈ l, (f t).name = t.name) → risingP (l.map f) = risingP l
  | [], _ => rfl
  | [t], _ => by simp [risingP]
  | t :: u :: r, h => by
    have ih := rising_map f (u :: r) fun t' h' => h t' (by simp [h'])
    rw [List.map_cons] at ih
    rw [List.map_cons, List.map_cons, risingP, risingP, h t (by simp), h u (by simp), ih]
theorem distinct_map (f : Tree → Tree) : ∀ l : List Tree, (∀ t ∈ l, (f t).name = t.name) → distinctP (l.map f) = distinctP l
  | [], _ => rfl
  | t :: r, h => by
    have ih := distinct_map f r fun t' h' => h t' (by simp [h'])
    have e : ((r.map f).any fun u => eqB u.name t.name) = (r.any fun u => eqB u.name t.name) := by
      rw [List.any_map]
      refine Bool.eq_iff_iff.2 ?_
      rw [List.any_eq_true, List.any_eq_true]
      exact ⟨fun ⟨u, h1, h2⟩ => ⟨u, h1, by have : eqB (f u).name t.name = true := h2; rwa [h u (by simp [h1])] at this⟩, fun ⟨u, h1, h2⟩ => ⟨u, h1, by show eqB (f u).name t.name = true; rw [h u (by simp [h1])]; exact h2⟩⟩
    rw [List.map_cons, distinctP, distinctP, h t (by simp), e, ih]
theorem mapV_kind (g : Int → Int → Int) (t : Tree) : ∀ d, isKindP t = true → mapV g t d = t := by
  induction t using Tree.ind with
  | h1 => intro d h; simp [isKindP] at h
  | h2 k n a b kids ih =>
    intro d h
    rw [isKindP] at h
    by_cases k0 : k = 100
    · rw [if_pos k0, Bool.and_eq_true] at h
      have e0 : kids = [] := List.eq_nil_of_length_eq_zero (by simpa using h.2)
      subst e0
      rw [mapV_node _ _ (by omega)]; rfl
    · rw [if_neg k0] at h
      by_cases k1 : k = 101
      · rw [if_pos k1, Bool.and_eq_true, isKindPs_map] at h
        rw [mapV_node _ _ (by omega)]
        congr 1
        conv => rhs; rw [← List.map_id kids]
        refine List.map_congr_left fun t ht => ih t ht _ ?_
        have := List.all_eq_true.1 h.2 (isKindP t) (List.mem_map.2 ⟨t, ht, rfl⟩)
        simpa using this
      · rw [if_neg k1] at h; cases h
/-- A constructor stays one, where its variables stay within what may be. -/
theorem mapV_con (g : Int → Int → Int) (t : Tree) : ∀ d, isConP t = true → allV (fun n x => decide (0 ≤ g n x ∧ g n x ≤ 65536)) t d = true → isConP (mapV g t d) = true := by
  induction t using Tree.sind with
  | h t ih =>
    intro d h hp
    cases t with
    | nil => simp [isConP] at h
    | node k n a b kids =>
      rw [isConP, Bool.and_eq_true] at h
      obtain ⟨hb, h⟩ := h
      by_cases k0 : k = 110
      · subst k0
        rw [allV_var, decide_eq_true_eq] at hp
        rw [mapV_var]
        unfold varT
        rw [isConP, if_pos rfl]
        have hbare : bareP (g n d) emptyB emptyB false ((110 : Int) == 110) = true := by
          unfold bareP
          rw [(eqB_iff _ _).2 rfl]
          simp
        rw [hbare, decide_eq_true (by omega : g n d ≥ 0), decide_eq_true hp.2]
        rfl
      · rw [allV_node _ _ k0, List.all_eq_true] at hp
        rw [mapV_node _ _ k0, isConP, hb, if_neg k0]
        rw [if_neg k0] at h
        have kid : ∀ t ∈ kids, isConP t = true → isConP (mapV g t (d + bindsP k)) = true := fun t ht hc => ih t (size_kid ht) _ hc (hp t ht)
        have named : ∀ kind : Int, kind ≠ 110 → bindsP kind = 0 → ∀ t ∈ kids, okNamed kind t = true → okNamed kind (mapV g t (d + bindsP k)) = true ∧ (mapV g t (d + bindsP k)).name = t.name := fun kind hkd hbd t ht ho => by
          have hp1 := hp t ht
          have hz := size_kid (k := k) (n := n) (a := a) (b := b) ht
          cases t with
          | nil => simp [okNamed] at ho
          | node k' n' a' b' ks =>
            simp only [okNamed, Bool.and_eq_true, beq_iff_eq] at ho
            obtain ⟨⟨⟨rfl, h1⟩, h2⟩, h3⟩ := ho
            refine ⟨?_, mapV_name _ _ _ hkd⟩
            by_cases hl : ks.length = 1
            · obtain ⟨c, rfl⟩ := one_of hl
              rw [allV_node _ _ hkd, List.all_eq_true] at hp1
              rw [mapV_node _ _ hkd]
              simp only [okNamed, List.map_cons, List.map_nil, isCon1, Bool.and_eq_true, beq_iff_eq]
              have hz2 := size_kid (k := k') (n := n') (a := a') (b := b') (kids := [c]) (t := c) (by simp)
              exact ⟨⟨⟨trivial, h1⟩, h2⟩, ih c (by omega) _ (by simpa [isCon1] using h3) (hp1 c (by simp))⟩
            · rw [isCon1_no hl] at h3; cases h3
        rw [Bool.true_and]
        by_cases k1 : k = 111 ∨ k = 112 ∨ k = 113
        · rw [if_pos k1] at h ⊢
          rw [List.length_map]; exact h
        · rw [if_neg k1] at h ⊢
          by_cases k2 : k = 114 ∨ k = 120
          · rw [if_pos k2, Bool.and_eq_true, isCons_all] at h ⊢
            refine ⟨by rw [List.length_map]; exact h.1, ?_⟩
            rw [List.all_eq_true] at h ⊢
            intro u hu
            obtain ⟨t, ht, rfl⟩ := List.mem_map.1 hu
            exact kid t ht (h.2 t ht)
          · rw [if_neg k2] at h ⊢
            by_cases k3 : k = 115
            · rw [if_pos k3, Bool.and_eq_true, namedPs_all, List.all_eq_true] at h ⊢
              have hn := fun t ht => named 116 (by decide) (by decide) t ht (h.1 t ht)
              refine ⟨fun u hu => ?_, ?_⟩
              · obtain ⟨t, ht, rfl⟩ := List.mem_map.1 hu
                exact (hn t ht).1
              · rw [rising_map _ _ fun t ht => (hn t ht).2]; exact h.2
            · rw [if_neg k3] at h ⊢
              by_cases k4 : k = 117 ∨ k = 118 ∨ k = 119
              · rw [if_pos k4] at h ⊢
                by_cases h2 : kids.length = 2
                · obtain ⟨x, y, rfl⟩ := two h2
                  simp only [isCon2, Bool.and_eq_true] at h
                  simp only [List.map_cons, List.map_nil, isCon2, Bool.and_eq_true]
                  exact ⟨by rw [mapV_kind _ _ _ h.1]; exact h.1, kid y (by simp) h.2⟩
                · rw [isCon2_no h2] at h; cases h
              · rw [if_neg k4] at h ⊢
                by_cases k5 : k = 121
                · rw [if_pos k5, Bool.and_eq_true, Bool.and_eq_true, namedPs_all, List.all_eq_true] at h ⊢
                  have hn := fun t ht => named 122 (by decide) (by decide) t ht (h.1.2 t ht)
                  refine ⟨⟨by rw [List.length_map]; exact h.1.1, fun u hu => ?_⟩, ?_⟩
                  · obtain ⟨t, ht, rfl⟩ := List.mem_map.1 hu
                    exact (hn t ht).1
                  · rw [distinct_map _ _ fun t ht => (hn t ht).2]; exact h.2
                · rw [if_neg k5] at h; cases h
/-- What Shift makes of a variable's number, and where it may. -/
def shG (b f : Int) (n d : Int) : Int := if n < d ∨ n - d < f then n else n + b
def okG (b f : Int) (n d : Int) : Bool := decide (n < d ∨ n - d < f ∨ (d - n ≤ b ∧ b ≤ 65536 - n))
theorem shiftV_sh (b f n d : Int) (s : Bool) : (shiftV b f n d s).2 = (s && okG b f n d) ∧ ((s && okG b f n d) = true → (shiftV b f n d s).1 = varT (shG b f n d)) := by
  unfold shiftV okG shG
  by_cases h1 : n < d ∨ n - d < f
  · rw [if_pos h1, if_pos h1, decide_eq_true (by omega)]
    exact ⟨by simp, fun _ => rfl⟩
  · rw [if_neg h1, if_neg h1]
    by_cases h2 : s = true ∧ d - n ≤ b ∧ b ≤ 65536 - n
    · rw [if_pos h2, decide_eq_true (by omega), h2.1]
      exact ⟨rfl, fun _ => rfl⟩
    · rw [if_neg h2]
      have : (s && decide (n < d ∨ n - d < f ∨ (d - n ≤ b ∧ b ≤ 65536 - n))) = false := by
        cases s with
        | false => rfl
        | true =>
          rw [Bool.true_and, decide_eq_false_iff_not]
          intro h3
          exact h2 ⟨rfl, by omega⟩
      rw [this]
      exact ⟨rfl, fun h => by cases h⟩
theorem walkS_sh (b f : Int) (t : Tree) : ∀ d s, okVars t = true → (walkS (shiftV b f) t d s).2 = (s && allV (okG b f) t d) ∧ ((s && allV (okG b f) t d) = true → (walkS (shiftV b f) t d s).1 = mapV (shG b f) t d) := by
  induction t using Tree.ind with
  | h1 => intro d s h; simp [okVars] at h
  | h2 k n a b' kids ih =>
    intro d s hv
    by_cases hk : k = 110
    · subst hk
      rw [walkS_var, allV_var, mapV_var]
      exact shiftV_sh b f n d s
    · have hvs := okVars_kids hk hv
      rw [walkS_any _ _ _ _ kids hk, allV_node _ _ hk, mapV_node _ _ hk]
      have key : ∀ l : List Tree, (∀ t ∈ l, t ∈ kids) → ∀ s, (walkSs (shiftV b f) l (d + bindsP k) s).2 = (s && l.all fun t => allV (okG b f) t (d + bindsP k)) ∧ ((s && l.all fun t => allV (okG b f) t (d + bindsP k)) = true → (walkSs (shiftV b f) l (d + bindsP k) s).1 = l.map fun t => mapV (shG b f) t (d + bindsP k)) := by
        intro l
        induction l with
        | nil => intro _ s; rw [walkSs]; simp
        | cons t ts ih2 =>
          intro hm s
          obtain ⟨g1, g2⟩ := ih t (hm t (by simp)) (d + bindsP k) s (hvs t (hm t (by simp)))
          obtain ⟨g3, g4⟩ := ih2 (fun t' h' => hm t' (by simp [h'])) (walkS (shiftV b f) t (d + bindsP k) s).2
          rw [walkSs, List.all_cons, List.map_cons]
          dsimp only
          rw [g1] at g3 g4
          rw [Bool.and_assoc] at g3 g4
          refine ⟨by rw [g1]; exact g3, fun h => ?_⟩
          rw [g1, g4 h]
          rw [← Bool.and_assoc, Bool.and_eq_true] at h
          rw [g2 h.1]
      obtain ⟨g1, g2⟩ := key kids (fun _ h => h) s
      exact ⟨g1, fun h => by dsimp only; rw [g2 h]⟩
theorem shiftP_sh (t : Tree) (hc : checkP isConP t = 0) (b f : Int) (hf : 0 ≤ f) : shiftP t b f = if allV (okG b f) t 0 = true then (mapV (shG b f) t 0, 0) else (.nil, 2) := by
  obtain ⟨_, _, hcon⟩ := checkP_whole hc
  obtain ⟨g1, g2⟩ := walkS_sh b f t 0 true (okVars_con t hcon)
  rw [Bool.true_and] at g1 g2
  unfold shiftP
  rw [if_pos hc, decide_eq_true hf, g1]
  by_cases h : allV (okG b f) t 0 = true
  · rw [if_pos h, if_pos h, g2 h]
  · rw [if_neg h, if_neg h]
/-- All kids are walked, or none. -/
theorem swalkPs_all (C : Tree → Int → Tree × Int) (d : Int) : ∀ l : List Tree, (swalkPs C l d).2 = 0 → (∀ t ∈ l, (swalkP C t d).2 = 0) ∧ (swalkPs C l d).1 = l.map fun t => (swalkP C t d).1
  | [], _ => by rw [swalkPs]; exact ⟨fun t h => (List.not_mem_nil h).elim, rfl⟩
  | t :: ts, h => by
    rw [swalkPs] at h ⊢
    by_cases h1 : (swalkP C t d).2 = 0
    · rw [if_neg (by simpa using h1)] at h ⊢
      by_cases h2 : (swalkPs C ts d).2 = 0
      · rw [if_neg (by simpa using h2)]
        obtain ⟨g1, g2⟩ := swalkPs_all C d ts h2
        exact ⟨fun u hu => by rcases List.mem_cons.1 hu with rfl | hu; exact h1; exact g1 u hu, by rw [g2]; rfl⟩
      · rw [if_pos h2] at h; exact absurd h h2
    · rw [if_pos h1] at h; exact absurd h h1
theorem swalkPs_of (C : Tree → Int → Tree × Int) (d : Int) : ∀ l : List Tree, (∀ t ∈ l, (swalkP C t d).2 = 0) → swalkPs C l d = (l.map fun t => (swalkP C t d).1, 0)
  | [], _ => by rw [swalkPs]; rfl
  | t :: ts, h => by
    have ih := swalkPs_of C d ts fun u hu => h u (by simp [hu])
    rw [swalkPs, if_neg (by simpa using h t (by simp)), ih]
    rfl
theorem swalkP_node {C : Tree → Int → Tree × Int} {k n : Int} {a b : ByteArray} {kids : List Tree} {d : Int} (hk : ¬ k < 160) (h : (swalkP C (.node k n a b kids) d).2 = 0) :
    (∀ t ∈ kids, (swalkP C t (d + sbindsP k n)).2 = 0) ∧ (swalkP C (.node k n a b kids) d).1 = .node k n a b (kids.map fun t => (swalkP C t (d + sbindsP k n)).1) := by
  rw [swalkP, if_neg hk] at h ⊢
  by_cases h1 : (swalkPs C kids (d + sbindsP k n)).2 = 0
  · rw [if_neg (by simpa using h1)]
    obtain ⟨g1, g2⟩ := swalkPs_all C _ kids h1
    exact ⟨g1, by rw [g2]⟩
  · rw [if_pos h1] at h; exact absurd h h1
theorem swalkP_of {C : Tree → Int → Tree × Int} {k n : Int} {a b : ByteArray} {kids : List Tree} {d : Int} (hk : ¬ k < 160) (h : ∀ t ∈ kids, (swalkP C t (d + sbindsP k n)).2 = 0) :
    swalkP C (.node k n a b kids) d = (.node k n a b (kids.map fun t => (swalkP C t (d + sbindsP k n)).1), 0) := by
  rw [swalkP, if_neg hk, swalkPs_of C _ kids h]
  rfl
theorem swalkP_con {C : Tree → Int → Tree × Int} {c : Tree} (hc : checkP isConP c = 0) (d : Int) : swalkP C c d = C c d := by
  obtain ⟨k, n, a, b, ks, rfl, hk⟩ := con_low hc
  rw [swalkP, if_pos hk]
theorem sbinds_0 {k n : Int} (h : ¬ (k = 164 ∨ k = 165)) : sbindsP k n = 0 := by unfold sbindsP; rw [if_neg h]
theorem shift_con (c : Tree) (hc : checkP isConP c = 0) (b f : Int) (hf : 0 ≤ f) (h : (shiftP c b f).2 = 0) : isConP (shiftP c b f).1 = true := by
  obtain ⟨_, _, hcon⟩ := checkP_whole hc
  rw [shiftP_sh c hc b f hf] at h ⊢
  by_cases ha : allV (okG b f) c 0 = true
  · rw [if_pos ha]
    refine mapV_con _ c 0 hcon (allV_imp _ _ c 0 (okVars_con c hcon) ha fun n x h1 h2 h3 h4 => ?_)
    unfold okG at h4
    rw [decide_eq_true_eq] at h4 ⊢
    unfold shG
    split <;> omega
  · rw [if_neg ha] at h; cases h
end Go.Proofs.YtdajnmffoopcaaaDoor.Ab
namespace Go.Proofs.YtdajnmffoopcaaaDoor.RP
set_option linter.unusedVariables false
set_option linter.unusedSimpArgs false
open Go.RowKit Go.Lib Go.Proofs.YtdajnmffoopcaaaDoorW.PrintWords Go.Proofs.YtdajnmffoopcaaaDoorW.PrintLast Go.Proofs.YtdajnmffoopcaaaDoorW.PrintMore Go.Proofs.YtdajnmffoopcaaaDoor.PAll
theorem w64 {x : Int} (h0 : -9223372036854775808 ≤ x) (h1 : x ≤ 9223372036854775807) : wrap64 x = x := by unfold wrap64; omega
theorem w64s (a : Nat) (h : a ≤ 9000000) : wrap64 ((a : Int) + 1) = ((a + 1 : Nat) : Int) := by rw [w64] <;> omega
/-- Is the text valid from a place on? -/
def vf (s : ByteArray) (pos : Nat) : Bool := validD (s.data.toList.drop pos)
def high (r : Int) : Int := if 128 ≤ r ∧ r ≤ 1114111 ∧ r ≠ 65533 ∧ (r < 55296 ∨ 57343 < r) then 1 else 0
def blank (r : Int) : Int := if r = 32 ∨ r = 9 ∨ r = 10 then 3 else high r
def digit (r : Int) : Int := if 48 ≤ r ∧ r ≤ 57 then 2 else blank r
/-- A rune's class. -/
def classP (r : Int) : Int := if (65 ≤ r ∧ r ≤ 90) ∨ (97 ≤ r ∧ r ≤ 122) ∨ r = 95 then 1 else digit r
theorem vr_eq (k : Nat) (r : Int) : utf8_ValidRune.f (k + 1) r = some (decide ((0 ≤ r ∧ r < 55296) ∨ (57343 < r ∧ r ≤ 1114111))) := by
  unfold utf8_ValidRune.f
  by_cases h : 0 ≤ r
  · rw [if_pos h]
    by_cases h2 : r < 55296
    · rw [decide_eq_true h2, decide_eq_true (Or.inl ⟨h, h2⟩)]
      simp only [utf8_ValidRune.j0, if_true]
    · rw [decide_eq_false h2]
      simp only [utf8_ValidRune.j0, Bool.false_eq_true, if_false]
      by_cases h3 : 57343 < r
      · rw [if_pos h3]
        by_cases h4 : r ≤ 1114111
        · rw [if_pos h4, decide_eq_true (Or.inr ⟨h3, h4⟩)]
        · rw [if_neg h4, decide_eq_false (by omega)]
      · rw [if_neg h3, decide_eq_false (by omega)]
  · rw [if_neg h, decide_eq_false (by omega)]
    simp only [utf8_ValidRune.j0, Bool.false_eq_true, if_false]
    rw [if_neg (by omega)]
theorem c_j3 (k : Nat) (r : Int) (b : Bool) : runes_Class.j3 (k + 2) r b = some (if b = true then 3 else high r) := by
  cases b with
  | true => simp only [runes_Class.j3, if_true]
  | false =>
    simp only [runes_Class.j3, Bool.false_eq_true, if_false]
    unfold high
    by_cases h : 128 ≤ r
    · rw [if_pos h]
      by_cases h2 : r = 65533
      · rw [if_pos h2, if_neg (by omega)]
      · rw [if_neg h2, vr_eq]
        simp only [Option.bind_some]
        by_cases h3 : (0 ≤ r ∧ r < 55296) ∨ (57343 < r ∧ r ≤ 1114111)
        · rw [decide_eq_true h3, if_pos rfl, if_pos (by omega)]
        · rw [decide_eq_false h3, if_neg (by decide), if_neg (by omega)]
    · rw [if_neg h, if_neg (by omega)]
theorem c_j2 (k : Nat) (r : Int) (b : Bool) : runes_Class.j2 (k + 3) r b = some (if b = true then 2 else blank r) := by
  cases b with
  | true => simp only [runes_Class.j2, if_true]
  | false =>
    simp only [runes_Class.j2, Bool.false_eq_true, if_false, c_j3]
    unfold blank
    by_cases h : r = 32
    · rw [if_pos h, if_pos (by simpa using h), if_pos (by omega)]
    · rw [if_neg h]
      by_cases h2 : r = 9
      · rw [if_pos h2, if_pos (by simpa using h2), if_pos (by omega)]
      · rw [if_neg h2]
        by_cases h3 : r = 10
        · rw [if_pos (by simpa using h3), if_pos (by omega)]
        · rw [if_neg (by simpa using h3), if_neg (by omega)]
theorem c_j1 (k : Nat) (r : Int) (b : Bool) : runes_Class.j1 (k + 4) r b = some (if b = true then 1 else digit r) := by
  cases b with
  | true => simp only [runes_Class.j1, if_true]
  | false =>
    simp only [runes_Class.j1, Bool.false_eq_true, if_false, c_j2]
    unfold digit
    by_cases h : 48 ≤ r
    · rw [if_pos h]
      by_cases h2 : r ≤ 57
      · rw [if_pos (by simpa using h2), if_pos ⟨h, h2⟩]
      · rw [if_neg (by simpa using h2), if_neg (by omega)]
    · rw [if_neg h, if_neg (by omega)]
theorem c_j0 (k : Nat) (r : Int) (b : Bool) : runes_Class.j0 (k + 5) r b = some (if b = true then 1 else if (97 ≤ r ∧ r ≤ 122) ∨ r = 95 then 1 else digit r) := by
  cases b with
  | true => simp only [runes_Class.j0, if_true, c_j1]
  | false =>
    simp only [runes_Class.j0, Bool.false_eq_true, if_false, c_j1]
    by_cases h : 97 ≤ r
    · rw [if_pos h]
      by_cases h2 : r ≤ 122
      · rw [if_pos h2, if_pos (by simpa using h2), if_pos (by omega)]
      · rw [if_neg h2, if_neg (by simp; omega), if_neg (by omega)]
    · rw [if_neg h]
      by_cases h3 : r = 95
      · rw [if_pos (by simpa using h3), if_pos (by omega)]
      · rw [if_neg (by simpa using h3), if_neg (by omega)]
theorem class_eq (k : Nat) (r : Int) : runes_Class.f (k + 5) r = some (classP r) := by
  unfold runes_Class.f classP
  rw [c_j0, c_j0]
  by_cases h : 65 ≤ r
  · rw [if_pos h]
    by_cases h2 : r ≤ 90
    · rw [if_pos (by simpa using h2), if_pos (by omega)]
    · rw [if_neg (by simpa using h2)]
      by_cases h3 : (97 ≤ r ∧ r ≤ 122) ∨ r = 95
      · rw [if_pos h3, if_pos (by omega)]
      · rw [if_neg h3, if_neg (by omega)]
  · rw [if_neg h, if_neg (by decide)]
    by_cases h3 : (97 ≤ r ∧ r ≤ 122) ∨ r = 95
    · rw [if_pos h3, if_pos (by omega)]
    · rw [if_neg h3, if_neg (by omega)]
/-- May a rune not stand in a text? -/
def badR (r : Int) : Prop := r = 65533 ∨ (r < 32 ∧ ¬ classP r = 3) ∨ r = 127
instance (r : Int) : Decidable (badR r) := by unfold badR; infer_instance
/-- Is a rune right within a name (first: at its begin)? -/
def okR (first : Bool) (r : Int) : Bool := decide (classP r = 1) || (!first && (decide (classP r = 2) || decide (r = 39)))
/-- runes.Name's loop. -/
def nm (s : ByteArray) : Nat → Nat → Bool
  | 0, _ => true
  | f + 1, pos => if pos < s.size then (if okR (decide (pos = 0)) (Utf8.decode s pos).1 = true then nm s f (pos + (Utf8.decode s pos).2) else false) else true
def nameP (s : ByteArray) : Bool := decide (1 ≤ s.size ∧ s.size ≤ 32) && validD s.data.toList && nm s s.size 0
theorem nm_on {s : ByteArray} {f pos : Nat} (hp : pos < s.size) (h : okR (decide (pos = 0)) (Utf8.decode s pos).1 = true) : nm s (f + 1) pos = nm s f (pos + (Utf8.decode s pos).2) := by simp [nm, hp, h]
theorem nm_bad {s : ByteArray} {f pos : Nat} (hp : pos < s.size) (h : okR (decide (pos = 0)) (Utf8.decode s pos).1 = false) : nm s (f + 1) pos = false := by simp [nm, hp, h]
theorem nm_end {s : ByteArray} {f pos : Nat} (hp : ¬ pos < s.size) : nm s f pos = true := by cases f <;> simp [nm, hp]
theorem ext_list (s : ByteArray) (a b : Nat) : (s.extract a b).data.toList = (s.data.toList.drop a).take (b - a) := by
  simp [ByteArray.data_extract, Array.toList_extract, List.extract_eq_take_drop]
theorem tail_list (s : ByteArray) (P : Nat) : (s.extract P s.size).data.toList = s.data.toList.drop P := by
  rw [ext_list]
  have h2 : s.data.toList.length = s.size := Array.length_toList
  rw [List.take_of_length_le (by rw [List.length_drop]; omega)]
end Go.Proofs.YtdajnmffoopcaaaDoor.RP
namespace Go.Proofs.YtdajnmffoopcaaaDoor.RW
set_option linter.unusedVariables false
set_option linter.unusedSimpArgs false
open Go.RowKit Go.Lib Go.Proofs.YtdajnmffoopcaaaDoorW.PrintWords Go.Proofs.YtdajnmffoopcaaaDoorW.PrintLast Go.Proofs.YtdajnmffoopcaaaDoorW.PrintMore Go.Proofs.YtdajnmffoopcaaaDoor.RP Go.Proofs.YtdajnmffoopcaaaDoor.PAll
def Tabs (w : World) : Prop := Lib.Utf8Tabs (Tryd.laysValid_ren.g 3) (Tryd.laysValid_ren.g 4) w
theorem ret_bool {a b : Bool} (h : a = b) : Ending.returned (.bool a) = .returned (.bool b) := by rw [h]
theorem below_iter {w w1 : World} (hb : Below w.heap.size w w1) (s : ByteArray) (p : Nat) : Below w.heap.size w (w1.iter s p) := hb.alloc hb.size _
/-- One step of the iterator in block k: a world that is as it was, but for that block. -/
theorem iter_step {P : Program} {w wr : World} {k : Nat} {s : ByteArray} {pos : Nat} (hk : wr.heap[k]? = some (.stringIter s pos)) (hp : pos < s.size) (hw : w.heap.size ≤ k) (hb : Below w.heap.size w wr) :
    ∃ W2 : World, (∀ ty, (Instr.next (.pointer (some ⟨k, 0, none⟩)) true ty).run P wr = .ok (.tuple #[.bool true, .int .i64 pos, .int .i32 (Utf8.decode s pos).1]) W2) ∧
      (∀ j, j ≠ k → W2.heap[j]? = wr.heap[j]?) ∧ W2.heap[k]? = some (.stringIter s (pos + (Utf8.decode s pos).2)) ∧ W2.heap.size = wr.heap.size ∧ Below w.heap.size w W2 :=
  ⟨wr.iterAt k s (pos + (Utf8.decode s pos).2), fun ty => run_next_any_at wr k s pos ty hk hp, fun j hj => iterAt_other wr k j s _ hj, iterAt_heap wr k s pos _ hk, iterAt_size wr k s _, below_iterAt hb hw s _⟩
theorem iter_new {w1 : World} (s : ByteArray) (p : Nat) : (w1.iter s p).heap[w1.heap.size]? = some (.stringIter s p) := by simp [World.iter_heap]
theorem class_any (r : Int) (w : World) : Calls Tryd.prog 71 #[.int .i32 r] w fun e w' => e = .returned (.int .i64 (classP r)) ∧ Drawn0 w w' :=
  runes_Class.calls 5 r _ w (class_eq 0 r)
theorem name_empty (s : ByteArray) (w : World) (h : s.toList = []) :
    Calls Tryd.prog 62 #[.string s] w fun e w' => e = .returned (.bool false) ∧ Below w.heap.size w w' := by
  have h2 : s.toList.isEmpty = true := by rw [h]; rfl
  go_enter Tryd.func62, Tryd.ntmps62
  go_wp2
  go_ret
  exact ⟨rfl, Below.refl _ _⟩
theorem name_long (s : ByteArray) (w : World) (hs : s.size ≤ 1000000) (h : s.toList.isEmpty = false) (h2 : 32 < (s.size : Int)) :
    Calls Tryd.prog 62 #[.string s] w fun e w' => e = .returned (.bool false) ∧ Below w.heap.size w w' := by
  go_enter Tryd.func62, Tryd.ntmps62
  go_wp2
  go_ret
  exact ⟨rfl, Below.refl _ _⟩
theorem name_text (s : ByteArray) (w : World) (hs : s.size ≤ 1000000) (hT : Tabs w) (h : s.toList.isEmpty = false) (h2 : (s.size : Int) ≤ 32) (hv : validD s.data.toList = false) :
    Calls Tryd.prog 62 #[.string s] w fun e w' => e = .returned (.bool false) ∧ Below w.heap.size w w' := by
  have cV := Any.utf8_ValidString Tryd.laysValid s w (by omega) hT
  rw [hv] at cV
  clear hv hT
  go_enter Tryd.func62, Tryd.ntmps62
  go_wp2_with (go_at_call 70; refine cV.mono ?_; rintro e w1 ⟨rfl, hb⟩)
  go_ret
  exact ⟨rfl, hb⟩
theorem ok1 {r : Int} {b : Bool} (h : (classP r == 1) = true) : okR b r = true := by
  unfold okR; simp only [beq_iff_eq] at h; simp [h]
theorem ok2 {r : Int} {pos : Nat} (h : (classP r == 2) = true) (h0 : ((pos : Int) == 0) = false) : okR (decide (pos = 0)) r = true := by
  have : ¬ pos = 0 := by simp only [beq_eq_false_iff_ne] at h0; omega
  unfold okR; simp only [beq_iff_eq] at h; simp [h, this]
theorem ok3 {r : Int} {pos : Nat} (h : ((pos : Int) == 0) = false ∧ (r != 39) = false) : okR (decide (pos = 0)) r = true := by
  have : ¬ pos = 0 := by have h0 := h.1; simp only [beq_eq_false_iff_ne] at h0; omega
  have h2 := h.2
  simp only [bne_eq_false_iff_eq] at h2
  unfold okR; simp [h2, this]
theorem no1 {r : Int} {pos : Nat} (c1 : (classP r == 1) = false) (c2 : (classP r == 2) = true) (h0 : ((pos : Int) == 0) = true) : okR (decide (pos = 0)) r = false := by
  have : pos = 0 := by simp only [beq_iff_eq] at h0; omega
  simp only [beq_eq_false_iff_ne] at c1
  unfold okR; simp [c1, this]
theorem no2 {r : Int} {pos : Nat} (c1 : (classP r == 1) = false) (c2 : (classP r == 2) = false) (h0 : pos = 0) : okR (decide (pos = 0)) r = false := by
  simp only [beq_eq_false_iff_ne] at c1
  unfold okR; simp [c1, h0]
theorem no3 {r : Int} {pos : Nat} (c1 : (classP r == 1) = false) (c2 : (classP r == 2) = false) (h : ((pos : Int) == 0) = true ∨ (r != 39) = true) : okR (decide (pos = 0)) r = false := by
  simp only [beq_eq_false_iff_ne] at c1 c2
  rcases h with h | h
  · have : pos = 0 := by simp only [beq_iff_eq] at h; omega
    unfold okR; simp [c1, this]
  · simp only [bne_iff_ne] at h
    unfold okR; simp [c1, c2, h]
theorem toList_eq (s : ByteArray) : s.toList = s.data.toList := by
  have h := ByteArray.toList_mk s.data.toList
  have e : (ByteArray.mk s.data.toList.toArray) = s := by cases s; simp
  rw [e] at h
  exact h
theorem toList_size (s : ByteArray) : s.toList.length = s.size := by
  rw [toList_eq]
  exact Array.length_toList
theorem name_ok (s : ByteArray) (w : World) (hs : s.size ≤ 1000000) (hT : Tabs w) (h : s.toList.isEmpty = false) (h2 : (s.size : Int) ≤ 32) (hv : validD s.data.toList = true) :
    Calls Tryd.prog 62 #[.string s] w fun e w' => e = .returned (.bool (nm s s.size 0)) ∧ Below w.heap.size w w' := by
  have cV := Any.utf8_ValidString Tryd.laysValid s w (by omega) hT
  rw [hv] at cV
  clear hv hT
  go_enter Tryd.func62, Tryd.ntmps62
  go_wp2_with (go_at_call 70; refine cV.mono ?_; rintro e w1 ⟨rfl, hb⟩)
  have HBs := Aside0.mk hb.size
  go_loopg [3] (s.size + 1) (fun gk v3 wr => ∃ (f pos : Nat), gk = f + 1 ∧ Aside0 (Below w.heap.size w wr) ∧ Aside0 (wr.heap[w1.heap.size]? = some (.stringIter s pos)) ∧ Aside0 (nm s f pos = nm s s.size 0 ∧ s.size ≤ pos + f))
  case atStart => exact ⟨s.size, 0, rfl, ⟨below_iter hb _ _⟩, ⟨iter_new s 0⟩, ⟨rfl, by omega⟩⟩
  case round =>
    obtain ⟨f, pos, rfl, HB, HI, HA⟩ := hrel
    by_cases hp : pos < s.size
    · obtain ⟨W2, hnx, hm, hi, hz, hb2⟩ := iter_step (P := Tryd.prog) HI.out hp HBs.out HB.out
      have HB2 := Aside0.mk hb2
      have HI2 := Aside0.mk hi
      clear hm hi hz hb2 HI HB
      have hwd := width_pos s pos
      obtain ⟨f, rfl⟩ : ∃ f', f = f' + 1 := ⟨f - 1, by have := HA.out.2; omega⟩
      go_wp2_with (go_at_call 71; refine (class_any _ _).mono ?_; rintro e w3 ⟨rfl, ⟨nd, rfl⟩⟩)
      all_goals first
        | (go_ret; exact ⟨ret_bool ((nm_bad hp (by first | exact no1 ‹_› ‹_› ‹_› | exact no2 ‹_› ‹_› ‹_› | exact no3 ‹_› ‹_› ‹_›)).symm.trans HA.out.1), by repeat (first | exact HB2.out | apply pw_below_drewN)⟩)
        | (go_roundg (f + 1)
           case measure => omega
           case rel => exact ⟨f, pos + (Utf8.decode s pos).2, rfl, ⟨by repeat (first | exact HB2.out | apply pw_below_drewN)⟩, ⟨HI2.out⟩, ⟨(nm_on hp (by first | exact ok1 ‹_› | exact ok2 ‹_› ‹_› | exact ok3 ‹_›)).symm.trans HA.out.1, by have := HA.out.2; omega⟩⟩)
    · have hnx : ∀ ty, (Instr.next (.pointer (some ⟨w1.heap.size, 0, none⟩)) true ty).run Tryd.prog wr = _ := fun ty => run_next_end_at wr _ s pos ty HI.out hp
      go_wp2
      go_ret
      exact ⟨ret_bool ((nm_end hp).symm.trans HA.out.1), HB.out⟩
theorem name_any (s : ByteArray) (w : World) (hs : s.size ≤ 1000000) (hT : Tabs w) :
    Calls Tryd.prog 62 #[.string s] w fun e w' => e = .returned (.bool (nameP s)) ∧ Below w.heap.size w w' := by
  have hz := toList_size s
  unfold nameP
  by_cases h0 : s.toList = []
  · rw [h0] at hz
    simp only [List.length_nil] at hz
    rw [decide_eq_false (by omega), Bool.false_and, Bool.false_and]
    exact name_empty s w h0
  · have he : s.toList.isEmpty = false := by simpa using h0
    have h1 : 0 < s.toList.length := List.length_pos_iff.2 h0
    by_cases h2 : 32 < (s.size : Int)
    · rw [decide_eq_false (by omega), Bool.false_and, Bool.false_and]
      exact name_long s w hs he h2
    · rw [decide_eq_true (by omega), Bool.true_and]
      cases hv : validD s.data.toList with
      | false => exact name_text s w hs hT he (by omega) hv
      | true => exact name_ok s w hs hT he (by omega) hv
end Go.Proofs.YtdajnmffoopcaaaDoor.RW
namespace Go.Proofs.YtdajnmffoopcaaaDoor.RP
set_option linter.unusedVariables false
set_option linter.unusedSimpArgs false
open Go.RowKit Go.Lib Go.Proofs.YtdajnmffoopcaaaDoorW.PrintWords Go.Proofs.YtdajnmffoopcaaaDoorW.PrintLast Go.Proofs.YtdajnmffoopcaaaDoorW.PrintMore
/-- A rune that may be written. -/
def goodR (r : Int) : Prop := 0 ≤ r ∧ r ≤ 1114111 ∧ (r < 55296 ∨ 57343 < r)
def Good (l : List Int) : Prop := ∀ r, r ∈ l → goodR r
/-- Runes of a text that may be read. -/
def TextL (l : List Int) : Prop := ∀ r, r ∈ l → goodR r ∧ ¬ badR r
theorem TextL.drop {l : List Int} (h : TextL l) (n : Nat) : TextL (l.drop n) := fun x hx => h x (List.mem_of_mem_drop hx)
theorem TextL.take {l : List Int} (h : TextL l) (n : Nat) : TextL (l.take n) := fun x hx => h x (List.mem_of_mem_take hx)
theorem Good.drop {l : List Int} (h : Good l) (n : Nat) : Good (l.drop n) := fun x hx => h x (List.mem_of_mem_drop hx)
theorem Good.take {l : List Int} (h : Good l) (n : Nat) : Good (l.take n) := fun x hx => h x (List.mem_of_mem_take hx)
theorem TextL.append {a b : List Int} (h : TextL a) (k : TextL b) : TextL (a ++ b) := fun x hx => by
  rcases List.mem_append.1 hx with hx | hx
  · exact h x hx
  · exact k x hx
theorem ba_ext {a b : ByteArray} (h : a.data.toList = b.data.toList) : a = b := by
  apply ByteArray.ext
  apply Array.ext'
  exact h
theorem ba_size (a : ByteArray) : a.data.toList.length = a.size := Array.length_toList
instance : DecidableEq ByteArray := fun a b => decidable_of_iff (a.data.toList = b.data.toList) ⟨ba_ext, fun h => by rw [h]⟩
instance (a : ByteArray) (l : List ByteArray) : Decidable (a ∈ l) := decidable_of_iff (l.any (fun x => decide (x = a)) = true) (by
  rw [List.any_eq_true]
  exact ⟨fun ⟨x, h, e⟩ => by rw [← of_decide_eq_true e]; exact h, fun h => ⟨a, h, decide_eq_true rfl⟩⟩)
end Go.Proofs.YtdajnmffoopcaaaDoor.RP
namespace Go.Proofs.YtdajnmffoopcaaaDoor.RP
set_option linter.unusedVariables false
set_option linter.unusedSimpArgs false
open Go.RowKit Go.Lib Go.Proofs.YtdajnmffoopcaaaDoorW.PrintWords Go.Proofs.YtdajnmffoopcaaaDoorW.PrintLast Go.Proofs.YtdajnmffoopcaaaDoorW.PrintMore Go.Proofs.YtdajnmffoopcaaaDoor.PAll
theorem toListB (s : ByteArray) : s.toList = s.data.toList := by
  have h := ByteArray.toList_mk s.data.toList
  have e : (ByteArray.mk s.data.toList.toArray) = s := by cases s; simp
  rw [e] at h
  exact h
theorem toListB_inj {a b : ByteArray} : a.toList = b.toList ↔ a = b := by
  rw [toListB, toListB]
  exact ⟨ba_ext, fun h => by rw [h]⟩
def wordsL : List ByteArray := (lexer_words.f).getD []
theorem wordsL_eq : lexer_words.f = some wordsL := rfl
def wordB (s : ByteArray) : Bool := decide (s ∈ wordsL)
theorem index_l0 (l : List ByteArray) (a : ByteArray) (hl : l.length ≤ 1000000) : ∀ (d i k : Nat), i ≤ l.length → l.length - i ≤ d → d + 1 ≤ k →
    ∃ z, slices_Index_string_string.l0 k l a (l.length : Int) (i : Int) = some z ∧ (0 ≤ z ↔ a ∈ l.drop i) := by
  intro d
  induction d with
  | zero =>
    intro i k h1 h2 hk
    obtain ⟨k, rfl⟩ : ∃ m, k = m + 1 := ⟨k - 1, by omega⟩
    simp only [slices_Index_string_string.l0]
    rw [if_neg (by omega), List.drop_eq_nil_of_le (by omega)]
    exact ⟨-1, rfl, by simp⟩
  | succ d ih =>
    intro i k h1 h2 hk
    obtain ⟨k, rfl⟩ : ∃ m, k = m + 1 := ⟨k - 1, by omega⟩
    simp only [slices_Index_string_string.l0]
    by_cases hi : i < l.length
    · have hd : l.drop i = rdOf ByteArray.empty l (i : Int) :: l.drop (i + 1) := by
        rw [List.drop_eq_getElem_cons hi]
        simp [rdOf, List.getD, hi]
      rw [if_pos (by omega), if_pos (by omega), if_pos (by omega), hd]
      by_cases he : a = rdOf ByteArray.empty l (i : Int)
      · rw [if_pos (toListB_inj.2 he)]
        exact ⟨_, rfl, ⟨fun _ => by rw [← he]; exact List.mem_cons_self, fun _ => by omega⟩⟩
      · rw [if_neg (fun h => he (toListB_inj.1 h)), w64s i (by omega)]
        obtain ⟨z, hz, hm⟩ := ih (i + 1) k (by omega) (by omega) (by omega)
        exact ⟨z, hz, hm.trans ⟨fun h => List.mem_cons_of_mem _ h, fun h => (List.mem_cons.1 h).resolve_left he⟩⟩
    · rw [if_neg (by omega), List.drop_eq_nil_of_le (by omega)]
      exact ⟨-1, rfl, by simp⟩
theorem contains_eq (l : List ByteArray) (a : ByteArray) (hl : l.length ≤ 1000000) : slices_Contains_string_string.f (l.length + 1) l a = some (decide (a ∈ l)) := by
  unfold slices_Contains_string_string.f slices_Index_string_string.f
  obtain ⟨z, hz, hm⟩ := index_l0 l a hl l.length 0 (l.length + 1) (by omega) (by omega) (by omega)
  have e : (((0 : Nat)) : Int) = 0 := rfl
  rw [e] at hz
  rw [hz]
  simp only [Option.bind_some, List.drop_zero] at hm ⊢
  rw [decide_eq_decide.2 hm]
theorem word_eq (s : ByteArray) : lexer_Word.f (wordsL.length + 1) s = some (wordB s) := by
  unfold lexer_Word.f
  rw [wordsL_eq]
  simp only [Option.bind_some]
  rw [contains_eq wordsL s (by decide)]
  rfl
def nameB (w : ByteArray) : Bool := nameP w && !wordB w
end Go.Proofs.YtdajnmffoopcaaaDoor.RP
namespace Go.Proofs.YtdajnmffoopcaaaDoor.RP
set_option linter.unusedVariables false
set_option linter.unusedSimpArgs false
open Go.RowKit Go.Lib Go.Proofs.YtdajnmffoopcaaaDoorW.PrintWords Go.Proofs.YtdajnmffoopcaaaDoorW.PrintLast Go.Proofs.YtdajnmffoopcaaaDoorW.PrintMore Go.Proofs.YtdajnmffoopcaaaDoor.RP Go.Proofs.YtdajnmffoopcaaaDoor.RW Go.Proofs.YtdajnmffoopcaaaDoor.PAll
def consHead (b : UInt8) : List (List UInt8) → List (List UInt8)
  | [] => [[b]]
  | p :: r => (b :: p) :: r
def pcs : List UInt8 → List (List UInt8)
  | [] => [[]]
  | b :: t => if b = 46 then [] :: pcs t else consHead b (pcs t)
theorem pcs_ne (l : List UInt8) : pcs l ≠ [] := by
  cases l with
  | nil => simp [pcs]
  | cons b t =>
    rw [pcs]
    split
    · simp
    · cases pcs t <;> simp [consHead]
theorem pcs_app : ∀ (a c : List UInt8), pcs (a ++ 46 :: c) = pcs a ++ pcs c
  | [], c => rfl
  | b :: a, c => by
    rw [List.cons_append, pcs, pcs, pcs_app a c]
    split
    · rfl
    · cases hp : pcs a with
      | nil => exact absurd hp (pcs_ne a)
      | cons x r => rfl
theorem pcs_none : ∀ (a : List UInt8), (46 : UInt8) ∉ a → pcs a = [a]
  | [], _ => rfl
  | b :: a, h => by
    rw [pcs, if_neg (fun e => h (by rw [e]; exact List.mem_cons_self)), pcs_none a (fun hm => h (List.mem_cons_of_mem _ hm))]
    rfl
def mkB (l : List UInt8) : ByteArray := ⟨l.toArray⟩
theorem mkB_self (s : ByteArray) : mkB s.data.toList = s := by cases s; simp [mkB]
theorem mkB_size (l : List UInt8) : (mkB l).size = l.length := by rw [← ba_size]; rfl
def pcsB (s : ByteArray) : List ByteArray := (pcs s.data.toList).map mkB
abbrev dotB : ByteArray := ⟨#[46]⟩
theorem index_dot (s : ByteArray) : indexB s dotB = indexByte s.data.toList 46 := by
  have := one s dotB rfl
  exact this
theorem split_eq : ∀ (n : Nat) (s : ByteArray), s.size ≤ n → Lib.splitB dotB 0 (Lib.countB s dotB) s = pcsB s := by
  intro n
  induction n with
  | zero =>
    intro s hs
    rcases indexB_cases s dotB with h | ⟨i, h1, h2⟩
    · rw [splitB_miss _ _ _ _ h]
      have hn : (46 : UInt8) ∉ s.data.toList := fun hm => by
        obtain ⟨k, hk⟩ := List.getElem?_of_mem hm
        exact indexByte_none (by rw [← index_dot]; exact h) k hk
      unfold pcsB
      rw [pcs_none _ hn]; simp [mkB_self]
    · exfalso
      have : dotB.size = 1 := rfl
      omega
  | succ n ih =>
    intro s hs
    rcases indexB_cases s dotB with h | ⟨i, h1, h2⟩
    · rw [splitB_miss _ _ _ _ h]
      have hn : (46 : UInt8) ∉ s.data.toList := fun hm => by
        obtain ⟨k, hk⟩ := List.getElem?_of_mem hm
        exact indexByte_none (by rw [← index_dot]; exact h) k hk
      unfold pcsB
      rw [pcs_none _ hn]; simp [mkB_self]
    · have hd : dotB.size = 1 := rfl
      rw [countB_hit s dotB i (by omega) h1, show 1 + Lib.countB (s.extract (i + dotB.size) s.size) dotB = Lib.countB (s.extract (i + dotB.size) s.size) dotB + 1 by omega, splitB_hit _ _ _ _ i h1, hd]
      rw [ih (s.extract (i + 1) s.size) (by rw [ByteArray.size_extract]; omega)]
      obtain ⟨g1, g2⟩ := indexByte_some (l := s.data.toList) (c := 46) (o := i) (by rw [← index_dot]; exact h1)
      have hlt : i < s.data.toList.length := (List.getElem?_eq_some_iff.1 g1).1
      have e : s.data.toList = s.data.toList.take i ++ 46 :: s.data.toList.drop (i + 1) := by
        conv => lhs; rw [← List.take_append_drop i s.data.toList]
        rw [List.drop_eq_getElem_cons hlt]
        have : s.data.toList[i] = 46 := by rw [List.getElem?_eq_getElem hlt] at g1; exact Option.some.inj g1
        rw [this]
      have hn : (46 : UInt8) ∉ s.data.toList.take i := fun hm => by
        obtain ⟨k, hk⟩ := List.getElem?_of_mem hm
        have hki : k < i := by have := (List.getElem?_eq_some_iff.1 hk).1; rw [List.length_take] at this; omega
        rw [List.getElem?_take_of_lt hki] at hk
        exact g2 k hki hk
      unfold pcsB
      conv => rhs; rw [e, pcs_app, pcs_none _ hn]
      rw [List.map_append, List.map_singleton, List.singleton_append, Nat.add_zero]
      congr 1
      · apply ba_ext; rw [ext_list]; simp [mkB]
      · rw [tail_list]
def longP (s : ByteArray) : Bool := decide (s.size ≤ 128) && (pcsB s).all nameB
def splitP (s : ByteArray) : List ByteArray := if longP s = true then pcsB s else []
end Go.Proofs.YtdajnmffoopcaaaDoor.RP
namespace Go.Proofs.YtdajnmffoopcaaaDoor.Ab
set_option linter.unusedVariables false
set_option linter.unusedSimpArgs false
open Go.RowKit Go.Lib Go.Proofs.YtdajnmffoopcaaaDoorW.PrintWords Go.Proofs.YtdajnmffoopcaaaDoorW.PrintLast Go.Proofs.YtdajnmffoopcaaaDoorW.PrintMore Go.Proofs.YtdajnmffoopcaaaDoor.RP Go.Proofs.YtdajnmffoopcaaaDoor.RW Go.Proofs.YtdajnmffoopcaaaDoor.PAll
theorem acalls_lits {P : Program} {f : FuncId} {l : List Value} {r : Value} (he : Enters P f) (h1 : r.oneCell' = true)
    (h : ∀ w M, Amb w M → Calls P f l.toArray w fun e w' => e = .returned r ∧ Below w.heap.size w w') : ACalls P f (l.map fun v => .imm (.lit v)) [] (.imm (.lit r)) [] := by
  have := acalls_of (P := P) (f := f) (args := l.map .lit) (r := .lit r) he (fun w M vs ha hv => by
    rw [repL_lits_eq hv]
    exact (h w M ha).mono fun e w' ⟨h2, h3⟩ => ⟨r, h2, h3, rep_mk_lit h1⟩)
  rw [List.map_map] at this
  exact this
theorem amb_tabs {w : World} {M : Nat → Prop} (h : Amb w M) : Tabs w := h.tabs
theorem word_a (s : ByteArray) : ACalls Tryd.prog 63 [.imm (.lit (.string s))] [] (.imm (.lit (.bool (wordB s)))) [] :=
  acalls_lits (l := [.string s]) ⟨_, Tryd.func63, rfl, rfl⟩ rfl (fun w M ha => lexer_Word.calls _ s _ w (word_eq s))
end Go.Proofs.YtdajnmffoopcaaaDoor.Ab
namespace Go.Proofs.YtdajnmffoopcaaaDoor.Ab
set_option linter.unusedVariables false
set_option linter.unusedSimpArgs false
open Go.RowKit Go.Lib Go.Proofs.YtdajnmffoopcaaaDoorW.PrintWords Go.Proofs.YtdajnmffoopcaaaDoorW.PrintLast Go.Proofs.YtdajnmffoopcaaaDoorW.PrintMore Go.Proofs.YtdajnmffoopcaaaDoor.RP Go.Proofs.YtdajnmffoopcaaaDoor.RW Go.Proofs.YtdajnmffoopcaaaDoor.PAll
attribute [local irreducible] AWP AOps AExit AThen ABlock ANoGoto FeetOk
theorem strs_get (l : List ByteArray) (j : Nat) (h : j < l.length) : (strs l)[j * 1]? = some (.lit (.string l[j])) := by unfold strs; simp [h]
end Go.Proofs.YtdajnmffoopcaaaDoor.Ab
namespace Go.Proofs.YtdajnmffoopcaaaDoor.Ab
set_option linter.unusedVariables false
set_option linter.unusedSimpArgs false
open Go.RowKit Go.Lib Go.Proofs.YtdajnmffoopcaaaDoorW.PrintWords Go.Proofs.YtdajnmffoopcaaaDoorW.PrintLast Go.Proofs.YtdajnmffoopcaaaDoorW.PrintMore Go.Proofs.YtdajnmffoopcaaaDoor.RP Go.Proofs.YtdajnmffoopcaaaDoor.RW Go.Proofs.YtdajnmffoopcaaaDoor.PAll
theorem runesName_a (s : ByteArray) (hs : s.size ≤ 1000000) : ACalls Tryd.prog 62 [.imm (.lit (.string s))] [] (.imm (.lit (.bool (nameP s)))) [] :=
  acalls_lits (l := [.string s]) ⟨_, Tryd.func62, rfl, rfl⟩ rfl (fun w M ha => name_any s w hs (amb_tabs ha))
theorem pcs_len : ∀ l : List UInt8, (pcs l).length ≤ l.length + 1
  | [] => Nat.le_refl _
  | b :: t => by
    have := pcs_len t
    rw [pcs]
    split
    · simp only [List.length_cons]; omega
    · cases hp : pcs t with
      | nil => simp [consHead]
      | cons x r => rw [hp] at this; simp only [consHead, List.length_cons] at this ⊢; omega
theorem pcsB_len (s : ByteArray) : (pcsB s).length ≤ s.size + 1 := by
  unfold pcsB; rw [List.length_map, ← ba_size]; exact pcs_len _
theorem split_a (s : ByteArray) (hs : s.size ≤ 1000000) : ACalls Tryd.prog 47 [.imm (.lit (.string s)), .imm (.lit (.string dotB))] [] (.imm (.sl false (pcsB s).length (strs (pcsB s)))) [] :=
  acalls_of (args := [.lit (.string s), .lit (.string dotB)]) (r := .sl false (pcsB s).length (strs (pcsB s))) ⟨_, Tryd.func47, rfl, rfl⟩ (fun w M vs ha hv => by
    obtain ⟨v, us, rfl, h1, h2⟩ := repL_cons hv
    obtain ⟨v2, us, rfl, h3, h4⟩ := repL_cons h2
    rw [rep_lit h1, rep_lit h3, repL_nil h4]
    obtain ⟨m, hm⟩ := ha.most
    have hl := pcsB_len s
    have hc : Lib.countB s dotB + 1 = (pcsB s).length := by
      rw [← split_eq s.size s (Nat.le_refl _), splitB_all dotB (by decide) 0 _ s rfl]
    refine (Tryd.strings_Split s dotB m w (by omega) hm (by decide)).mono fun e w' ⟨he, hw⟩ => ⟨_, he, ?_, ?_⟩
    · rw [hw]; exact below_alloc _
    · rw [hc, split_eq s.size s (Nat.le_refl _)] at *
      subst hw
      exact rep_new_strs (cells := ((pcsB s).map Value.string).toArray) (T := 9) (fz := (0, 0)) (by show (w.heap.push _)[w.heap.size]? = _; simp) (Nat.le_refl _) (by rw [List.take_of_length_le (by simp)]) (Nat.le_refl _) (by unfold slMax; omega))
end Go.Proofs.YtdajnmffoopcaaaDoor.Ab
namespace Go.Proofs.YtdajnmffoopcaaaDoor.Ab
set_option linter.unusedVariables false
set_option linter.unusedSimpArgs false
open Go.RowKit Go.Lib Go.Proofs.YtdajnmffoopcaaaDoorW.PrintWords Go.Proofs.YtdajnmffoopcaaaDoorW.PrintLast Go.Proofs.YtdajnmffoopcaaaDoorW.PrintMore Go.Proofs.YtdajnmffoopcaaaDoor.RP Go.Proofs.YtdajnmffoopcaaaDoor.RW Go.Proofs.YtdajnmffoopcaaaDoor.PAll
attribute [local irreducible] AWP AOps AExit AThen ABlock ANoGoto FeetOk
set_option maxHeartbeats 4000000 in
set_option maxRecDepth 10000 in
theorem nCheck_a (s : ByteArray) (hs : s.size ≤ 1000000) : ACalls Tryd.prog 45 [.imm (.lit (.string s))] [] (.imm (.lit (.bool (nameB s)))) [] := by
  have c1 := runesName_a s hs
  have c2 := word_a s
  unfold nameB
  refine acalls_plain Tryd.func45 rfl rfl (Nat.le_of_ble_eq_true rfl) rfl ?_
  repeat' (first | refine aops_nil ?_ | (refine aops_one ?_; first | refine aops_quiet tabOk rfl rfl rfl (Nat.le_of_ble_eq_true rfl) rfl ?_ | refine aops_skip rfl rfl (Nat.le_of_ble_eq_true rfl) ?_ | (refine aops_cmp rfl rfl rfl (Nat.le_of_ble_eq_true rfl) rfl rfl rfl (fun hq => ?_) (fun hq => ?_) <;> (first | (simp only [decide_eq_true_eq, decide_eq_false_iff_not, beq_iff_eq, beq_eq_false_iff_ne, bne_iff_ne, bne_eq_false_iff_eq, Bool.not_eq_true', Bool.not_eq_false'] at hq; first | (exfalso; omega) | skip) | skip))| (refine aops_callq rfl rfl rfl (Nat.le_of_ble_eq_true rfl) rfl rfl rfl (c1) (fun hq => ?_) (fun hq => ?_)) | (refine aops_callq rfl rfl rfl (Nat.le_of_ble_eq_true rfl) rfl rfl rfl (c2) (fun hq => ?_) (fun hq => ?_)) | refine aops_inc rfl rfl rfl (Nat.le_of_ble_eq_true rfl) rfl rfl (by omega) ?_ | refine aops_add rfl rfl rfl (Nat.le_of_ble_eq_true rfl) rfl rfl rfl (by omega) (by omega) ?_ | refine aops_sub rfl rfl rfl (Nat.le_of_ble_eq_true rfl) rfl rfl rfl (by omega) (by omega) ?_ | refine aops_list tabOk rfl rfl rfl (Nat.le_of_ble_eq_true rfl) rfl rfl rfl rfl rfl rfl rfl rfl rfl ?_ | refine aops_pure tabOk rfl rfl (Nat.le_of_ble_eq_true rfl) rfl ?_ | refine aops_alloc tabOk rfl rfl rfl (Nat.le_of_ble_eq_true rfl) rfl rfl rfl rfl rfl rfl ?_ | refine aops_loadm tabOk rfl rfl rfl (Nat.le_of_ble_eq_true rfl) rfl rfl rfl rfl ?_ | refine aops_storem tabOk rfl rfl rfl rfl rfl rfl rfl rfl rfl rfl rfl ?_ | refine aops_index tabOk rfl rfl rfl (Nat.le_of_ble_eq_true rfl) rfl rfl rfl rfl (by first | assumption | omega) ?_ | refine aops_index0 tabOk rfl rfl rfl (Nat.le_of_ble_eq_true rfl) rfl rfl rfl rfl (by first | rfl | omega) (by first | omega | simp) ?_ | refine aops_load1 tabOk rfl rfl rfl (Nat.le_of_ble_eq_true rfl) rfl rfl rfl (by assumption) ?_ | refine aops_load1 tabOk rfl rfl rfl (Nat.le_of_ble_eq_true rfl) rfl rfl rfl (ivs_get _ _ (by first | assumption | omega)) ?_ | refine aops_inc rfl rfl rfl (Nat.le_of_ble_eq_true rfl) rfl rfl (by omega) ?_ | ((fail_if_success (refine aops_lit (b := true) rfl rfl rfl ?_)); (fail_if_success (refine aops_lit (b := false) rfl rfl rfl ?_)); refine aops_guard rfl rfl rfl (fun hq => ?_) (fun hq => ?_) <;> first | subst hq | (first | (simp only [decide_eq_true_eq, decide_eq_false_iff_not, beq_iff_eq, beq_eq_false_iff_ne, bne_iff_ne, bne_eq_false_iff_eq, Bool.not_eq_true', Bool.not_eq_false'] at hq; first | (exfalso; omega) | skip) | skip)) | fail) | (refine awp_one ?_; first | refine awp_sreg ?_ | refine awp_seq ?_ | refine awp_region ?_ | refine awp_block ?_ | refine awp_ret ?_ | refine awp_exit ?_ | refine awp_skip ?_ | refine awp_cond (b := true) rfl (fun _ => ?_) (fun h => Bool.noConfusion h) | refine awp_cond (b := false) rfl (fun h => Bool.noConfusion h) (fun _ => ?_) | refine awp_scope ?_ | refine awp_label ?_ | refine awp_sdraw mixed (by kernel_rfl) ?_ | refine awp_region_draw mixed (by kernel_rfl) ?_ | (refine awp_cond rfl (fun hq => ?_) (fun hq => ?_) <;> first | subst hq | (first | (simp only [decide_eq_true_eq, decide_eq_false_iff_not, beq_iff_eq, beq_eq_false_iff_ne, bne_iff_ne, bne_eq_false_iff_eq, Bool.not_eq_true', Bool.not_eq_false'] at hq; first | (exfalso; omega) | skip) | skip)) | fail) | (refine then_one ?_; first | refine q_then ?_ | refine q_then_exit ?_ | refine q_then_ret ?_ | fail) | (refine block_one ?_; first | refine q_block ?_ | refine q_block_exit ?_ | refine q_block_pass (by decide) ?_ | refine q_block_ret ?_ | fail) | refine feet_one (feetOk_of (by kernel_rfl)) ?_ | fail)
  all_goals (refine aexit_eq (by first | exact .inl rfl | exact .inr rfl) (results_1 rfl (resOk_tmp rfl)) rfl ?_; refine bool_eq ?_; simp_all)
set_option maxHeartbeats 4000000 in
set_option maxRecDepth 10000 in
theorem nBad_a (s : ByteArray) (hs : s.size ≤ 1000000) : ACalls Tryd.prog 44 [.imm (.lit (.string s))] [] (.imm (.lit (.bool (!nameB s)))) [] := by
  have c1 := nCheck_a s hs
  refine acalls_plain Tryd.func44 rfl rfl (Nat.le_of_ble_eq_true rfl) rfl ?_
  repeat' (first | refine aops_nil ?_ | (refine aops_one ?_; first | refine aops_quiet tabOk rfl rfl rfl (Nat.le_of_ble_eq_true rfl) rfl ?_ | refine aops_skip rfl rfl (Nat.le_of_ble_eq_true rfl) ?_ | (refine aops_cmp rfl rfl rfl (Nat.le_of_ble_eq_true rfl) rfl rfl rfl (fun hq => ?_) (fun hq => ?_) <;> (first | (simp only [decide_eq_true_eq, decide_eq_false_iff_not, beq_iff_eq, beq_eq_false_iff_ne, bne_iff_ne, bne_eq_false_iff_eq, Bool.not_eq_true', Bool.not_eq_false'] at hq; first | (exfalso; omega) | skip) | skip))| (refine aops_callq rfl rfl rfl (Nat.le_of_ble_eq_true rfl) rfl rfl rfl (c1) (fun hq => ?_) (fun hq => ?_)) | refine aops_inc rfl rfl rfl (Nat.le_of_ble_eq_true rfl) rfl rfl (by omega) ?_ | refine aops_add rfl rfl rfl (Nat.le_of_ble_eq_true rfl) rfl rfl rfl (by omega) (by omega) ?_ | refine aops_sub rfl rfl rfl (Nat.le_of_ble_eq_true rfl) rfl rfl rfl (by omega) (by omega) ?_ | refine aops_list tabOk rfl rfl rfl (Nat.le_of_ble_eq_true rfl) rfl rfl rfl rfl rfl rfl rfl rfl rfl ?_ | refine aops_pure tabOk rfl rfl (Nat.le_of_ble_eq_true rfl) rfl ?_ | refine aops_alloc tabOk rfl rfl rfl (Nat.le_of_ble_eq_true rfl) rfl rfl rfl rfl rfl rfl ?_ | refine aops_loadm tabOk rfl rfl rfl (Nat.le_of_ble_eq_true rfl) rfl rfl rfl rfl ?_ | refine aops_storem tabOk rfl rfl rfl rfl rfl rfl rfl rfl rfl rfl rfl ?_ | refine aops_index tabOk rfl rfl rfl (Nat.le_of_ble_eq_true rfl) rfl rfl rfl rfl (by first | assumption | omega) ?_ | refine aops_index0 tabOk rfl rfl rfl (Nat.le_of_ble_eq_true rfl) rfl rfl rfl rfl (by first | rfl | omega) (by first | omega | simp) ?_ | refine aops_load1 tabOk rfl rfl rfl (Nat.le_of_ble_eq_true rfl) rfl rfl rfl (by assumption) ?_ | refine aops_load1 tabOk rfl rfl rfl (Nat.le_of_ble_eq_true rfl) rfl rfl rfl (ivs_get _ _ (by first | assumption | omega)) ?_ | refine aops_inc rfl rfl rfl (Nat.le_of_ble_eq_true rfl) rfl rfl (by omega) ?_ | ((fail_if_success (refine aops_lit (b := true) rfl rfl rfl ?_)); (fail_if_success (refine aops_lit (b := false) rfl rfl rfl ?_)); refine aops_guard rfl rfl rfl (fun hq => ?_) (fun hq => ?_) <;> first | subst hq | (first | (simp only [decide_eq_true_eq, decide_eq_false_iff_not, beq_iff_eq, beq_eq_false_iff_ne, bne_iff_ne, bne_eq_false_iff_eq, Bool.not_eq_true', Bool.not_eq_false'] at hq; first | (exfalso; omega) | skip) | skip)) | fail) | (refine awp_one ?_; first | refine awp_sreg ?_ | refine awp_seq ?_ | refine awp_region ?_ | refine awp_block ?_ | refine awp_ret ?_ | refine awp_exit ?_ | refine awp_skip ?_ | refine awp_cond (b := true) rfl (fun _ => ?_) (fun h => Bool.noConfusion h) | refine awp_cond (b := false) rfl (fun h => Bool.noConfusion h) (fun _ => ?_) | refine awp_scope ?_ | refine awp_label ?_ | refine awp_sdraw mixed (by kernel_rfl) ?_ | refine awp_region_draw mixed (by kernel_rfl) ?_ | (refine awp_cond rfl (fun hq => ?_) (fun hq => ?_) <;> first | subst hq | (first | (simp only [decide_eq_true_eq, decide_eq_false_iff_not, beq_iff_eq, beq_eq_false_iff_ne, bne_iff_ne, bne_eq_false_iff_eq, Bool.not_eq_true', Bool.not_eq_false'] at hq; first | (exfalso; omega) | skip) | skip)) | fail) | (refine then_one ?_; first | refine q_then ?_ | refine q_then_exit ?_ | refine q_then_ret ?_ | fail) | (refine block_one ?_; first | refine q_block ?_ | refine q_block_exit ?_ | refine q_block_pass (by decide) ?_ | refine q_block_ret ?_ | fail) | refine feet_one (feetOk_of (by kernel_rfl)) ?_ | fail)
  all_goals (refine aexit_eq (by first | exact .inl rfl | exact .inr rfl) (results_1 rfl (resOk_tmp rfl)) rfl ?_; refine bool_eq ?_; simp_all)
set_option maxHeartbeats 4000000 in
set_option maxRecDepth 10000 in
theorem indexFunc_a (b : Bool) (l : List ByteArray) (f : FuncId) (R : ByteArray → Bool) (hl : l.length ≤ 1000000)
    (hf : ∀ i (hi : i < l.length), ACalls Tryd.prog f [.imm (.lit (.string l[i]))] [] (.imm (.lit (.bool (R l[i])))) []) :
    ∃ r : Int, (0 ≤ r ↔ l.any R = true) ∧ ACalls Tryd.prog 64 [.imm (.sl b l.length (strs l)), .imm (.func f [] [])] [] (.imm (.lit (.int .i64 r))) [] := by
  have hex : (∃ j, ∃ hj : j < l.length, R l[j] = true ∧ ∀ i (hi : i < l.length), i < j → R l[i] = false) ∨ (∀ i (hi : i < l.length), R l[i] = false) := by
    clear hf
    induction l with
    | nil => exact .inr (fun i hi => by simp at hi)
    | cons x l ih =>
      cases hx : R x with
      | true => exact .inl ⟨0, by simp, hx, fun i hi h => by omega⟩
      | false =>
        rcases ih (by simp at hl; omega) with ⟨j, hj, h1, h2⟩ | h
        · refine .inl ⟨j + 1, by simp; omega, by simpa using h1, fun i hi h => ?_⟩
          cases i with
          | zero => simpa using hx
          | succ i => simpa using h2 i (by simpa using hi) (by omega)
        · refine .inr fun i hi => ?_
          cases i with
          | zero => simpa using hx
          | succ i => simpa using h i (by simpa using hi)
  have walk : ∀ (z : Nat), z ≤ l.length → (∀ i (hi : i < l.length), i < z → R l[i] = false) → (∀ hz : z < l.length, R l[z] = true) →
      ACalls Tryd.prog 64 [.imm (.sl b l.length (strs l)), .imm (.func f [] [])] [] (.imm (.lit (.int .i64 (if z < l.length then (z : Int) else -1)))) [] := by
    intro z hz hno hyes
    refine acalls_plain Tryd.func64 rfl rfl (Nat.le_of_ble_eq_true rfl) rfl ?_
    repeat' (first | refine aops_nil ?_ | (refine aops_one ?_; first | refine aops_quiet tabOk rfl rfl rfl (Nat.le_of_ble_eq_true rfl) rfl ?_ | refine aops_skip rfl rfl (Nat.le_of_ble_eq_true rfl) ?_ | (refine aops_cmp rfl rfl rfl (Nat.le_of_ble_eq_true rfl) rfl rfl rfl (fun hq => ?_) (fun hq => ?_) <;> (first | (simp only [decide_eq_true_eq, decide_eq_false_iff_not, beq_iff_eq, beq_eq_false_iff_ne, bne_iff_ne, bne_eq_false_iff_eq, Bool.not_eq_true', Bool.not_eq_false'] at hq; first | (exfalso; omega) | skip) | skip)) | refine aops_inc rfl rfl rfl (Nat.le_of_ble_eq_true rfl) rfl rfl (by omega) ?_ | refine aops_add rfl rfl rfl (Nat.le_of_ble_eq_true rfl) rfl rfl rfl (by omega) (by omega) ?_ | refine aops_sub rfl rfl rfl (Nat.le_of_ble_eq_true rfl) rfl rfl rfl (by omega) (by omega) ?_ | refine aops_list tabOk rfl rfl rfl (Nat.le_of_ble_eq_true rfl) rfl rfl rfl rfl rfl rfl rfl rfl rfl ?_ | refine aops_pure tabOk rfl rfl (Nat.le_of_ble_eq_true rfl) rfl ?_ | refine aops_alloc tabOk rfl rfl rfl (Nat.le_of_ble_eq_true rfl) rfl rfl rfl rfl rfl rfl ?_ | refine aops_loadm tabOk rfl rfl rfl (Nat.le_of_ble_eq_true rfl) rfl rfl rfl rfl ?_ | refine aops_storem tabOk rfl rfl rfl rfl rfl rfl rfl rfl rfl rfl rfl ?_ | refine aops_index tabOk rfl rfl rfl (Nat.le_of_ble_eq_true rfl) rfl rfl rfl rfl (by first | assumption | omega) ?_ | refine aops_index0 tabOk rfl rfl rfl (Nat.le_of_ble_eq_true rfl) rfl rfl rfl rfl (by first | rfl | omega) (by first | omega | simp) ?_ | refine aops_load1 tabOk rfl rfl rfl (Nat.le_of_ble_eq_true rfl) rfl rfl rfl (by assumption) ?_ | refine aops_load1 tabOk rfl rfl rfl (Nat.le_of_ble_eq_true rfl) rfl rfl rfl (ivs_get _ _ (by first | assumption | omega)) ?_ | refine aops_inc rfl rfl rfl (Nat.le_of_ble_eq_true rfl) rfl rfl (by omega) ?_ | ((fail_if_success (refine aops_lit (b := true) rfl rfl rfl ?_)); (fail_if_success (refine aops_lit (b := false) rfl rfl rfl ?_)); refine aops_guard rfl rfl rfl (fun hq => ?_) (fun hq => ?_) <;> first | subst hq | (first | (simp only [decide_eq_true_eq, decide_eq_false_iff_not, beq_iff_eq, beq_eq_false_iff_ne, bne_iff_ne, bne_eq_false_iff_eq, Bool.not_eq_true', Bool.not_eq_false'] at hq; first | (exfalso; omega) | skip) | skip)) | fail) | (refine awp_one ?_; first | refine awp_sreg ?_ | refine awp_seq ?_ | refine awp_region ?_ | refine awp_block ?_ | refine awp_ret ?_ | refine awp_exit ?_ | refine awp_skip ?_ | refine awp_cond (b := true) rfl (fun _ => ?_) (fun h => Bool.noConfusion h) | refine awp_cond (b := false) rfl (fun h => Bool.noConfusion h) (fun _ => ?_) | refine awp_scope ?_ | refine awp_label ?_ | refine awp_sdraw mixed (by kernel_rfl) ?_ | refine awp_region_draw mixed (by kernel_rfl) ?_ | (refine awp_cond rfl (fun hq => ?_) (fun hq => ?_) <;> first | subst hq | (first | (simp only [decide_eq_true_eq, decide_eq_false_iff_not, beq_iff_eq, beq_eq_false_iff_ne, bne_iff_ne, bne_eq_false_iff_eq, Bool.not_eq_true', Bool.not_eq_false'] at hq; first | (exfalso; omega) | skip) | skip)) | fail) | (refine then_one ?_; first | refine q_then ?_ | refine q_then_exit ?_ | refine q_then_ret ?_ | fail) | (refine block_one ?_; first | refine q_block ?_ | refine q_block_exit ?_ | refine q_block_pass (by decide) ?_ | refine q_block_ret ?_ | fail) | refine feet_one (feetOk_of (by kernel_rfl)) ?_ | fail)
    refine awp_loop (ι := {j : Nat // j ≤ z}) (fun j => S.f ⟨[(8, .imm (.lit (.int .i64 (j.1 : Int)))), (7, .imm (.lit (.int .i64 (l.length : Int)))), (0, .imm (.sl b l.length (strs l))), (1, .imm (.func f [] []))], []⟩) (fun j => l.length - j.1) ⟨0, Nat.zero_le _⟩ (le_of (by repeat' first | exact trivial | refine ⟨rfl, ?_⟩) (by repeat' first | exact trivial | refine ⟨rfl, ?_⟩)) ?_
    rintro ⟨j, hj⟩
    dsimp only
    by_cases hlt : j < l.length
    · have c := hf j hlt
      by_cases hjz : j < z
      · rw [hno j hlt hjz] at c
        repeat' (first | refine aops_nil ?_ | (refine aops_one ?_; first | refine aops_quiet tabOk rfl rfl rfl (Nat.le_of_ble_eq_true rfl) rfl ?_ | refine aops_skip rfl rfl (Nat.le_of_ble_eq_true rfl) ?_ | (refine aops_cmp rfl rfl rfl (Nat.le_of_ble_eq_true rfl) rfl rfl rfl (fun hq => ?_) (fun hq => ?_) <;> (first | (simp only [decide_eq_true_eq, decide_eq_false_iff_not, beq_iff_eq, beq_eq_false_iff_ne, bne_iff_ne, bne_eq_false_iff_eq, Bool.not_eq_true', Bool.not_eq_false'] at hq; first | (exfalso; omega) | skip) | skip))| refine aops_load1 tabOk rfl rfl rfl (Nat.le_of_ble_eq_true rfl) rfl rfl rfl (strs_get l j hlt) ?_ | refine aops_call rfl rfl (Nat.le_of_ble_eq_true rfl) rfl rfl rfl rfl (c) ?_ | refine aops_inc rfl rfl rfl (Nat.le_of_ble_eq_true rfl) rfl rfl (by omega) ?_ | refine aops_add rfl rfl rfl (Nat.le_of_ble_eq_true rfl) rfl rfl rfl (by omega) (by omega) ?_ | refine aops_sub rfl rfl rfl (Nat.le_of_ble_eq_true rfl) rfl rfl rfl (by omega) (by omega) ?_ | refine aops_list tabOk rfl rfl rfl (Nat.le_of_ble_eq_true rfl) rfl rfl rfl rfl rfl rfl rfl rfl rfl ?_ | refine aops_pure tabOk rfl rfl (Nat.le_of_ble_eq_true rfl) rfl ?_ | refine aops_alloc tabOk rfl rfl rfl (Nat.le_of_ble_eq_true rfl) rfl rfl rfl rfl rfl rfl ?_ | refine aops_loadm tabOk rfl rfl rfl (Nat.le_of_ble_eq_true rfl) rfl rfl rfl rfl ?_ | refine aops_storem tabOk rfl rfl rfl rfl rfl rfl rfl rfl rfl rfl rfl ?_ | refine aops_index tabOk rfl rfl rfl (Nat.le_of_ble_eq_true rfl) rfl rfl rfl rfl (by first | assumption | omega) ?_ | refine aops_index0 tabOk rfl rfl rfl (Nat.le_of_ble_eq_true rfl) rfl rfl rfl rfl (by first | rfl | omega) (by first | omega | simp) ?_ | refine aops_load1 tabOk rfl rfl rfl (Nat.le_of_ble_eq_true rfl) rfl rfl rfl (by assumption) ?_ | refine aops_load1 tabOk rfl rfl rfl (Nat.le_of_ble_eq_true rfl) rfl rfl rfl (ivs_get _ _ (by first | assumption | omega)) ?_ | refine aops_inc rfl rfl rfl (Nat.le_of_ble_eq_true rfl) rfl rfl (by omega) ?_ | ((fail_if_success (refine aops_lit (b := true) rfl rfl rfl ?_)); (fail_if_success (refine aops_lit (b := false) rfl rfl rfl ?_)); refine aops_guard rfl rfl rfl (fun hq => ?_) (fun hq => ?_) <;> first | subst hq | (first | (simp only [decide_eq_true_eq, decide_eq_false_iff_not, beq_iff_eq, beq_eq_false_iff_ne, bne_iff_ne, bne_eq_false_iff_eq, Bool.not_eq_true', Bool.not_eq_false'] at hq; first | (exfalso; omega) | skip) | skip)) | fail) | (refine awp_one ?_; first | refine awp_sreg ?_ | refine awp_seq ?_ | refine awp_region ?_ | refine awp_block ?_ | refine awp_ret ?_ | refine awp_exit ?_ | refine awp_skip ?_ | refine awp_cond (b := true) rfl (fun _ => ?_) (fun h => Bool.noConfusion h) | refine awp_cond (b := false) rfl (fun h => Bool.noConfusion h) (fun _ => ?_) | refine awp_scope ?_ | refine awp_label ?_ | refine awp_sdraw mixed (by kernel_rfl) ?_ | refine awp_region_draw mixed (by kernel_rfl) ?_ | (refine awp_cond rfl (fun hq => ?_) (fun hq => ?_) <;> first | subst hq | (first | (simp only [decide_eq_true_eq, decide_eq_false_iff_not, beq_iff_eq, beq_eq_false_iff_ne, bne_iff_ne, bne_eq_false_iff_eq, Bool.not_eq_true', Bool.not_eq_false'] at hq; first | (exfalso; omega) | skip) | skip)) | fail) | (refine then_one ?_; first | refine q_then ?_ | refine q_then_exit ?_ | refine q_then_ret ?_ | fail) | (refine block_one ?_; first | refine q_block ?_ | refine q_block_exit ?_ | refine q_block_pass (by decide) ?_ | refine q_block_ret ?_ | fail) | refine feet_one (feetOk_of (by kernel_rfl)) ?_ | fail)
        all_goals exact ⟨⟨j + 1, hjz⟩, (by show l.length - (j + 1) < l.length - j; omega), (le_of (by repeat' first | exact trivial | refine ⟨rfl, ?_⟩) (by repeat' first | exact trivial | refine ⟨rfl, ?_⟩))⟩
      · have e : j = z := by omega
        subst e
        rw [hyes hlt] at c
        repeat' (first | refine aops_nil ?_ | (refine aops_one ?_; first | refine aops_quiet tabOk rfl rfl rfl (Nat.le_of_ble_eq_true rfl) rfl ?_ | refine aops_skip rfl rfl (Nat.le_of_ble_eq_true rfl) ?_ | (refine aops_cmp rfl rfl rfl (Nat.le_of_ble_eq_true rfl) rfl rfl rfl (fun hq => ?_) (fun hq => ?_) <;> (first | (simp only [decide_eq_true_eq, decide_eq_false_iff_not, beq_iff_eq, beq_eq_false_iff_ne, bne_iff_ne, bne_eq_false_iff_eq, Bool.not_eq_true', Bool.not_eq_false'] at hq; first | (exfalso; omega) | skip) | skip))| refine aops_load1 tabOk rfl rfl rfl (Nat.le_of_ble_eq_true rfl) rfl rfl rfl (strs_get l j hlt) ?_ | refine aops_call rfl rfl (Nat.le_of_ble_eq_true rfl) rfl rfl rfl rfl (c) ?_ | refine aops_inc rfl rfl rfl (Nat.le_of_ble_eq_true rfl) rfl rfl (by omega) ?_ | refine aops_add rfl rfl rfl (Nat.le_of_ble_eq_true rfl) rfl rfl rfl (by omega) (by omega) ?_ | refine aops_sub rfl rfl rfl (Nat.le_of_ble_eq_true rfl) rfl rfl rfl (by omega) (by omega) ?_ | refine aops_list tabOk rfl rfl rfl (Nat.le_of_ble_eq_true rfl) rfl rfl rfl rfl rfl rfl rfl rfl rfl ?_ | refine aops_pure tabOk rfl rfl (Nat.le_of_ble_eq_true rfl) rfl ?_ | refine aops_alloc tabOk rfl rfl rfl (Nat.le_of_ble_eq_true rfl) rfl rfl rfl rfl rfl rfl ?_ | refine aops_loadm tabOk rfl rfl rfl (Nat.le_of_ble_eq_true rfl) rfl rfl rfl rfl ?_ | refine aops_storem tabOk rfl rfl rfl rfl rfl rfl rfl rfl rfl rfl rfl ?_ | refine aops_index tabOk rfl rfl rfl (Nat.le_of_ble_eq_true rfl) rfl rfl rfl rfl (by first | assumption | omega) ?_ | refine aops_index0 tabOk rfl rfl rfl (Nat.le_of_ble_eq_true rfl) rfl rfl rfl rfl (by first | rfl | omega) (by first | omega | simp) ?_ | refine aops_load1 tabOk rfl rfl rfl (Nat.le_of_ble_eq_true rfl) rfl rfl rfl (by assumption) ?_ | refine aops_load1 tabOk rfl rfl rfl (Nat.le_of_ble_eq_true rfl) rfl rfl rfl (ivs_get _ _ (by first | assumption | omega)) ?_ | refine aops_inc rfl rfl rfl (Nat.le_of_ble_eq_true rfl) rfl rfl (by omega) ?_ | ((fail_if_success (refine aops_lit (b := true) rfl rfl rfl ?_)); (fail_if_success (refine aops_lit (b := false) rfl rfl rfl ?_)); refine aops_guard rfl rfl rfl (fun hq => ?_) (fun hq => ?_) <;> first | subst hq | (first | (simp only [decide_eq_true_eq, decide_eq_false_iff_not, beq_iff_eq, beq_eq_false_iff_ne, bne_iff_ne, bne_eq_false_iff_eq, Bool.not_eq_true', Bool.not_eq_false'] at hq; first | (exfalso; omega) | skip) | skip)) | fail) | (refine awp_one ?_; first | refine awp_sreg ?_ | refine awp_seq ?_ | refine awp_region ?_ | refine awp_block ?_ | refine awp_ret ?_ | refine awp_exit ?_ | refine awp_skip ?_ | refine awp_cond (b := true) rfl (fun _ => ?_) (fun h => Bool.noConfusion h) | refine awp_cond (b := false) rfl (fun h => Bool.noConfusion h) (fun _ => ?_) | refine awp_scope ?_ | refine awp_label ?_ | refine awp_sdraw mixed (by kernel_rfl) ?_ | refine awp_region_draw mixed (by kernel_rfl) ?_ | (refine awp_cond rfl (fun hq => ?_) (fun hq => ?_) <;> first | subst hq | (first | (simp only [decide_eq_true_eq, decide_eq_false_iff_not, beq_iff_eq, beq_eq_false_iff_ne, bne_iff_ne, bne_eq_false_iff_eq, Bool.not_eq_true', Bool.not_eq_false'] at hq; first | (exfalso; omega) | skip) | skip)) | fail) | (refine then_one ?_; first | refine q_then ?_ | refine q_then_exit ?_ | refine q_then_ret ?_ | fail) | (refine block_one ?_; first | refine q_block ?_ | refine q_block_exit ?_ | refine q_block_pass (by decide) ?_ | refine q_block_ret ?_ | fail) | refine feet_one (feetOk_of (by kernel_rfl)) ?_ | fail)
        all_goals (refine aexit_eq (by first | exact .inl rfl | exact .inr rfl) (results_1 rfl (resOk_tmp rfl)) rfl ?_; exact int_eq (by rw [if_pos hlt]))
    · repeat' (first | refine aops_nil ?_ | (refine aops_one ?_; first | refine aops_quiet tabOk rfl rfl rfl (Nat.le_of_ble_eq_true rfl) rfl ?_ | refine aops_skip rfl rfl (Nat.le_of_ble_eq_true rfl) ?_ | (refine aops_cmp rfl rfl rfl (Nat.le_of_ble_eq_true rfl) rfl rfl rfl (fun hq => ?_) (fun hq => ?_) <;> (first | (simp only [decide_eq_true_eq, decide_eq_false_iff_not, beq_iff_eq, beq_eq_false_iff_ne, bne_iff_ne, bne_eq_false_iff_eq, Bool.not_eq_true', Bool.not_eq_false'] at hq; first | (exfalso; omega) | skip) | skip)) | refine aops_inc rfl rfl rfl (Nat.le_of_ble_eq_true rfl) rfl rfl (by omega) ?_ | refine aops_add rfl rfl rfl (Nat.le_of_ble_eq_true rfl) rfl rfl rfl (by omega) (by omega) ?_ | refine aops_sub rfl rfl rfl (Nat.le_of_ble_eq_true rfl) rfl rfl rfl (by omega) (by omega) ?_ | refine aops_list tabOk rfl rfl rfl (Nat.le_of_ble_eq_true rfl) rfl rfl rfl rfl rfl rfl rfl rfl rfl ?_ | refine aops_pure tabOk rfl rfl (Nat.le_of_ble_eq_true rfl) rfl ?_ | refine aops_alloc tabOk rfl rfl rfl (Nat.le_of_ble_eq_true rfl) rfl rfl rfl rfl rfl rfl ?_ | refine aops_loadm tabOk rfl rfl rfl (Nat.le_of_ble_eq_true rfl) rfl rfl rfl rfl ?_ | refine aops_storem tabOk rfl rfl rfl rfl rfl rfl rfl rfl rfl rfl rfl ?_ | refine aops_index tabOk rfl rfl rfl (Nat.le_of_ble_eq_true rfl) rfl rfl rfl rfl (by first | assumption | omega) ?_ | refine aops_index0 tabOk rfl rfl rfl (Nat.le_of_ble_eq_true rfl) rfl rfl rfl rfl (by first | rfl | omega) (by first | omega | simp) ?_ | refine aops_load1 tabOk rfl rfl rfl (Nat.le_of_ble_eq_true rfl) rfl rfl rfl (by assumption) ?_ | refine aops_load1 tabOk rfl rfl rfl (Nat.le_of_ble_eq_true rfl) rfl rfl rfl (ivs_get _ _ (by first | assumption | omega)) ?_ | refine aops_inc rfl rfl rfl (Nat.le_of_ble_eq_true rfl) rfl rfl (by omega) ?_ | ((fail_if_success (refine aops_lit (b := true) rfl rfl rfl ?_)); (fail_if_success (refine aops_lit (b := false) rfl rfl rfl ?_)); refine aops_guard rfl rfl rfl (fun hq => ?_) (fun hq => ?_) <;> first | subst hq | (first | (simp only [decide_eq_true_eq, decide_eq_false_iff_not, beq_iff_eq, beq_eq_false_iff_ne, bne_iff_ne, bne_eq_false_iff_eq, Bool.not_eq_true', Bool.not_eq_false'] at hq; first | (exfalso; omega) | skip) | skip)) | fail) | (refine awp_one ?_; first | refine awp_sreg ?_ | refine awp_seq ?_ | refine awp_region ?_ | refine awp_block ?_ | refine awp_ret ?_ | refine awp_exit ?_ | refine awp_skip ?_ | refine awp_cond (b := true) rfl (fun _ => ?_) (fun h => Bool.noConfusion h) | refine awp_cond (b := false) rfl (fun h => Bool.noConfusion h) (fun _ => ?_) | refine awp_scope ?_ | refine awp_label ?_ | refine awp_sdraw mixed (by kernel_rfl) ?_ | refine awp_region_draw mixed (by kernel_rfl) ?_ | (refine awp_cond rfl (fun hq => ?_) (fun hq => ?_) <;> first | subst hq | (first | (simp only [decide_eq_true_eq, decide_eq_false_iff_not, beq_iff_eq, beq_eq_false_iff_ne, bne_iff_ne, bne_eq_false_iff_eq, Bool.not_eq_true', Bool.not_eq_false'] at hq; first | (exfalso; omega) | skip) | skip)) | fail) | (refine then_one ?_; first | refine q_then ?_ | refine q_then_exit ?_ | refine q_then_ret ?_ | fail) | (refine block_one ?_; first | refine q_block ?_ | refine q_block_exit ?_ | refine q_block_pass (by decide) ?_ | refine q_block_ret ?_ | fail) | refine feet_one (feetOk_of (by kernel_rfl)) ?_ | fail)
      all_goals (refine aexit_eq (by first | exact .inl rfl | exact .inr rfl) (results_1 rfl (resOk_tmp rfl)) rfl ?_; exact int_eq (by rw [if_neg (by omega)]))
  rcases hex with ⟨j, hj, h1, h2⟩ | h
  · refine ⟨_, ?_, walk j (by omega) (fun i hi h => h2 i hi h) (fun _ => h1)⟩
    rw [if_pos hj]
    exact ⟨fun _ => List.any_eq_true.2 ⟨l[j], List.getElem_mem hj, h1⟩, fun _ => by omega⟩
  · refine ⟨_, ?_, walk l.length (Nat.le_refl _) (fun i hi _ => h i hi) (fun hz => absurd hz (Nat.lt_irrefl _))⟩
    rw [if_neg (Nat.lt_irrefl _)]
    refine ⟨fun h => by omega, fun ha => ?_⟩
    obtain ⟨x, hx, hR⟩ := List.any_eq_true.1 ha
    obtain ⟨i, hi, rfl⟩ := List.mem_iff_getElem.1 hx
    rw [h i hi] at hR; cases hR
set_option maxHeartbeats 4000000 in
set_option maxRecDepth 10000 in
theorem containsFunc_a (b : Bool) (l : List ByteArray) (f : FuncId) (R : ByteArray → Bool) (hl : l.length ≤ 1000000)
    (hf : ∀ i (hi : i < l.length), ACalls Tryd.prog f [.imm (.lit (.string l[i]))] [] (.imm (.lit (.bool (R l[i])))) []) :
    ACalls Tryd.prog 46 [.imm (.sl b l.length (strs l)), .imm (.func f [] [])] [] (.imm (.lit (.bool (l.any R)))) [] := by
  obtain ⟨r, hr, c⟩ := indexFunc_a b l f R hl hf
  generalize l.any R = q at hr
  refine acalls_plain Tryd.func46 rfl rfl (Nat.le_of_ble_eq_true rfl) rfl ?_
  repeat' (first | refine aops_nil ?_ | (refine aops_one ?_; first | refine aops_quiet tabOk rfl rfl rfl (Nat.le_of_ble_eq_true rfl) rfl ?_ | refine aops_skip rfl rfl (Nat.le_of_ble_eq_true rfl) ?_ | (refine aops_cmp rfl rfl rfl (Nat.le_of_ble_eq_true rfl) rfl rfl rfl (fun hq => ?_) (fun hq => ?_) <;> (first | (simp only [decide_eq_true_eq, decide_eq_false_iff_not, beq_iff_eq, beq_eq_false_iff_ne, bne_iff_ne, bne_eq_false_iff_eq, Bool.not_eq_true', Bool.not_eq_false'] at hq; first | (exfalso; omega) | skip) | skip))| refine aops_call rfl rfl (Nat.le_of_ble_eq_true rfl) rfl rfl rfl rfl (c) ?_ | refine aops_inc rfl rfl rfl (Nat.le_of_ble_eq_true rfl) rfl rfl (by omega) ?_ | refine aops_add rfl rfl rfl (Nat.le_of_ble_eq_true rfl) rfl rfl rfl (by omega) (by omega) ?_ | refine aops_sub rfl rfl rfl (Nat.le_of_ble_eq_true rfl) rfl rfl rfl (by omega) (by omega) ?_ | refine aops_list tabOk rfl rfl rfl (Nat.le_of_ble_eq_true rfl) rfl rfl rfl rfl rfl rfl rfl rfl rfl ?_ | refine aops_pure tabOk rfl rfl (Nat.le_of_ble_eq_true rfl) rfl ?_ | refine aops_alloc tabOk rfl rfl rfl (Nat.le_of_ble_eq_true rfl) rfl rfl rfl rfl rfl rfl ?_ | refine aops_loadm tabOk rfl rfl rfl (Nat.le_of_ble_eq_true rfl) rfl rfl rfl rfl ?_ | refine aops_storem tabOk rfl rfl rfl rfl rfl rfl rfl rfl rfl rfl rfl ?_ | refine aops_index tabOk rfl rfl rfl (Nat.le_of_ble_eq_true rfl) rfl rfl rfl rfl (by first | assumption | omega) ?_ | refine aops_index0 tabOk rfl rfl rfl (Nat.le_of_ble_eq_true rfl) rfl rfl rfl rfl (by first | rfl | omega) (by first | omega | simp) ?_ | refine aops_load1 tabOk rfl rfl rfl (Nat.le_of_ble_eq_true rfl) rfl rfl rfl (by assumption) ?_ | refine aops_load1 tabOk rfl rfl rfl (Nat.le_of_ble_eq_true rfl) rfl rfl rfl (ivs_get _ _ (by first | assumption | omega)) ?_ | refine aops_inc rfl rfl rfl (Nat.le_of_ble_eq_true rfl) rfl rfl (by omega) ?_ | ((fail_if_success (refine aops_lit (b := true) rfl rfl rfl ?_)); (fail_if_success (refine aops_lit (b := false) rfl rfl rfl ?_)); refine aops_guard rfl rfl rfl (fun hq => ?_) (fun hq => ?_) <;> first | subst hq | (first | (simp only [decide_eq_true_eq, decide_eq_false_iff_not, beq_iff_eq, beq_eq_false_iff_ne, bne_iff_ne, bne_eq_false_iff_eq, Bool.not_eq_true', Bool.not_eq_false'] at hq; first | (exfalso; omega) | skip) | skip)) | fail) | (refine awp_one ?_; first | refine awp_sreg ?_ | refine awp_seq ?_ | refine awp_region ?_ | refine awp_block ?_ | refine awp_ret ?_ | refine awp_exit ?_ | refine awp_skip ?_ | refine awp_cond (b := true) rfl (fun _ => ?_) (fun h => Bool.noConfusion h) | refine awp_cond (b := false) rfl (fun h => Bool.noConfusion h) (fun _ => ?_) | refine awp_scope ?_ | refine awp_label ?_ | refine awp_sdraw mixed (by kernel_rfl) ?_ | refine awp_region_draw mixed (by kernel_rfl) ?_ | (refine awp_cond rfl (fun hq => ?_) (fun hq => ?_) <;> first | subst hq | (first | (simp only [decide_eq_true_eq, decide_eq_false_iff_not, beq_iff_eq, beq_eq_false_iff_ne, bne_iff_ne, bne_eq_false_iff_eq, Bool.not_eq_true', Bool.not_eq_false'] at hq; first | (exfalso; omega) | skip) | skip)) | fail) | (refine then_one ?_; first | refine q_then ?_ | refine q_then_exit ?_ | refine q_then_ret ?_ | fail) | (refine block_one ?_; first | refine q_block ?_ | refine q_block_exit ?_ | refine q_block_pass (by decide) ?_ | refine q_block_ret ?_ | fail) | refine feet_one (feetOk_of (by kernel_rfl)) ?_ | fail)
  all_goals (refine aexit_eq (by first | exact .inl rfl | exact .inr rfl) (results_1 rfl (resOk_tmp rfl)) rfl ?_; refine bool_eq ?_; cases q <;> first | rfl | (exfalso; simp at hr; omega))
theorem all_not_any (l : List ByteArray) (R : ByteArray → Bool) : (l.any fun x => !R x) = !(l.all R) := by
  induction l with
  | nil => rfl
  | cons x l ih => simp [ih, Bool.not_and]
theorem piece_size (s : ByteArray) : ∀ p ∈ pcsB s, p.size ≤ s.size := by
  have key : ∀ (l : List UInt8), ∀ p ∈ pcs l, p.length ≤ l.length := by
    intro l
    induction l with
    | nil => intro p hp; simp [pcs] at hp; simp [hp]
    | cons b t ih =>
      intro p hp
      rw [pcs] at hp
      split at hp
      · rcases List.mem_cons.1 hp with rfl | hp
        · simp
        · have := ih p hp; simp; omega
      · cases hq : pcs t with
        | nil => exact absurd hq (pcs_ne t)
        | cons x r =>
          rw [hq] at hp ih
          simp only [consHead] at hp
          rcases List.mem_cons.1 hp with rfl | hp
          · have := ih x List.mem_cons_self; simp; omega
          · have := ih p (List.mem_cons_of_mem _ hp); simp; omega
  intro p hp
  unfold pcsB at hp
  obtain ⟨q, hq, rfl⟩ := List.mem_map.1 hp
  rw [mkB_size, ← ba_size s]
  exact key _ q hq
set_option maxHeartbeats 4000000 in
set_option maxRecDepth 10000 in
theorem nLong_a (s : ByteArray) (hs : s.size ≤ 100000) : ACalls Tryd.prog 23 [.imm (.lit (.string s))] [] (.imm (.lit (.bool (longP s)))) [] := by
  have hl := pcsB_len s
  have c1 := split_a s (by omega)
  have c2 := containsFunc_a false (pcsB s) 44 (fun x => !nameB x) (by omega) (fun i hi => nBad_a _ (Nat.le_trans (piece_size s _ (List.getElem_mem hi)) (by omega)))
  rw [all_not_any] at c2
  unfold longP
  generalize (pcsB s).all nameB = q at c2
  refine acalls_plain Tryd.func23 rfl rfl (Nat.le_of_ble_eq_true rfl) rfl ?_
  repeat' (first | refine aops_nil ?_ | (refine aops_one ?_; first | refine aops_quiet tabOk rfl rfl rfl (Nat.le_of_ble_eq_true rfl) rfl ?_ | refine aops_skip rfl rfl (Nat.le_of_ble_eq_true rfl) ?_ | (refine aops_cmp rfl rfl rfl (Nat.le_of_ble_eq_true rfl) rfl rfl rfl (fun hq => ?_) (fun hq => ?_) <;> (first | (simp only [decide_eq_true_eq, decide_eq_false_iff_not, beq_iff_eq, beq_eq_false_iff_ne, bne_iff_ne, bne_eq_false_iff_eq, Bool.not_eq_true', Bool.not_eq_false'] at hq; first | (exfalso; omega) | skip) | skip))| refine aops_call rfl rfl (Nat.le_of_ble_eq_true rfl) rfl rfl rfl rfl (c1) ?_ | (refine aops_callq rfl rfl rfl (Nat.le_of_ble_eq_true rfl) rfl rfl rfl (c2) (fun hq => ?_) (fun hq => ?_)) | refine aops_inc rfl rfl rfl (Nat.le_of_ble_eq_true rfl) rfl rfl (by omega) ?_ | refine aops_add rfl rfl rfl (Nat.le_of_ble_eq_true rfl) rfl rfl rfl (by omega) (by omega) ?_ | refine aops_sub rfl rfl rfl (Nat.le_of_ble_eq_true rfl) rfl rfl rfl (by omega) (by omega) ?_ | refine aops_list tabOk rfl rfl rfl (Nat.le_of_ble_eq_true rfl) rfl rfl rfl rfl rfl rfl rfl rfl rfl ?_ | refine aops_pure tabOk rfl rfl (Nat.le_of_ble_eq_true rfl) rfl ?_ | refine aops_alloc tabOk rfl rfl rfl (Nat.le_of_ble_eq_true rfl) rfl rfl rfl rfl rfl rfl ?_ | refine aops_loadm tabOk rfl rfl rfl (Nat.le_of_ble_eq_true rfl) rfl rfl rfl rfl ?_ | refine aops_storem tabOk rfl rfl rfl rfl rfl rfl rfl rfl rfl rfl rfl ?_ | refine aops_index tabOk rfl rfl rfl (Nat.le_of_ble_eq_true rfl) rfl rfl rfl rfl (by first | assumption | omega) ?_ | refine aops_index0 tabOk rfl rfl rfl (Nat.le_of_ble_eq_true rfl) rfl rfl rfl rfl (by first | rfl | omega) (by first | omega | simp) ?_ | refine aops_load1 tabOk rfl rfl rfl (Nat.le_of_ble_eq_true rfl) rfl rfl rfl (by assumption) ?_ | refine aops_load1 tabOk rfl rfl rfl (Nat.le_of_ble_eq_true rfl) rfl rfl rfl (ivs_get _ _ (by first | assumption | omega)) ?_ | refine aops_inc rfl rfl rfl (Nat.le_of_ble_eq_true rfl) rfl rfl (by omega) ?_ | ((fail_if_success (refine aops_lit (b := true) rfl rfl rfl ?_)); (fail_if_success (refine aops_lit (b := false) rfl rfl rfl ?_)); refine aops_guard rfl rfl rfl (fun hq => ?_) (fun hq => ?_) <;> first | subst hq | (first | (simp only [decide_eq_true_eq, decide_eq_false_iff_not, beq_iff_eq, beq_eq_false_iff_ne, bne_iff_ne, bne_eq_false_iff_eq, Bool.not_eq_true', Bool.not_eq_false'] at hq; first | (exfalso; omega) | skip) | skip)) | fail) | (refine awp_one ?_; first | refine awp_sreg ?_ | refine awp_seq ?_ | refine awp_region ?_ | refine awp_block ?_ | refine awp_ret ?_ | refine awp_exit ?_ | refine awp_skip ?_ | refine awp_cond (b := true) rfl (fun _ => ?_) (fun h => Bool.noConfusion h) | refine awp_cond (b := false) rfl (fun h => Bool.noConfusion h) (fun _ => ?_) | refine awp_scope ?_ | refine awp_label ?_ | refine awp_sdraw mixed (by kernel_rfl) ?_ | refine awp_region_draw mixed (by kernel_rfl) ?_ | (refine awp_cond rfl (fun hq => ?_) (fun hq => ?_) <;> first | subst hq | (first | (simp only [decide_eq_true_eq, decide_eq_false_iff_not, beq_iff_eq, beq_eq_false_iff_ne, bne_iff_ne, bne_eq_false_iff_eq, Bool.not_eq_true', Bool.not_eq_false'] at hq; first | (exfalso; omega) | skip) | skip)) | fail) | (refine then_one ?_; first | refine q_then ?_ | refine q_then_exit ?_ | refine q_then_ret ?_ | fail) | (refine block_one ?_; first | refine q_block ?_ | refine q_block_exit ?_ | refine q_block_pass (by decide) ?_ | refine q_block_ret ?_ | fail) | refine feet_one (feetOk_of (by kernel_rfl)) ?_ | fail)
  all_goals (refine aexit_eq (by first | exact .inl rfl | exact .inr rfl) (results_1 rfl (resOk_tmp rfl)) rfl ?_; refine bool_eq ?_; cases q <;> simp_all <;> omega)
set_option maxHeartbeats 4000000 in
set_option maxRecDepth 10000 in
theorem nSplit_a (s : ByteArray) (hs : s.size ≤ 100000) : ACalls Tryd.prog 24 [.imm (.lit (.string s))] [] (.imm (.sl false (splitP s).length (strs (splitP s)))) [] := by
  have c1 := nLong_a s hs
  have c2 := split_a s (by omega)
  unfold splitP
  cases h : longP s with
  | true =>
    rw [h] at c1
    rw [if_pos rfl]
    refine acalls_plain Tryd.func24 rfl rfl (Nat.le_of_ble_eq_true rfl) rfl ?_
    repeat' (first | refine aops_nil ?_ | (refine aops_one ?_; first | refine aops_quiet tabOk rfl rfl rfl (Nat.le_of_ble_eq_true rfl) rfl ?_ | refine aops_skip rfl rfl (Nat.le_of_ble_eq_true rfl) ?_ | (refine aops_cmp rfl rfl rfl (Nat.le_of_ble_eq_true rfl) rfl rfl rfl (fun hq => ?_) (fun hq => ?_) <;> (first | (simp only [decide_eq_true_eq, decide_eq_false_iff_not, beq_iff_eq, beq_eq_false_iff_ne, bne_iff_ne, bne_eq_false_iff_eq, Bool.not_eq_true', Bool.not_eq_false'] at hq; first | (exfalso; omega) | skip) | skip))| refine aops_call rfl rfl (Nat.le_of_ble_eq_true rfl) rfl rfl rfl rfl (c1) ?_ | refine aops_call rfl rfl (Nat.le_of_ble_eq_true rfl) rfl rfl rfl rfl (c2) ?_ | refine aops_inc rfl rfl rfl (Nat.le_of_ble_eq_true rfl) rfl rfl (by omega) ?_ | refine aops_add rfl rfl rfl (Nat.le_of_ble_eq_true rfl) rfl rfl rfl (by omega) (by omega) ?_ | refine aops_sub rfl rfl rfl (Nat.le_of_ble_eq_true rfl) rfl rfl rfl (by omega) (by omega) ?_ | refine aops_list tabOk rfl rfl rfl (Nat.le_of_ble_eq_true rfl) rfl rfl rfl rfl rfl rfl rfl rfl rfl ?_ | refine aops_pure tabOk rfl rfl (Nat.le_of_ble_eq_true rfl) rfl ?_ | refine aops_alloc tabOk rfl rfl rfl (Nat.le_of_ble_eq_true rfl) rfl rfl rfl rfl rfl rfl ?_ | refine aops_loadm tabOk rfl rfl rfl (Nat.le_of_ble_eq_true rfl) rfl rfl rfl rfl ?_ | refine aops_storem tabOk rfl rfl rfl rfl rfl rfl rfl rfl rfl rfl rfl ?_ | refine aops_index tabOk rfl rfl rfl (Nat.le_of_ble_eq_true rfl) rfl rfl rfl rfl (by first | assumption | omega) ?_ | refine aops_index0 tabOk rfl rfl rfl (Nat.le_of_ble_eq_true rfl) rfl rfl rfl rfl (by first | rfl | omega) (by first | omega | simp) ?_ | refine aops_load1 tabOk rfl rfl rfl (Nat.le_of_ble_eq_true rfl) rfl rfl rfl (by assumption) ?_ | refine aops_load1 tabOk rfl rfl rfl (Nat.le_of_ble_eq_true rfl) rfl rfl rfl (ivs_get _ _ (by first | assumption | omega)) ?_ | refine aops_inc rfl rfl rfl (Nat.le_of_ble_eq_true rfl) rfl rfl (by omega) ?_ | ((fail_if_success (refine aops_lit (b := true) rfl rfl rfl ?_)); (fail_if_success (refine aops_lit (b := false) rfl rfl rfl ?_)); refine aops_guard rfl rfl rfl (fun hq => ?_) (fun hq => ?_) <;> first | subst hq | (first | (simp only [decide_eq_true_eq, decide_eq_false_iff_not, beq_iff_eq, beq_eq_false_iff_ne, bne_iff_ne, bne_eq_false_iff_eq, Bool.not_eq_true', Bool.not_eq_false'] at hq; first | (exfalso; omega) | skip) | skip)) | fail) | (refine awp_one ?_; first | refine awp_sreg ?_ | refine awp_seq ?_ | refine awp_region ?_ | refine awp_block ?_ | refine awp_ret ?_ | refine awp_exit ?_ | refine awp_skip ?_ | refine awp_cond (b := true) rfl (fun _ => ?_) (fun h => Bool.noConfusion h) | refine awp_cond (b := false) rfl (fun h => Bool.noConfusion h) (fun _ => ?_) | refine awp_scope ?_ | refine awp_label ?_ | refine awp_sdraw mixed (by kernel_rfl) ?_ | refine awp_region_draw mixed (by kernel_rfl) ?_ | (refine awp_cond rfl (fun hq => ?_) (fun hq => ?_) <;> first | subst hq | (first | (simp only [decide_eq_true_eq, decide_eq_false_iff_not, beq_iff_eq, beq_eq_false_iff_ne, bne_iff_ne, bne_eq_false_iff_eq, Bool.not_eq_true', Bool.not_eq_false'] at hq; first | (exfalso; omega) | skip) | skip)) | fail) | (refine then_one ?_; first | refine q_then ?_ | refine q_then_exit ?_ | refine q_then_ret ?_ | fail) | (refine block_one ?_; first | refine q_block ?_ | refine q_block_exit ?_ | refine q_block_pass (by decide) ?_ | refine q_block_ret ?_ | fail) | refine feet_one (feetOk_of (by kernel_rfl)) ?_ | fail)
    all_goals (refine aexit_eq (by first | exact .inl rfl | exact .inr rfl) (results_1 rfl (resOk_tmp rfl)) rfl ?_; rfl)
  | false =>
    rw [h] at c1
    rw [if_neg (by simp)]
    refine acalls_plain Tryd.func24 rfl rfl (Nat.le_of_ble_eq_true rfl) rfl ?_
    repeat' (first | refine aops_nil ?_ | (refine aops_one ?_; first | refine aops_quiet tabOk rfl rfl rfl (Nat.le_of_ble_eq_true rfl) rfl ?_ | refine aops_skip rfl rfl (Nat.le_of_ble_eq_true rfl) ?_ | (refine aops_cmp rfl rfl rfl (Nat.le_of_ble_eq_true rfl) rfl rfl rfl (fun hq => ?_) (fun hq => ?_) <;> (first | (simp only [decide_eq_true_eq, decide_eq_false_iff_not, beq_iff_eq, beq_eq_false_iff_ne, bne_iff_ne, bne_eq_false_iff_eq, Bool.not_eq_true', Bool.not_eq_false'] at hq; first | (exfalso; omega) | skip) | skip))| refine aops_call rfl rfl (Nat.le_of_ble_eq_true rfl) rfl rfl rfl rfl (c1) ?_ | refine aops_call rfl rfl (Nat.le_of_ble_eq_true rfl) rfl rfl rfl rfl (c2) ?_ | refine aops_inc rfl rfl rfl (Nat.le_of_ble_eq_true rfl) rfl rfl (by omega) ?_ | refine aops_add rfl rfl rfl (Nat.le_of_ble_eq_true rfl) rfl rfl rfl (by omega) (by omega) ?_ | refine aops_sub rfl rfl rfl (Nat.le_of_ble_eq_true rfl) rfl rfl rfl (by omega) (by omega) ?_ | refine aops_list tabOk rfl rfl rfl (Nat.le_of_ble_eq_true rfl) rfl rfl rfl rfl rfl rfl rfl rfl rfl ?_ | refine aops_pure tabOk rfl rfl (Nat.le_of_ble_eq_true rfl) rfl ?_ | refine aops_alloc tabOk rfl rfl rfl (Nat.le_of_ble_eq_true rfl) rfl rfl rfl rfl rfl rfl ?_ | refine aops_loadm tabOk rfl rfl rfl (Nat.le_of_ble_eq_true rfl) rfl rfl rfl rfl ?_ | refine aops_storem tabOk rfl rfl rfl rfl rfl rfl rfl rfl rfl rfl rfl ?_ | refine aops_index tabOk rfl rfl rfl (Nat.le_of_ble_eq_true rfl) rfl rfl rfl rfl (by first | assumption | omega) ?_ | refine aops_index0 tabOk rfl rfl rfl (Nat.le_of_ble_eq_true rfl) rfl rfl rfl rfl (by first | rfl | omega) (by first | omega | simp) ?_ | refine aops_load1 tabOk rfl rfl rfl (Nat.le_of_ble_eq_true rfl) rfl rfl rfl (by assumption) ?_ | refine aops_load1 tabOk rfl rfl rfl (Nat.le_of_ble_eq_true rfl) rfl rfl rfl (ivs_get _ _ (by first | assumption | omega)) ?_ | refine aops_inc rfl rfl rfl (Nat.le_of_ble_eq_true rfl) rfl rfl (by omega) ?_ | ((fail_if_success (refine aops_lit (b := true) rfl rfl rfl ?_)); (fail_if_success (refine aops_lit (b := false) rfl rfl rfl ?_)); refine aops_guard rfl rfl rfl (fun hq => ?_) (fun hq => ?_) <;> first | subst hq | (first | (simp only [decide_eq_true_eq, decide_eq_false_iff_not, beq_iff_eq, beq_eq_false_iff_ne, bne_iff_ne, bne_eq_false_iff_eq, Bool.not_eq_true', Bool.not_eq_false'] at hq; first | (exfalso; omega) | skip) | skip)) | fail) | (refine awp_one ?_; first | refine awp_sreg ?_ | refine awp_seq ?_ | refine awp_region ?_ | refine awp_block ?_ | refine awp_ret ?_ | refine awp_exit ?_ | refine awp_skip ?_ | refine awp_cond (b := true) rfl (fun _ => ?_) (fun h => Bool.noConfusion h) | refine awp_cond (b := false) rfl (fun h => Bool.noConfusion h) (fun _ => ?_) | refine awp_scope ?_ | refine awp_label ?_ | refine awp_sdraw mixed (by kernel_rfl) ?_ | refine awp_region_draw mixed (by kernel_rfl) ?_ | (refine awp_cond rfl (fun hq => ?_) (fun hq => ?_) <;> first | subst hq | (first | (simp only [decide_eq_true_eq, decide_eq_false_iff_not, beq_iff_eq, beq_eq_false_iff_ne, bne_iff_ne, bne_eq_false_iff_eq, Bool.not_eq_true', Bool.not_eq_false'] at hq; first | (exfalso; omega) | skip) | skip)) | fail) | (refine then_one ?_; first | refine q_then ?_ | refine q_then_exit ?_ | refine q_then_ret ?_ | fail) | (refine block_one ?_; first | refine q_block ?_ | refine q_block_exit ?_ | refine q_block_pass (by decide) ?_ | refine q_block_ret ?_ | fail) | refine feet_one (feetOk_of (by kernel_rfl)) ?_ | fail)
    all_goals (refine aexit_eq (by first | exact .inl rfl | exact .inr rfl) (results_1 rfl (resOk_nz (resOk_tmp rfl))) rfl ?_; rfl)
end Go.Proofs.YtdajnmffoopcaaaDoor.Ab
namespace Go.Proofs.YtdajnmffoopcaaaDoor.Ab
set_option linter.unusedVariables false
set_option linter.unusedSimpArgs false
open Go.RowKit Go.Proofs.YtdajnmffoopcaaaDoor.RP
attribute [local irreducible] AWP AOps AExit AThen ABlock ANoGoto FeetOk
theorem ba_size_append (a b : ByteArray) : (a ++ b).size = a.size + b.size := by rw [← ba_size, ByteArray.data_append, Array.toList_append, List.length_append, ba_size, ba_size]
theorem split_fine (s : ByteArray) : (splitP s).length ≤ s.size + 1 ∧ ∀ p ∈ splitP s, p.size ≤ s.size := by
  unfold splitP
  split
  · exact ⟨pcsB_len s, piece_size s⟩
  · exact ⟨by simp, by simp⟩
/-- The label that is asked for: the last name's of a space, the others' of modules. -/
def labS (space : ByteArray) (last : Bool) (s : ByteArray) : ByteArray := if last then (space ++ ⟨#[58]⟩) ++ s else ⟨#[109, 58]⟩ ++ s
def atS (space : ByteArray) : List ByteArray → Tree → Tree × Int
  | [], t => (t, 0)
  | s :: ss, t => if (fieldP (labS space ss.isEmpty s) t.kids).2 = true then atS space ss (fieldP (labS space ss.isEmpty s) t.kids).1 else (.nil, 8)
def spOk (space : ByteArray) : Bool := eqB space ⟨#[118]⟩ || eqB space ⟨#[116]⟩ || eqB space ⟨#[109]⟩
def sAtP (t : Tree) (space long : ByteArray) : Tree × Int :=
  if checkP sformP t ≠ 0 then (.nil, checkP sformP t) else if (isSigP t && spOk space) = false then (.nil, 16) else if longP long = false then (.nil, 2) else atS space (splitP long) t
theorem labS_t (space s : ByteArray) : labS space true s = (space ++ ⟨#[58]⟩) ++ s := by unfold labS; rw [if_pos rfl]
theorem labS_f (space s : ByteArray) : labS space false s = ⟨#[109, 58]⟩ ++ s := by unfold labS; rw [if_neg (by simp)]
theorem empty_drop (l : List ByteArray) (j : Nat) (h : j < l.length) : (l.drop (j + 1)).isEmpty = decide (j + 1 = l.length) := by
  by_cases e : j + 1 = l.length
  · rw [decide_eq_true e, e, List.drop_length]; rfl
  · rw [decide_eq_false e, List.isEmpty_eq_false_iff]
    intro h0
    have := congrArg List.length h0
    rw [List.length_drop, List.length_nil] at this
    omega
theorem atS_ok (space : ByteArray) : ∀ (l : List ByteArray) (t : Tree), isSigP t = true → t.whole = true → (atS space l t).2 = 0 → isSigP (atS space l t).1 = true ∧ (atS space l t).1.whole = true ∧ (atS space l t).1.size ≤ t.size
  | [], t, hs, hw, _ => ⟨hs, hw, Nat.le_refl _⟩
  | s :: ss, t, hs, hw, h0 => by
    rw [atS] at h0 ⊢
    split at h0
    · rename_i h
      rw [if_pos h]
      obtain ⟨g1, g2, g3⟩ := fieldP_sig hs hw _ h
      have := atS_ok space ss _ g1 g2 h0
      exact ⟨this.1, this.2.1, by omega⟩
    · cases h0
set_option maxHeartbeats 4000000 in
set_option maxRecDepth 10000 in
theorem isLabAt_a (t : Tree) (label : ByteArray) (hw : t.whole = true) : ACalls Tryd.prog 26 [.imm t.iv, .obj 1001 0] [(1001, .cells [.imm (.lit (.string label))])] (.imm (.lit (.bool (isLab label t)))) [(1001, .cells [.imm (.lit (.string label))])] := by
  obtain ⟨k, n, a, b, kids, rfl⟩ := whole_node hw
  have e : isLab label (.node k n a b kids) = (decide (k = 163) && eqB a label) := rfl
  rw [e]
  refine acalls_foot [1001] Tryd.func26 rfl rfl (Nat.le_of_ble_eq_true rfl) rfl rfl ?_
  repeat' (first | refine aops_nil ?_ | (refine aops_one ?_;  first | refine aops_quiet tabOk rfl rfl rfl (Nat.le_of_ble_eq_true rfl) rfl ?_ | refine aops_skip rfl rfl (Nat.le_of_ble_eq_true rfl) ?_ | (refine aops_cmp rfl rfl rfl (Nat.le_of_ble_eq_true rfl) rfl rfl rfl (fun hq => ?_) (fun hq => ?_) <;> (first | (simp only [decide_eq_true_eq, decide_eq_false_iff_not, beq_iff_eq, beq_eq_false_iff_ne, bne_iff_ne, bne_eq_false_iff_eq, Bool.not_eq_true', Bool.not_eq_false'] at hq; first | (exfalso; omega) | skip) | skip)) | refine aops_loadm tabOk rfl rfl rfl (Nat.le_of_ble_eq_true rfl) rfl rfl rfl rfl ?_) | (refine awp_one ?_;  first | refine awp_sreg ?_ | refine awp_seq ?_ | refine awp_ret ?_ | refine awp_region_draw mixed (by kernel_rfl) ?_) | (refine then_one ?_;  first | refine q_then ?_) | refine feet_one (feetOk_of (by kernel_rfl)) ?_)
  all_goals (refine gexit_same (aexit_foot (by first | exact .inl rfl | exact .inr rfl) (results_1 rfl (resOk_tmp rfl)) rfl (by repeat' first | exact trivial | refine ⟨rfl, ?_⟩) rfl ?_); refine bool_eq ?_; simp_all [eqB])
set_option maxHeartbeats 16000000 in
set_option maxRecDepth 10000 in
theorem At_a (t : Tree) (space long : ByteArray) (hs : t.size ≤ 100000) (hp : space.size ≤ 100000) (hl : long.size ≤ 100000) : ACalls Tryd.prog 9 [.imm t.iv, .imm (.lit (.string space)), .imm (.lit (.string long))] [] (.imm (.tup [(sAtP t space long).1.iv, .lit (.int .i64 (sAtP t space long).2)])) [] := by
  have c1 := sCheck_any t (by omega)
  obtain ⟨Q, hQ⟩ : ∃ Q, sAtP t space long = Q := ⟨_, rfl⟩
  rw [hQ]
  unfold sAtP at hQ
  by_cases hc : checkP sformP t = 0
  · rw [if_neg (by simpa using hc)] at hQ
    rw [hc] at c1
    obtain ⟨hw, hz, _⟩ := checkP_whole hc
    have c2 := isSig_any t hw (by omega)
    cases hsig : isSigP t with
    | false =>
      rw [hsig] at c2 hQ
      rw [Bool.false_and, if_pos rfl] at hQ
      subst hQ
      refine acalls_plain Tryd.func9 rfl rfl (Nat.le_of_ble_eq_true rfl) rfl ?_
      repeat' (first | refine aops_nil ?_ | (refine aops_one ?_;  first | refine aops_quiet tabOk rfl rfl rfl (Nat.le_of_ble_eq_true rfl) rfl ?_ | refine aops_skip rfl rfl (Nat.le_of_ble_eq_true rfl) ?_ | (refine aops_cmp rfl rfl rfl (Nat.le_of_ble_eq_true rfl) rfl rfl rfl (fun hq => ?_) (fun hq => ?_) <;> (first | (simp only [decide_eq_true_eq, decide_eq_false_iff_not, beq_iff_eq, beq_eq_false_iff_ne, bne_iff_ne, bne_eq_false_iff_eq, Bool.not_eq_true', Bool.not_eq_false'] at hq; first | (exfalso; omega) | skip) | skip)) | refine aops_call rfl rfl (Nat.le_of_ble_eq_true rfl) rfl rfl rfl rfl (c1) ?_ | refine aops_call rfl rfl (Nat.le_of_ble_eq_true rfl) rfl rfl rfl rfl (c2) ?_) | (refine awp_one ?_;  first | refine awp_sreg ?_ | refine awp_seq ?_ | refine awp_block ?_ | refine awp_ret ?_ | refine awp_skip ?_ | refine awp_cond (b := true) rfl (fun _ => ?_) (fun h => Bool.noConfusion h) | refine awp_cond (b := false) rfl (fun h => Bool.noConfusion h) (fun _ => ?_)) | (refine then_one ?_;  first | refine q_then ?_ | refine q_then_ret ?_) | (refine block_one ?_;  first | refine q_block_ret ?_))
      all_goals first
        | exact absurd rfl (by assumption)
        | (refine aexit_eq (by first | exact .inl rfl | exact .inr rfl) (results_2 rfl (resOk_tmp rfl) (resOk_tmp rfl)) rfl ?_; rfl)
    | true =>
      rw [hsig] at c2 hQ
      rw [Bool.true_and] at hQ
      cases hsp : spOk space with
      | false =>
        rw [hsp] at hQ
        rw [if_pos rfl] at hQ
        subst hQ
        unfold spOk at hsp
        refine acalls_plain Tryd.func9 rfl rfl (Nat.le_of_ble_eq_true rfl) rfl ?_
        repeat' (first | refine aops_nil ?_ | (refine aops_one ?_;  first | refine aops_quiet tabOk rfl rfl rfl (Nat.le_of_ble_eq_true rfl) rfl ?_ | refine aops_skip rfl rfl (Nat.le_of_ble_eq_true rfl) ?_ | (refine aops_cmp rfl rfl rfl (Nat.le_of_ble_eq_true rfl) rfl rfl rfl (fun hq => ?_) (fun hq => ?_) <;> (first | (simp only [decide_eq_true_eq, decide_eq_false_iff_not, beq_iff_eq, beq_eq_false_iff_ne, bne_iff_ne, bne_eq_false_iff_eq, Bool.not_eq_true', Bool.not_eq_false'] at hq; first | (exfalso; omega) | skip) | skip)) | refine aops_call rfl rfl (Nat.le_of_ble_eq_true rfl) rfl rfl rfl rfl (c1) ?_ | refine aops_call rfl rfl (Nat.le_of_ble_eq_true rfl) rfl rfl rfl rfl (c2) ?_) | (refine awp_one ?_;  first | refine awp_sreg ?_ | refine awp_seq ?_ | refine awp_block ?_ | refine awp_ret ?_ | refine awp_skip ?_ | refine awp_cond (b := true) rfl (fun _ => ?_) (fun h => Bool.noConfusion h) | refine awp_cond (b := false) rfl (fun h => Bool.noConfusion h) (fun _ => ?_)) | (refine then_one ?_;  first | refine q_then ?_ | refine q_then_ret ?_) | (refine block_one ?_;  first | refine q_block_ret ?_))
        all_goals first
          | exact absurd rfl (by assumption)
          | (refine aexit_eq (by first | exact .inl rfl | exact .inr rfl) (results_2 rfl (resOk_tmp rfl) (resOk_tmp rfl)) rfl ?_; rfl)
          | (exfalso; simp_all [eqB]; done)
      | true =>
        rw [hsp] at hQ
        rw [if_neg (by simp)] at hQ
        unfold spOk at hsp
        have c3 := nLong_a long hl
        have c4 := nSplit_a long hl
        obtain ⟨hsl, hsz⟩ := split_fine long
        cases hlg : longP long with
        | false =>
          rw [hlg] at c3 hQ
          rw [if_pos rfl] at hQ
          subst hQ
          clear c4
          refine acalls_plain Tryd.func9 rfl rfl (Nat.le_of_ble_eq_true rfl) rfl ?_
          repeat' (first | refine aops_nil ?_ | (refine aops_one ?_;  first | refine aops_quiet tabOk rfl rfl rfl (Nat.le_of_ble_eq_true rfl) rfl ?_ | refine aops_skip rfl rfl (Nat.le_of_ble_eq_true rfl) ?_ | (refine aops_cmp rfl rfl rfl (Nat.le_of_ble_eq_true rfl) rfl rfl rfl (fun hq => ?_) (fun hq => ?_) <;> (first | (simp only [decide_eq_true_eq, decide_eq_false_iff_not, beq_iff_eq, beq_eq_false_iff_ne, bne_iff_ne, bne_eq_false_iff_eq, Bool.not_eq_true', Bool.not_eq_false'] at hq; first | (exfalso; omega) | skip) | skip)) | refine aops_call rfl rfl (Nat.le_of_ble_eq_true rfl) rfl rfl rfl rfl (c1) ?_ | refine aops_call rfl rfl (Nat.le_of_ble_eq_true rfl) rfl rfl rfl rfl (c2) ?_ | refine aops_call rfl rfl (Nat.le_of_ble_eq_true rfl) rfl rfl rfl rfl (c3) ?_) | (refine awp_one ?_;  first | refine awp_sreg ?_ | refine awp_seq ?_ | refine awp_block ?_ | refine awp_ret ?_ | refine awp_skip ?_ | refine awp_cond (b := true) rfl (fun _ => ?_) (fun h => Bool.noConfusion h) | refine awp_cond (b := false) rfl (fun h => Bool.noConfusion h) (fun _ => ?_)) | (refine then_one ?_;  first | refine q_then ?_ | refine q_then_ret ?_) | (refine block_one ?_;  first | refine q_block_ret ?_))
          all_goals first
            | exact absurd rfl (by assumption)
            | (exfalso; simp_all [eqB]; done)
            | (refine aexit_eq (by first | exact .inl rfl | exact .inr rfl) (results_2 rfl (resOk_tmp rfl) (resOk_tmp rfl)) rfl ?_; rfl)
        | true =>
          rw [hlg] at c3 hQ
          rw [if_neg (by simp)] at hQ
          generalize splitP long = l at *
          refine acalls_plain Tryd.func9 rfl rfl (Nat.le_of_ble_eq_true rfl) rfl ?_
          repeat' (first | refine aops_nil ?_ | (refine aops_one ?_;  first | refine aops_quiet tabOk rfl rfl rfl (Nat.le_of_ble_eq_true rfl) rfl ?_ | refine aops_skip rfl rfl (Nat.le_of_ble_eq_true rfl) ?_ | (refine aops_cmp rfl rfl rfl (Nat.le_of_ble_eq_true rfl) rfl rfl rfl (fun hq => ?_) (fun hq => ?_) <;> (first | (simp only [decide_eq_true_eq, decide_eq_false_iff_not, beq_iff_eq, beq_eq_false_iff_ne, bne_iff_ne, bne_eq_false_iff_eq, Bool.not_eq_true', Bool.not_eq_false'] at hq; first | (exfalso; omega) | skip) | skip)) | refine aops_call rfl rfl (Nat.le_of_ble_eq_true rfl) rfl rfl rfl rfl (c1) ?_ | refine aops_call rfl rfl (Nat.le_of_ble_eq_true rfl) rfl rfl rfl rfl (c2) ?_ | refine aops_call rfl rfl (Nat.le_of_ble_eq_true rfl) rfl rfl rfl rfl (c3) ?_ | refine aops_call rfl rfl (Nat.le_of_ble_eq_true rfl) rfl rfl rfl rfl (c4) ?_ | refine aops_pure tabOk rfl rfl (Nat.le_of_ble_eq_true rfl) rfl ?_) | (refine awp_one ?_;  first | refine awp_sreg ?_ | refine awp_seq ?_ | refine awp_block ?_ | refine awp_ret ?_ | refine awp_skip ?_ | refine awp_cond (b := true) rfl (fun _ => ?_) (fun h => Bool.noConfusion h) | refine awp_cond (b := false) rfl (fun h => Bool.noConfusion h) (fun _ => ?_)) | (refine then_one ?_;  first | refine q_then ?_ | refine q_then_ret ?_) | (refine block_one ?_;  first | refine q_block ?_ | refine q_block_ret ?_))
          all_goals first
            | exact absurd rfl (by assumption)
            | (exfalso; simp_all [eqB]; done)
            | skip
          all_goals (
            clear hsp
            refine awp_loop (ι := {p : Nat × Tree // p.1 ≤ l.length ∧ isSigP p.2 = true ∧ p.2.whole = true ∧ p.2.size ≤ 100000 ∧ atS space (l.drop p.1) p.2 = Q}) (fun p => S.f ⟨[(43, .imm (.lit (.int .i64 (p.1.1 : Int)))), (42, .imm (.lit (.int .i64 (l.length : Int)))), (41, .imm (.sl false l.length (strs l))), (9, .imm (.sl false l.length (strs l))), (0, .imm p.1.2.iv), (1, .imm (.lit (.string space)))], []⟩) (fun p => l.length - p.1.1) ⟨(0, t), Nat.zero_le _, hsig, hw, hs, hQ⟩ (le_of (by repeat' first | exact trivial | refine ⟨rfl, ?_⟩) (by repeat' first | exact trivial | refine ⟨rfl, ?_⟩)) ?_
            rintro ⟨⟨j, u⟩, hj, us, uw, uz, hu⟩
            dsimp only at hj us uw uz hu ⊢
            clear c1 c2 c3 c4 hw hz hsig hs hc hQ hlg
            by_cases hlt : j < l.length
            · rw [List.drop_eq_getElem_cons hlt, atS, empty_drop l j hlt] at hu
              have hget := strs_get l j hlt
              have hsj := hsz _ (List.getElem_mem hlt)
              have s1 : (⟨#[109, 58]⟩ : ByteArray).size = 2 := rfl
              have s2 : (⟨#[58]⟩ : ByteArray).size = 1 := rfl
              have hf := fieldP_sig us uw (labS space (decide (j + 1 = l.length)) l[j])
              have hkf := sig_field_kids us
              generalize l[j] = s at *
              obtain ⟨k, n, a, b, kids, rfl⟩ := whole_node uw
              have hkl : kids.length < 1000000000 := by have := length_sizes kids uw; simp only [Tree.size] at uz; omega
              change ∀ t ∈ kids, _ at hkf
              have ekk : (Tree.node k n a b kids).kids = kids := rfl
              rw [ekk] at hu hf
              have ci := fun label => indexFunc1_a kids 26 (.lit (.string label)) (isLab label) hkl (fun j h => isLabAt_a _ label (wholes_mem uw (List.getElem_mem h)))
              by_cases hlast : j + 1 = l.length
              · rw [decide_eq_true hlast] at hu hf
                rw [labS_t] at hu hf
                replace ci := ci ((space ++ ⟨#[58]⟩) ++ s)
                rcases fieldP_find ((space ++ ⟨#[58]⟩) ++ s) kids 0 with ⟨h1, h2⟩ | ⟨i, h1, h2, h3, h4⟩
                · rw [h2] at hu
                  rw [if_neg (by simp)] at hu
                  subst hu
                  generalize findP (isLab ((space ++ ⟨#[58]⟩) ++ s)) kids 0 = Z at *
                  repeat' (first | refine aops_nil ?_ | (refine aops_one ?_;  first | refine aops_quiet tabOk rfl rfl rfl (Nat.le_of_ble_eq_true rfl) rfl ?_ | (refine aops_cmp rfl rfl rfl (Nat.le_of_ble_eq_true rfl) rfl rfl rfl (fun hq => ?_) (fun hq => ?_) <;> (first | (simp only [decide_eq_true_eq, decide_eq_false_iff_not, beq_iff_eq, beq_eq_false_iff_ne, bne_iff_ne, bne_eq_false_iff_eq, Bool.not_eq_true', Bool.not_eq_false'] at hq; first | (exfalso; omega) | skip) | skip)) | refine aops_load1 tabOk rfl rfl rfl (Nat.le_of_ble_eq_true rfl) rfl rfl rfl hget ?_ | refine aops_concat rfl rfl rfl (Nat.le_of_ble_eq_true rfl) rfl rfl (by first | omega | (simp only [ba_size_append]; omega)) ?_ | refine aops_allocg 1001 tabOk rfl rfl rfl (Nat.le_of_ble_eq_true rfl) rfl rfl rfl rfl rfl rfl ?_ | refine aops_callm rfl rfl (Nat.le_of_ble_eq_true rfl) rfl rfl rfl rfl ci (by repeat' first | exact trivial | refine ⟨rfl, ?_⟩) rfl (by show ([1001] : List Nat).Nodup; decide) ?_ | refine aops_sub rfl rfl rfl (Nat.le_of_ble_eq_true rfl) rfl rfl rfl (by omega) (by omega) ?_ | refine aops_pure tabOk rfl rfl (Nat.le_of_ble_eq_true rfl) rfl ?_ | refine aops_storem tabOk rfl rfl rfl rfl rfl rfl rfl rfl rfl rfl rfl ?_ | refine aops_index tabOk rfl rfl rfl (Nat.le_of_ble_eq_true rfl) rfl rfl rfl rfl (by first | assumption | omega) ?_) | (refine awp_one ?_;  first | refine awp_sreg ?_ | refine awp_seq ?_ | refine awp_region ?_ | refine awp_block ?_ | refine awp_ret ?_ | refine awp_skip ?_ | refine awp_cond (b := true) rfl (fun _ => ?_) (fun h => Bool.noConfusion h)) | (refine then_one ?_;  first | refine q_then ?_ | refine q_then_ret ?_) | (refine block_one ?_;  first | refine q_block_ret ?_))
                  all_goals first
                    | (exfalso; omega)
                    | (refine aexit_eq (by first | exact .inl rfl | exact .inr rfl) (results_2 rfl (resOk_tmp rfl) (resOk_tmp rfl)) rfl ?_; rfl)
                · rw [h3] at hu hf
                  rw [if_pos rfl] at hu
                  rw [h2, Nat.add_zero] at ci
                  obtain ⟨g1, g2, g3⟩ := hf rfl
                  dsimp only at hu g1 g2 g3
                  have hm := List.getElem_mem h1
                  unfold isLab at h4
                  rw [Bool.and_eq_true, decide_eq_true_eq] at h4
                  obtain ⟨n', a', b', c, e⟩ := hkf _ hm h4.1
                  have hget2 := ivs_get kids i h1
                  rw [e] at hget2 hu g1 g2 g3
                  dsimp only [kid0] at hu g1 g2 g3
                  clear h2 h3 h4 e hm hf hkf
                  repeat' (first | refine aops_nil ?_ | (refine aops_one ?_;  first | refine aops_quiet tabOk rfl rfl rfl (Nat.le_of_ble_eq_true rfl) rfl ?_ | (refine aops_cmp rfl rfl rfl (Nat.le_of_ble_eq_true rfl) rfl rfl rfl (fun hq => ?_) (fun hq => ?_) <;> (first | (simp only [decide_eq_true_eq, decide_eq_false_iff_not, beq_iff_eq, beq_eq_false_iff_ne, bne_iff_ne, bne_eq_false_iff_eq, Bool.not_eq_true', Bool.not_eq_false'] at hq; first | (exfalso; omega) | skip) | skip)) | refine aops_load1 tabOk rfl rfl rfl (Nat.le_of_ble_eq_true rfl) rfl rfl rfl hget ?_ | refine aops_concat rfl rfl rfl (Nat.le_of_ble_eq_true rfl) rfl rfl (by first | omega | (simp only [ba_size_append]; omega)) ?_ | refine aops_load1 tabOk rfl rfl rfl (Nat.le_of_ble_eq_true rfl) rfl rfl rfl hget2 ?_ | refine aops_allocg 1001 tabOk rfl rfl rfl (Nat.le_of_ble_eq_true rfl) rfl rfl rfl rfl rfl rfl ?_ | refine aops_callm rfl rfl (Nat.le_of_ble_eq_true rfl) rfl rfl rfl rfl ci (by repeat' first | exact trivial | refine ⟨rfl, ?_⟩) rfl (by show ([1001] : List Nat).Nodup; decide) ?_ | refine aops_inc rfl rfl rfl (Nat.le_of_ble_eq_true rfl) rfl rfl (by omega) ?_ | refine aops_sub rfl rfl rfl (Nat.le_of_ble_eq_true rfl) rfl rfl rfl (by omega) (by omega) ?_ | refine aops_pure tabOk rfl rfl (Nat.le_of_ble_eq_true rfl) rfl ?_ | refine aops_storem tabOk rfl rfl rfl rfl rfl rfl rfl rfl rfl rfl rfl ?_ | refine aops_index tabOk rfl rfl rfl (Nat.le_of_ble_eq_true rfl) rfl rfl rfl rfl (by first | assumption | omega) ?_ | refine aops_index0 tabOk rfl rfl rfl (Nat.le_of_ble_eq_true rfl) rfl rfl rfl rfl (by first | rfl | omega) (by first | omega | simp) ?_) | (refine awp_one ?_;  first | refine awp_sreg ?_ | refine awp_seq ?_ | refine awp_region ?_ | refine awp_block ?_ | refine awp_skip ?_ | refine awp_cond (b := true) rfl (fun _ => ?_) (fun h => Bool.noConfusion h) | refine awp_cond (b := false) rfl (fun h => Bool.noConfusion h) (fun _ => ?_)) | (refine then_one ?_;  first | refine q_then ?_) | (refine block_one ?_;  first | refine q_block ?_))
                  all_goals first
                    | (exfalso; omega)
                    | exact ⟨⟨(j + 1, c), hlt, g1, g2, Nat.le_trans (Nat.le_of_lt g3) uz, hu⟩, (by show l.length - (j + 1) < l.length - j; omega), (le_of (by repeat' first | exact trivial | refine ⟨rfl, ?_⟩) (by repeat' first | exact trivial | refine ⟨rfl, ?_⟩))⟩
              · rw [decide_eq_false hlast] at hu hf
                rw [labS_f] at hu hf
                replace ci := ci (⟨#[109, 58]⟩ ++ s)
                rcases fieldP_find (⟨#[109, 58]⟩ ++ s) kids 0 with ⟨h1, h2⟩ | ⟨i, h1, h2, h3, h4⟩
                · rw [h2] at hu
                  rw [if_neg (by simp)] at hu
                  subst hu
                  generalize findP (isLab (⟨#[109, 58]⟩ ++ s)) kids 0 = Z at *
                  repeat' (first | refine aops_nil ?_ | (refine aops_one ?_;  first | refine aops_quiet tabOk rfl rfl rfl (Nat.le_of_ble_eq_true rfl) rfl ?_ | (refine aops_cmp rfl rfl rfl (Nat.le_of_ble_eq_true rfl) rfl rfl rfl (fun hq => ?_) (fun hq => ?_) <;> (first | (simp only [decide_eq_true_eq, decide_eq_false_iff_not, beq_iff_eq, beq_eq_false_iff_ne, bne_iff_ne, bne_eq_false_iff_eq, Bool.not_eq_true', Bool.not_eq_false'] at hq; first | (exfalso; omega) | skip) | skip)) | refine aops_load1 tabOk rfl rfl rfl (Nat.le_of_ble_eq_true rfl) rfl rfl rfl hget ?_ | refine aops_concat rfl rfl rfl (Nat.le_of_ble_eq_true rfl) rfl rfl (by first | omega | (simp only [ba_size_append]; omega)) ?_ | refine aops_allocg 1001 tabOk rfl rfl rfl (Nat.le_of_ble_eq_true rfl) rfl rfl rfl rfl rfl rfl ?_ | refine aops_callm rfl rfl (Nat.le_of_ble_eq_true rfl) rfl rfl rfl rfl ci (by repeat' first | exact trivial | refine ⟨rfl, ?_⟩) rfl (by show ([1001] : List Nat).Nodup; decide) ?_ | refine aops_sub rfl rfl rfl (Nat.le_of_ble_eq_true rfl) rfl rfl rfl (by omega) (by omega) ?_ | refine aops_pure tabOk rfl rfl (Nat.le_of_ble_eq_true rfl) rfl ?_ | refine aops_storem tabOk rfl rfl rfl rfl rfl rfl rfl rfl rfl rfl rfl ?_ | refine aops_index tabOk rfl rfl rfl (Nat.le_of_ble_eq_true rfl) rfl rfl rfl rfl (by first | assumption | omega) ?_) | (refine awp_one ?_;  first | refine awp_sreg ?_ | refine awp_seq ?_ | refine awp_block ?_ | refine awp_ret ?_ | refine awp_skip ?_ | refine awp_cond (b := true) rfl (fun _ => ?_) (fun h => Bool.noConfusion h) | refine awp_cond (b := false) rfl (fun h => Bool.noConfusion h) (fun _ => ?_)) | (refine then_one ?_;  first | refine q_then ?_ | refine q_then_ret ?_) | (refine block_one ?_;  first | refine q_block_ret ?_))
                  all_goals first
                    | (exfalso; omega)
                    | (refine aexit_eq (by first | exact .inl rfl | exact .inr rfl) (results_2 rfl (resOk_tmp rfl) (resOk_tmp rfl)) rfl ?_; rfl)
                · rw [h3] at hu hf
                  rw [if_pos rfl] at hu
                  rw [h2, Nat.add_zero] at ci
                  obtain ⟨g1, g2, g3⟩ := hf rfl
                  dsimp only at hu g1 g2 g3
                  have hm := List.getElem_mem h1
                  unfold isLab at h4
                  rw [Bool.and_eq_true, decide_eq_true_eq] at h4
                  obtain ⟨n', a', b', c, e⟩ := hkf _ hm h4.1
                  have hget2 := ivs_get kids i h1
                  rw [e] at hget2 hu g1 g2 g3
                  dsimp only [kid0] at hu g1 g2 g3
                  clear h2 h3 h4 e hm hf hkf
                  repeat' (first | refine aops_nil ?_ | (refine aops_one ?_;  first | refine aops_quiet tabOk rfl rfl rfl (Nat.le_of_ble_eq_true rfl) rfl ?_ | (refine aops_cmp rfl rfl rfl (Nat.le_of_ble_eq_true rfl) rfl rfl rfl (fun hq => ?_) (fun hq => ?_) <;> (first | (simp only [decide_eq_true_eq, decide_eq_false_iff_not, beq_iff_eq, beq_eq_false_iff_ne, bne_iff_ne, bne_eq_false_iff_eq, Bool.not_eq_true', Bool.not_eq_false'] at hq; first | (exfalso; omega) | skip) | skip)) | refine aops_load1 tabOk rfl rfl rfl (Nat.le_of_ble_eq_true rfl) rfl rfl rfl hget ?_ | refine aops_concat rfl rfl rfl (Nat.le_of_ble_eq_true rfl) rfl rfl (by first | omega | (simp only [ba_size_append]; omega)) ?_ | refine aops_load1 tabOk rfl rfl rfl (Nat.le_of_ble_eq_true rfl) rfl rfl rfl hget2 ?_ | refine aops_allocg 1001 tabOk rfl rfl rfl (Nat.le_of_ble_eq_true rfl) rfl rfl rfl rfl rfl rfl ?_ | refine aops_callm rfl rfl (Nat.le_of_ble_eq_true rfl) rfl rfl rfl rfl ci (by repeat' first | exact trivial | refine ⟨rfl, ?_⟩) rfl (by show ([1001] : List Nat).Nodup; decide) ?_ | refine aops_inc rfl rfl rfl (Nat.le_of_ble_eq_true rfl) rfl rfl (by omega) ?_ | refine aops_sub rfl rfl rfl (Nat.le_of_ble_eq_true rfl) rfl rfl rfl (by omega) (by omega) ?_ | refine aops_pure tabOk rfl rfl (Nat.le_of_ble_eq_true rfl) rfl ?_ | refine aops_storem tabOk rfl rfl rfl rfl rfl rfl rfl rfl rfl rfl rfl ?_ | refine aops_index tabOk rfl rfl rfl (Nat.le_of_ble_eq_true rfl) rfl rfl rfl rfl (by first | assumption | omega) ?_ | refine aops_index0 tabOk rfl rfl rfl (Nat.le_of_ble_eq_true rfl) rfl rfl rfl rfl (by first | rfl | omega) (by first | omega | simp) ?_) | (refine awp_one ?_;  first | refine awp_sreg ?_ | refine awp_seq ?_ | refine awp_region ?_ | refine awp_block ?_ | refine awp_skip ?_ | refine awp_cond (b := true) rfl (fun _ => ?_) (fun h => Bool.noConfusion h) | refine awp_cond (b := false) rfl (fun h => Bool.noConfusion h) (fun _ => ?_)) | (refine then_one ?_;  first | refine q_then ?_) | (refine block_one ?_;  first | refine q_block ?_))
                  all_goals first
                    | (exfalso; omega)
                    | exact ⟨⟨(j + 1, c), hlt, g1, g2, Nat.le_trans (Nat.le_of_lt g3) uz, hu⟩, (by show l.length - (j + 1) < l.length - j; omega), (le_of (by repeat' first | exact trivial | refine ⟨rfl, ?_⟩) (by repeat' first | exact trivial | refine ⟨rfl, ?_⟩))⟩
            · have ej : j = l.length := by omega
              subst ej
              rw [List.drop_length, atS] at hu
              subst hu
              obtain ⟨pu, hpu⟩ := iv_ptr (whole_ne uw)
              dsimp only
              rw [hpu]
              repeat' (first | refine aops_nil ?_ | (refine aops_one ?_;  first | refine aops_quiet tabOk rfl rfl rfl (Nat.le_of_ble_eq_true rfl) rfl ?_ | (refine aops_cmp rfl rfl rfl (Nat.le_of_ble_eq_true rfl) rfl rfl rfl (fun hq => ?_) (fun hq => ?_) <;> (first | (simp only [decide_eq_true_eq, decide_eq_false_iff_not, beq_iff_eq, beq_eq_false_iff_ne, bne_iff_ne, bne_eq_false_iff_eq, Bool.not_eq_true', Bool.not_eq_false'] at hq; first | (exfalso; omega) | skip) | skip))) | (refine awp_one ?_;  first | refine awp_sreg ?_ | refine awp_seq ?_ | refine awp_ret ?_ | refine awp_exit ?_ | refine awp_cond (b := false) rfl (fun h => Bool.noConfusion h) (fun _ => ?_)) | (refine then_one ?_;  first | refine q_then ?_ | refine q_then_exit ?_) | (refine block_one ?_;  first | refine q_block_exit ?_))
              all_goals first
                | (exfalso; omega)
                | (refine aexit_eq (by first | exact .inl rfl | exact .inr rfl) (results_2 rfl (resOk_tmp rfl) (resOk_tmp rfl)) rfl ?_; rfl))
  · rw [if_pos hc] at hQ
    subst hQ
    generalize checkP sformP t = C at *
    refine acalls_plain Tryd.func9 rfl rfl (Nat.le_of_ble_eq_true rfl) rfl ?_
    repeat' (first | refine aops_nil ?_ | (refine aops_one ?_;  first | refine aops_quiet tabOk rfl rfl rfl (Nat.le_of_ble_eq_true rfl) rfl ?_ | (refine aops_cmp rfl rfl rfl (Nat.le_of_ble_eq_true rfl) rfl rfl rfl (fun hq => ?_) (fun hq => ?_) <;> (first | (simp only [decide_eq_true_eq, decide_eq_false_iff_not, beq_iff_eq, beq_eq_false_iff_ne, bne_iff_ne, bne_eq_false_iff_eq, Bool.not_eq_true', Bool.not_eq_false'] at hq; first | (exfalso; omega) | skip) | skip)) | refine aops_call rfl rfl (Nat.le_of_ble_eq_true rfl) rfl rfl rfl rfl (c1) ?_) | (refine awp_one ?_;  first | refine awp_sreg ?_ | refine awp_seq ?_ | refine awp_ret ?_ | refine awp_cond (b := true) rfl (fun _ => ?_) (fun h => Bool.noConfusion h)) | (refine then_one ?_;  first | refine q_then_ret ?_))
    all_goals first
      | exact absurd rfl (by assumption)
      | exact absurd (by assumption) hc
      | (refine aexit_eq (by first | exact .inl rfl | exact .inr rfl) (results_2 rfl (resOk_tmp rfl) (resOk_tmp rfl)) rfl ?_; rfl)
end Go.Proofs.YtdajnmffoopcaaaDoor.Ab
namespace Go.Proofs.YtdajnmffoopcaaaDoor.Ab
set_option linter.unusedVariables false
set_option linter.unusedSimpArgs false
attribute [local irreducible] AWP AOps AExit AThen ABlock ANoGoto FeetOk
set_option maxHeartbeats 8000000 in
set_option maxRecDepth 10000 in
theorem walk2_a {σ : Type} (V : Int → Int → σ → Tree × σ) (F : FuncId) (X0 X1 : σ → IV) (J : σ → Prop)
    (hV : ∀ (n d : Int) s, J s → 0 ≤ n → n ≤ 65536 → 0 ≤ d → d ≤ 1000000 → ACalls Tryd.prog F ([.imm (varT n).iv, .imm (.lit (.int .i64 d)), .obj 1000 0, .obj 1001 0]) [(1000, .cells [.imm (X0 s)]), (1001, .cells [.imm (X1 s)])] (.imm (V n d s).1.iv) [(1000, .cells [.imm (X0 ((V n d s).2))]), (1001, .cells [.imm (X1 ((V n d s).2))])] ∧ J (V n d s).2 ∧ (V n d s).1 ≠ .nil) (t : Tree) :
    ∀ (d : Int) s, okVars t = true → t.whole = true → 0 ≤ d → d + t.size ≤ 1000000 → J s → ACalls Tryd.prog 27 [.imm t.iv, .imm (.lit (.int .i64 d)), .func F [] [.obj 1000 0, .obj 1001 0]] [(1000, .cells [.imm (X0 s)]), (1001, .cells [.imm (X1 s)])] (.imm (walkS V t d s).1.iv) [(1000, .cells [.imm (X0 ((walkS V t d s).2))]), (1001, .cells [.imm (X1 ((walkS V t d s).2))])] ∧ J (walkS V t d s).2 ∧ (walkS V t d s).1 ≠ .nil := by
  induction t using Tree.ind with
  | h1 => intro d s _ h; simp [Tree.whole] at h
  | h2 k n a b kids ih =>
    intro d s hv hw hd hs hJ
    have hl := length_sizes kids hw
    have hsz : (Tree.node k n a b kids).size = 1 + Tree.sizes kids := by rw [Tree.size]
    rw [hsz] at hs
    by_cases k110 : k = 110
    · obtain ⟨q1, q2, rfl, rfl, rfl⟩ := okVars_var k110 hv
      subst k110
      have hc := hV n d s hJ q1 q2 hd (by omega)
      rw [walkS_var]
      refine ⟨?_, hc.2⟩
      have hc := hc.1
      generalize V n d s = R at *
      obtain ⟨R1, R2⟩ := R
      dsimp only at hc ⊢
      refine acalls_foot [1000, 1001] Tryd.func27 rfl rfl (Nat.le_of_ble_eq_true rfl) rfl rfl ?_
      repeat' (first | refine aops_nil ?_ | (refine aops_one ?_;  first | refine aops_quiet tabOk rfl rfl rfl (Nat.le_of_ble_eq_true rfl) rfl ?_ | (refine aops_cmp rfl rfl rfl (Nat.le_of_ble_eq_true rfl) rfl rfl rfl (fun hq => ?_) (fun hq => ?_) <;> (first | (simp only [decide_eq_true_eq, decide_eq_false_iff_not, beq_iff_eq, beq_eq_false_iff_ne, bne_iff_ne, bne_eq_false_iff_eq, Bool.not_eq_true', Bool.not_eq_false'] at hq; first | (exfalso; omega) | skip) | skip)) | refine aops_callm rfl rfl (Nat.le_of_ble_eq_true rfl) rfl rfl rfl rfl hc (by repeat' first | exact trivial | refine ⟨rfl, ?_⟩) rfl (by show ([1000, 1001] : List Nat).Nodup; decide) ?_) | (refine awp_one ?_;  first | refine awp_sreg ?_ | refine awp_seq ?_ | refine awp_ret ?_ | refine awp_cond (b := true) rfl (fun _ => ?_) (fun h => Bool.noConfusion h)) | (refine then_one ?_;  first | refine q_then_ret ?_))
      all_goals first
        | exact absurd rfl (by assumption)
        | (refine gexit_same (aexit_foot (by first | exact .inl rfl | exact .inr rfl) (results_1 rfl (resOk_tmp rfl)) rfl (by repeat' first | exact trivial | refine ⟨rfl, ?_⟩) rfl ?_); rfl)
    · by_cases hk0 : kids.length = 0
      · have e0 : kids = [] := List.eq_nil_of_length_eq_zero hk0
        subst e0
        rw [walkS_leaf _ _ _ _ k110]
        refine ⟨?_, hJ, by simp⟩
        refine acalls_foot [1000, 1001] Tryd.func27 rfl rfl (Nat.le_of_ble_eq_true rfl) rfl rfl ?_
        repeat' (first | refine aops_nil ?_ | (refine aops_one ?_;  first | refine aops_quiet tabOk rfl rfl rfl (Nat.le_of_ble_eq_true rfl) rfl ?_ | (refine aops_cmp rfl rfl rfl (Nat.le_of_ble_eq_true rfl) rfl rfl rfl (fun hq => ?_) (fun hq => ?_) <;> (first | (simp only [decide_eq_true_eq, decide_eq_false_iff_not, beq_iff_eq, beq_eq_false_iff_ne, bne_iff_ne, bne_eq_false_iff_eq, Bool.not_eq_true', Bool.not_eq_false'] at hq; first | (exfalso; omega) | skip) | skip)) | refine aops_pure tabOk rfl rfl (Nat.le_of_ble_eq_true rfl) rfl ?_) | (refine awp_one ?_;  first | refine awp_sreg ?_ | refine awp_seq ?_ | refine awp_ret ?_ | refine awp_skip ?_ | refine awp_cond (b := true) rfl (fun _ => ?_) (fun h => Bool.noConfusion h) | refine awp_cond (b := false) rfl (fun h => Bool.noConfusion h) (fun _ => ?_)) | (refine then_one ?_;  first | refine q_then ?_ | refine q_then_ret ?_))
        all_goals first
          | exact absurd rfl (by assumption)
          | exact absurd (by assumption) k110
          | (refine gexit_same (aexit_foot (by first | exact .inl rfl | exact .inr rfl) (results_1 rfl (resOk_tmp rfl)) rfl (by repeat' first | exact trivial | refine ⟨rfl, ?_⟩) rfl ?_); rfl)
      · rw [walkS_node _ _ _ _ k110 hk0]
        dsimp only
        have hb := bindsP_le k
        have hvs := okVars_kids k110 hv
        have hind : ∀ j (h : j < kids.length) s', J s' → ACalls Tryd.prog 27 [.imm kids[j].iv, .imm (.lit (.int .i64 (d + bindsP k))), .func F [] [.obj 1000 0, .obj 1001 0]] [(1000, .cells [.imm (X0 s')]), (1001, .cells [.imm (X1 s')])] (.imm (walkS V kids[j] (d + bindsP k) s').1.iv) [(1000, .cells [.imm (X0 ((walkS V kids[j] (d + bindsP k) s').2))]), (1001, .cells [.imm (X1 ((walkS V kids[j] (d + bindsP k) s').2))])] ∧ J (walkS V kids[j] (d + bindsP k) s').2 ∧ (walkS V kids[j] (d + bindsP k) s').1 ≠ .nil := fun j h s' hJ' => by
          have hm := List.getElem_mem h
          have hz := sizes_mem hm
          exact ih _ hm _ s' (hvs _ hm) (wholes_mem hw hm) (by omega) (by omega) hJ'
        clear ih
        have hJs : ∀ j, j ≤ kids.length → J (walkSs V (kids.take j) (d + bindsP k) s).2 := by
          intro j
          induction j with
          | zero => intro _; rw [List.take_zero, walkSs_nil]; exact hJ
          | succ j ihj =>
            intro hj
            rw [walkSs_take V (d + bindsP k) s hj]
            exact (hind j hj _ (ihj (by omega))).2.1
        have hJe := hJs kids.length (Nat.le_refl _)
        rw [List.take_length] at hJe
        refine ⟨?_, hJe, by simp⟩
        clear hJe
        have cb := binds_a k n a b kids
        refine acalls_foot [1000, 1001] Tryd.func27 rfl rfl (Nat.le_of_ble_eq_true rfl) rfl rfl ?_
        repeat' (first | refine aops_nil ?_ | (refine aops_one ?_;  first | refine aops_quiet tabOk rfl rfl rfl (Nat.le_of_ble_eq_true rfl) rfl ?_ | (refine aops_cmp rfl rfl rfl (Nat.le_of_ble_eq_true rfl) rfl rfl rfl (fun hq => ?_) (fun hq => ?_) <;> (first | (simp only [decide_eq_true_eq, decide_eq_false_iff_not, beq_iff_eq, beq_eq_false_iff_ne, bne_iff_ne, bne_eq_false_iff_eq, Bool.not_eq_true', Bool.not_eq_false'] at hq; first | (exfalso; omega) | skip) | skip)) | refine aops_pure tabOk rfl rfl (Nat.le_of_ble_eq_true rfl) rfl ?_ | refine aops_alloc tabOk rfl rfl rfl (Nat.le_of_ble_eq_true rfl) rfl rfl rfl rfl rfl rfl ?_ | refine aops_storem tabOk rfl rfl rfl rfl rfl rfl rfl rfl rfl rfl rfl ?_) | (refine awp_one ?_;  first | refine awp_sreg ?_ | refine awp_seq ?_ | refine awp_block ?_ | refine awp_skip ?_ | refine awp_cond (b := false) rfl (fun h => Bool.noConfusion h) (fun _ => ?_)) | (refine then_one ?_;  first | refine q_then ?_))
        all_goals first
          | exact absurd (by assumption) k110
          | (exfalso; omega)
          | skip
        refine awp_imp (imp_nilc (h0 := 7) (k0 := 4) 500 25 1 rfl rfl (by simp) rfl rfl) ?_
        refine awp_loop (ι := {j : Nat // j ≤ kids.length}) (fun j => S.f ⟨[(35, .imm (.lit (.int .i64 (j.1 : Int)))), (34, .imm (.lit (.int .i64 (kids.length : Int)))), (33, .imm (.sl false kids.length (Tree.ivs kids))), (7, .obj 7 0), (0, .imm (Tree.iv (.node k n a b kids))), (1, .imm (.lit (.int .i64 d))), (2, .func F [] [.obj 1000 0, .obj 1001 0])], (500, .arr 25 1 j.1 (Tree.ivs (walkSs V (kids.take j.1) (d + bindsP k) s).1)) :: (7, .cells [.imm (.lit (.int .i64 k)), .imm (.lit (.int .i64 n)), .imm (.lit (.string a)), .imm (.lit (.string b)), .ref 500 j.1]) :: [(1000, .cells [.imm (X0 ((walkSs V (kids.take j.1) (d + bindsP k) s).2))]), (1001, .cells [.imm (X1 ((walkSs V (kids.take j.1) (d + bindsP k) s).2))])]⟩) (fun j => kids.length - j.1) ⟨0, Nat.zero_le _⟩ (le_of (by repeat' first | exact trivial | refine ⟨rfl, ?_⟩) (by repeat' first | exact trivial | refine ⟨rfl, ?_⟩)) ?_
        rintro ⟨j, hj⟩
        dsimp only
        by_cases hlt : j < kids.length
        · have hget := ivs_get kids j hlt
          have hnx := walkSs_take V (d + bindsP k) s hlt
          obtain ⟨hc, _, hnn⟩ := hind j hlt _ (hJs j hj)
          obtain ⟨pc, hpc⟩ := iv_ptr hnn
          rw [hpc] at hc
          have hll := walkSs_len V (kids.take j) (d + bindsP k) s
          rw [List.length_take, Nat.min_eq_left hj] at hll
          have hiv : Tree.ivs (walkSs V (kids.take (j + 1)) (d + bindsP k) s).1 = Tree.ivs (walkSs V (kids.take j) (d + bindsP k) s).1 ++ [(walkS V kids[j] (d + bindsP k) (walkSs V (kids.take j) (d + bindsP k) s).2).1.iv] := by
            rw [hnx, ivs_map, ivs_map, List.map_append]; rfl
          rw [hpc] at hiv
          clear hpc hnn
          have hst : (walkSs V (kids.take (j + 1)) (d + bindsP k) s).2 = (walkS V kids[j] (d + bindsP k) (walkSs V (kids.take j) (d + bindsP k) s).2).2 := by rw [hnx]
          clear hnx hind hJs
          have hil := ivs_length (walkSs V (kids.take j) (d + bindsP k) s).1
          rw [hll] at hil
          generalize walkS V kids[j] (d + bindsP k) (walkSs V (kids.take j) (d + bindsP k) s).2 = W at *
          generalize walkSs V (kids.take j) (d + bindsP k) s = Z at *
          obtain ⟨W1, W2⟩ := W
          obtain ⟨Z1, Z2⟩ := Z
          dsimp only at *
          generalize Tree.ivs Z1 = ZI at *
          generalize hsum : d + bindsP k = dk at *
          repeat' (first | refine aops_nil ?_ | (refine aops_one ?_;  first | refine aops_quiet tabOk rfl rfl rfl (Nat.le_of_ble_eq_true rfl) rfl ?_ | (refine aops_cmp rfl rfl rfl (Nat.le_of_ble_eq_true rfl) rfl rfl rfl (fun hq => ?_) (fun hq => ?_) <;> (first | (simp only [decide_eq_true_eq, decide_eq_false_iff_not, beq_iff_eq, beq_eq_false_iff_ne, bne_iff_ne, bne_eq_false_iff_eq, Bool.not_eq_true', Bool.not_eq_false'] at hq; first | (exfalso; omega) | skip) | skip)) | refine aops_load1 tabOk rfl rfl rfl (Nat.le_of_ble_eq_true rfl) rfl rfl rfl hget ?_ | refine aops_call rfl rfl (Nat.le_of_ble_eq_true rfl) rfl rfl rfl rfl (cb) ?_ | refine aops_add (z := dk) rfl rfl rfl (Nat.le_of_ble_eq_true rfl) rfl rfl hsum (by omega) (by omega) ?_ | refine aops_callm rfl rfl (Nat.le_of_ble_eq_true rfl) rfl rfl rfl rfl hc (by repeat' first | exact trivial | refine ⟨rfl, ?_⟩) rfl (by show ([1000, 1001] : List Nat).Nodup; decide) ?_ | refine aops_append tabOk rfl rfl rfl (Nat.le_of_ble_eq_true rfl) rfl rfl rfl rfl rfl rfl rfl (by first | omega | decide) rfl (by first | omega | (dsimp only; omega)) (by first | omega | (dsimp only; omega)) ?_ | refine aops_inc rfl rfl rfl (Nat.le_of_ble_eq_true rfl) rfl rfl (by omega) ?_ | refine aops_list tabOk rfl rfl rfl (Nat.le_of_ble_eq_true rfl) rfl rfl rfl rfl rfl rfl rfl rfl rfl ?_ | refine aops_loadm tabOk rfl rfl rfl (Nat.le_of_ble_eq_true rfl) rfl rfl rfl rfl ?_ | refine aops_storem tabOk rfl rfl rfl rfl rfl rfl rfl rfl rfl rfl rfl ?_ | refine aops_index tabOk rfl rfl rfl (Nat.le_of_ble_eq_true rfl) rfl rfl rfl rfl (by first | assumption | omega) ?_) | (refine awp_one ?_;  first | refine awp_sreg ?_ | refine awp_seq ?_ | refine awp_region ?_ | refine awp_block ?_ | refine awp_skip ?_ | refine awp_cond (b := true) rfl (fun _ => ?_) (fun h => Bool.noConfusion h) | refine awp_region_draw mixed (by kernel_rfl) ?_) | (refine then_one ?_;  first | refine q_then ?_) | (refine block_one ?_;  first | refine q_block ?_) | refine feet_one (feetOk_of (by kernel_rfl)) ?_)
          all_goals first
            | (exfalso; omega)
            | (refine ⟨⟨j + 1, hlt⟩, (by show kids.length - (j + 1) < kids.length - j; omega), ?_⟩; dsimp only; rw [hiv, hst]; exact (le_of (by repeat' first | exact trivial | refine ⟨rfl, ?_⟩) (by repeat' first | exact trivial | refine ⟨rfl, ?_⟩)))
        · have ej : j = kids.length := by omega
          subst ej
          rw [List.take_length]
          have hll := walkSs_len V kids (d + bindsP k) s
          clear hind hJs
          generalize walkSs V kids (d + bindsP k) s = Z at *
          obtain ⟨Z1, Z2⟩ := Z
          dsimp only at *
          have hiv : (Tree.node k n a b Z1).iv = .ptr [.lit (.int .i64 k), .lit (.int .i64 n), .lit (.string a), .lit (.string b), .sl false kids.length (Tree.ivs Z1)] 0 := by rw [Tree.iv, hll]
          rw [hiv]
          generalize Tree.ivs Z1 = ZI at *
          repeat' (first | refine aops_nil ?_ | (refine aops_one ?_;  first | refine aops_quiet tabOk rfl rfl rfl (Nat.le_of_ble_eq_true rfl) rfl ?_ | (refine aops_cmp rfl rfl rfl (Nat.le_of_ble_eq_true rfl) rfl rfl rfl (fun hq => ?_) (fun hq => ?_) <;> (first | (simp only [decide_eq_true_eq, decide_eq_false_iff_not, beq_iff_eq, beq_eq_false_iff_ne, bne_iff_ne, bne_eq_false_iff_eq, Bool.not_eq_true', Bool.not_eq_false'] at hq; first | (exfalso; omega) | skip) | skip))) | (refine awp_one ?_;  first | refine awp_sreg ?_ | refine awp_seq ?_ | refine awp_ret ?_ | refine awp_exit ?_ | refine awp_cond (b := false) rfl (fun h => Bool.noConfusion h) (fun _ => ?_)) | (refine then_one ?_;  first | refine q_then ?_ | refine q_then_exit ?_) | (refine block_one ?_;  first | refine q_block_exit ?_))
          all_goals first
            | (exfalso; omega)
            | (refine gexit_imp ((Imp.of_le (σ' := S.f ⟨[(6, .obj 7 0)], (500, .arr 25 1 kids.length ZI) :: (7, .cells [.imm (.lit (.int .i64 k)), .imm (.lit (.int .i64 n)), .imm (.lit (.string a)), .imm (.lit (.string b)), .ref 500 kids.length]) :: [(1000, .cells [.imm (X0 Z2)]), (1001, .cells [.imm (X1 Z2)])]⟩) (le_of (by repeat' first | exact trivial | refine ⟨rfl, ?_⟩) (by repeat' first | exact trivial | refine ⟨rfl, ?_⟩))).trans ((imp_freezeR (g := 500) rfl (by repeat' first | exact trivial | exact fun _ => rfl | refine ⟨?_, ?_⟩) (by repeat' first | exact trivial | exact fun _ => rfl | refine ⟨?_, ?_⟩)).trans (imp_freeze (g := 7) rfl rfl))) ?_
               refine aexit_foot (by first | exact .inl rfl | exact .inr rfl) (results_1 rfl (resOk_tmp rfl)) rfl (by repeat' first | exact trivial | refine ⟨rfl, ?_⟩) rfl rfl)
end Go.Proofs.YtdajnmffoopcaaaDoor.Ab
namespace Go.Proofs.YtdajnmffoopcaaaDoor.Ab
set_option linter.unusedVariables false
set_option linter.unusedSimpArgs false
/-- What Occurs makes of a variable. -/
def occV (i n d : Int) (s : Bool) : Tree × Bool := (varT n, s || decide (0 ≤ i ∧ d ≤ n ∧ n - d = i))
def occP (c : Tree) (i : Int) : Bool := decide (checkP isConP c = 0) && decide (0 ≤ i ∧ 0 < cntP i c 0)
theorem occ_cnt (i : Int) (t : Tree) : ∀ d s, okVars t = true → (walkS (occV i) t d s).2 = (s || decide (0 ≤ i ∧ 0 < cntP i t d)) := by
  induction t using Tree.ind with
  | h1 => intro d s h; simp [okVars] at h
  | h2 k n a b kids ih =>
    intro d s hv
    by_cases hk : k = 110
    · obtain ⟨_, _, rfl, rfl, rfl⟩ := okVars_var hk hv
      subst hk
      rw [walkS_var, cntP, cntPs]
      unfold occV
      dsimp only
      congr 1
      by_cases h : d ≤ n ∧ n - d = i
      · rw [if_pos ⟨rfl, h⟩]
        exact decide_eq_decide.2 ⟨fun h1 => ⟨h1.1, by omega⟩, fun h1 => ⟨h1.1, h⟩⟩
      · rw [if_neg fun h1 => h h1.2]
        exact decide_eq_decide.2 ⟨fun h1 => absurd h1.2 h, fun h1 => absurd h1.2 (by omega)⟩
    · have hvs := okVars_kids hk hv
      rw [walkS_any _ _ _ _ kids hk, cntP, if_neg fun h1 => hk h1.1, Nat.zero_add]
      have key : ∀ l : List Tree, (∀ t ∈ l, t ∈ kids) → ∀ s, (walkSs (occV i) l (d + bindsP k) s).2 = (s || decide (0 ≤ i ∧ 0 < cntPs i l (d + bindsP k))) := by
        intro l
        induction l with
        | nil => intro _ s; rw [walkSs, cntPs]; simp
        | cons t ts ih2 =>
          intro hm s
          rw [walkSs, cntPs]
          dsimp only
          rw [ih2 (fun t' h' => hm t' (by simp [h'])), ih t (hm t (by simp)) _ _ (hvs t (hm t (by simp))), Bool.or_assoc]
          congr 1
          rw [← Bool.decide_or]
          exact decide_eq_decide.2 (by omega)
      exact key kids (fun _ h => h) s
theorem walkS_le {σ : Type} (V : Int → Int → σ → Tree × σ) (B : Nat) (hB : 1 ≤ B) (hV : ∀ n d s, (V n d s).1.size ≤ B) (t : Tree) : ∀ d s, okVars t = true → (walkS V t d s).1.size ≤ t.size * B := by
  induction t using Tree.ind with
  | h1 => intro d s h; simp [okVars] at h
  | h2 k n a b kids ih =>
    intro d s hv
    by_cases hk : k = 110
    · obtain ⟨_, _, rfl, rfl, rfl⟩ := okVars_var hk hv
      subst hk
      rw [walkS_var]
      have := hV n d s
      have e : (Tree.node 110 n emptyB emptyB []).size = 1 := rfl
      rw [e]; omega
    · have hvs := okVars_kids hk hv
      rw [walkS_any _ _ _ _ kids hk]
      have key : ∀ l : List Tree, (∀ t ∈ l, t ∈ kids) → ∀ s, Tree.sizes (walkSs V l (d + bindsP k) s).1 ≤ Tree.sizes l * B := by
        intro l
        induction l with
        | nil => intro _ s; rw [walkSs]; simp [Tree.sizes]
        | cons t ts ih2 =>
          intro hm s
          rw [walkSs]
          dsimp only
          rw [Tree.sizes, Tree.sizes, Nat.add_mul]
          exact Nat.add_le_add (ih t (hm t (by simp)) _ _ (hvs t (hm t (by simp)))) (ih2 (fun t' h' => hm t' (by simp [h'])) _)
      have := key kids (fun _ h => h) s
      rw [Tree.size, Tree.size, Nat.add_mul]
      omega
theorem size_1 {t : Tree} (h : checkP isConP t = 0) : 1 ≤ t.size := size_pos (checkP_whole h).1
theorem substP_le (t : Tree) (i : Int) (by_ : Tree) (h : (substP t i by_).2 = 0) : (substP t i by_).1.size ≤ t.size * by_.size := by
  obtain ⟨_, _, ht, hb⟩ := substP_fine t i by_ h
  have hi : ¬ i < 0 := fun hi => by unfold substP at h; rw [if_neg (by simpa using ht), if_neg (by simpa using hb), if_pos hi] at h; cases h
  unfold substP at h ⊢
  rw [if_neg (by simpa using ht), if_neg (by simpa using hb), if_neg hi] at h ⊢
  split at h
  · cases h
  · rename_i hq
    rw [if_neg hq]
    have hb1 := size_1 hb
    refine walkS_le _ by_.size hb1 (fun n d s => ?_) t 0 (0, 0) (okVars_con t (checkP_whole ht).2.2)
    unfold substV
    split
    · exact hb1
    · split
      · exact hb1
      · split
        · exact hb1
        · rename_i h3
          have : (shiftP by_ d 0).2 = 0 := by
            by_cases hz : (shiftP by_ d 0).2 = 0
            · exact hz
            · exact absurd (.inr hz) h3
          exact (shiftP_fine by_ d 0 this).2.1
theorem nil_size : Tree.nil.size = 0 := by simp [Tree.size]
theorem substP_nil (t : Tree) (i : Int) (by_ : Tree) (h : (substP t i by_).2 ≠ 0) : (substP t i by_).1 = .nil := by
  unfold substP at h ⊢
  split
  · rfl
  · rename_i h1
    rw [if_neg h1] at h
    split
    · rfl
    · rename_i h2
      rw [if_neg h2] at h
      split
      · rfl
      · rename_i h3
        rw [if_neg h3] at h
        split
        · rfl
        · rename_i h4; rw [if_neg h4] at h; exact absurd rfl h
theorem ssubC_le (i : Int) (by_ t : Tree) (d : Int) (ht : checkP isConP t = 0) (hb : checkP isConP by_ = 0) : (ssubC i by_ t d).1.size ≤ t.size * by_.size := by
  have hb1 := size_1 hb
  unfold ssubC
  split
  · exact Nat.le_mul_of_pos_right _ hb1
  · split
    · rw [nil_size]; exact Nat.zero_le _
    · rename_i h
      have h0 : (shiftP by_ d 0).2 = 0 := by simpa using h
      have hs := (shiftP_fine by_ d 0 h0).2.1
      by_cases h2 : (substP t (i + d) (shiftP by_ d 0).1).2 = 0
      · exact Nat.le_trans (substP_le _ _ _ h2) (Nat.mul_le_mul_left _ hs)
      · rw [substP_nil _ _ _ h2, nil_size]; exact Nat.zero_le _
theorem swalk_le (C : Tree → Int → Tree × Int) (B : Nat) (hB : 1 ≤ B) (hC : ∀ c d, checkP isConP c = 0 → (C c d).1.size ≤ c.size * B) (t : Tree) : ∀ d K, okW t K = true → (swalkP C t d).1.size ≤ t.size * B := by
  induction t using Tree.ind with
  | h1 => intro d K h; simp [okW] at h
  | h2 k n a b kids ih =>
    intro d K hv
    rw [okW] at hv
    rw [swalkP]
    by_cases hk : k < 160
    · rw [if_pos hk] at hv ⊢
      exact hC _ d (by simpa using hv)
    · rw [if_neg hk] at hv ⊢
      rw [Bool.and_eq_true] at hv
      split
      · rw [nil_size]; exact Nat.zero_le _
      · have key : ∀ l : List Tree, (∀ t ∈ l, t ∈ kids) → Tree.sizes (swalkPs C l (d + sbindsP k n)).1 ≤ Tree.sizes l * B := by
          intro l
          induction l with
          | nil => intro _; rw [swalkPs]; simp [Tree.sizes]
          | cons t ts ih2 =>
            intro hm
            rw [swalkPs]
            split
            · simp [Tree.sizes]
            · split
              · simp [Tree.sizes]
              · dsimp only
                rw [Tree.sizes, Tree.sizes, Nat.add_mul]
                exact Nat.add_le_add (ih t (hm t (by simp)) _ _ (okWs_mem hv.2 t (hm t (by simp)))) (ih2 fun t' h' => hm t' (by simp [h']))
        have := key kids fun _ h => h
        dsimp only
        rw [Tree.size, Tree.size, Nat.add_mul]
        omega
theorem ssub_le (i : Int) (by_ t : Tree) (hc : checkP sformP t = 0) (hb : checkP isConP by_ = 0) : (swalkP (ssubC i by_) t 0).1.size ≤ t.size * by_.size :=
  swalk_le _ _ (size_1 hb) (fun c d h => ssubC_le i by_ c d h hb) t 0 16384 (okW_form (checkP_whole hc).2.2)
end Go.Proofs.YtdajnmffoopcaaaDoor.Ab
namespace Go.Proofs.YtdajnmffoopcaaaDoor.Ab
set_option linter.unusedVariables false
set_option linter.unusedSimpArgs false
open Go.Proofs.YtdajnmffoopcaaaDoor.RP
def Tree.num : Tree → Int
  | .nil => 0
  | .node _ n _ _ _ => n
def exT (N : Int) (s : Tree) : Tree := .node 164 N emptyB emptyB [s]
def solve3 (N : Int) (S : Tree × Int) : Tree × Int := if S.2 ≠ 0 then (.nil, S.2) else if ssmallP S.1 ≠ 0 then (.nil, ssmallP S.1) else (exT (N - 1) S.1, 0)
def solve2 (N : Int) (s : Tree) (i : Int) (B : Tree × Int) : Tree × Int := if B.2 ≠ 0 then (.nil, B.2) else solve3 N (ssubstP s i B.1)
def solve1 (N : Int) (s : Tree) (i : Int) (c : Tree) : Tree × Int := if i < 0 ∨ N ≤ i then (.nil, 2) else if occP c i = true then (.nil, 13) else solve2 N s i (shiftP c (-1) i)
def solveP (n : Tree) (i : Int) (c : Tree) : Tree × Int := if checkP sformP n ≠ 0 then (.nil, checkP sformP n) else if checkP isConP c ≠ 0 then (.nil, checkP isConP c) else if n.kind ≠ 164 then (.nil, 16) else solve1 n.num (kid0 n) i c
def atK (R : Tree × Int) : Tree × Int := if R.2 ≠ 0 then (.nil, R.2) else if R.1.kind ≠ 161 then (.nil, 10) else (kid0 R.1, 0)
def atE (s : Tree) (long : ByteArray) : Tree × Int := atK (sAtP s ⟨#[116]⟩ long)
def boundP (N : Int) (x : Tree) : Bool := decide (x.kind = 110) && decide (x.num < N)
def where1 (n : Tree) (X Y : Tree × Int) : Tree × Int := if X.2 ≠ 0 then (.nil, X.2) else if Y.2 ≠ 0 then (.nil, Y.2) else if boundP n.num X.1 = true then solveP n X.1.num Y.1 else if sameP X.1 Y.1 = true then (n, 0) else (.nil, 12)
def whereP (n : Tree) (long : ByteArray) (c : Tree) : Tree × Int := if checkP sformP n ≠ 0 then (.nil, checkP sformP n) else if checkP isConP c ≠ 0 then (.nil, checkP isConP c) else if n.kind ≠ 164 then (.nil, 16) else where1 n (atE (kid0 n) long) (shiftP c n.num 0)
def share1 (n : Tree) (X Y : Tree × Int) : Tree × Int := if X.2 ≠ 0 then (.nil, X.2) else if Y.2 ≠ 0 then (.nil, Y.2) else if sameP X.1 Y.1 = true then (n, 0) else if boundP n.num X.1 = true then solveP n X.1.num Y.1 else if boundP n.num Y.1 = true then solveP n Y.1.num X.1 else (.nil, 12)
def shareP (n : Tree) (a b : ByteArray) : Tree × Int := if checkP sformP n ≠ 0 then (.nil, checkP sformP n) else if n.kind ≠ 164 then (.nil, 16) else share1 n (atE (kid0 n) a) (atE (kid0 n) b)
theorem sbare_e {n : Int} {a b : ByteArray} {nu : Bool} (h : sbareP n a b false nu = true) : a = emptyB ∧ b = emptyB := by
  unfold sbareP at h
  simp only [Bool.and_eq_true, Bool.false_or] at h
  exact ⟨(eqB_iff _ _).1 h.1.2, (eqB_iff _ _).1 h.1.1⟩
/-- An abstract signature's form. -/
theorem ex_of {n : Tree} (hc : checkP sformP n = 0) (hk : n.kind = 164) : ∃ N s, n = exT N s ∧ 0 ≤ N ∧ N ≤ 8192 ∧ isSigP s = true ∧ s.whole = true ∧ s.size + 1 = n.size := by
  obtain ⟨hw, hz, hf⟩ := checkP_whole hc
  rcases tForm_of hf with h | h | h
  · exfalso
    obtain ⟨k, m, a, b, kids, rfl⟩ := whole_node hw
    have hk : k = 164 := hk
    rcases sig_kids h with ⟨h1, _⟩ | ⟨h1, _⟩ <;> omega
  · obtain ⟨N, a, b, s, rfl, h1, h2, h3⟩ := ex_form h
    simp only [isExP, Bool.and_eq_true] at h
    obtain ⟨rfl, rfl⟩ := sbare_e h.1.2
    exact ⟨N, s, rfl, h1, h2, h3, wholes_mem hw (by simp), by simp only [Tree.size, Tree.sizes]; omega⟩
  · exfalso
    obtain ⟨N, a, b, s, x, rfl, _⟩ := fun_form h
    have hk : (165 : Int) = 164 := hk
    omega
theorem ex_check {N : Int} {s : Tree} (h0 : 0 ≤ N) (h1 : N ≤ 8192) (hs : isSigP s = true) (hw : s.whole = true) (hz : s.size + 1 ≤ 65536) : checkP sformP (exT N s) = 0 := by
  have hx : isExP (exT N s) = true := by
    unfold exT
    simp only [isExP, Bool.and_eq_true]
    refine ⟨⟨rfl, ?_⟩, hs⟩
    unfold sbareP
    rw [(eqB_iff emptyB emptyB).2 rfl, decide_eq_true (by omega : N ≥ 0), decide_eq_true h1]
    rfl
  have hwx : (exT N s).whole = true := by
    show Tree.wholes [s] = true
    rw [Tree.wholes, hw]; rfl
  rw [checkP_ok sformP _ hwx (by unfold exT; simp only [Tree.size, Tree.sizes]; omega), if_pos (by unfold sformP; rw [hx]; simp)]
/-- What is walked anew, a part of it, a part of that. -/
structure WkOk (C : Tree → Int → Tree × Int) (s s' : Tree) : Prop where
  goes : swalkP C s 0 = (s', 0)
  sig : isSigP s = true
  sig' : isSigP s' = true
  wh : s.whole = true
  wh' : s'.whole = true
theorem wk_field {C : Tree → Int → Tree × Int} {s s' : Tree} (h : WkOk C s s') (label : ByteArray) : (fieldP label s'.kids).2 = (fieldP label s.kids).2 ∧ ((fieldP label s.kids).2 = true → WkOk C (fieldP label s.kids).1 (fieldP label s'.kids).1) := by
  obtain ⟨hg, hs, hs', hw, hw'⟩ := h
  obtain ⟨k, n, a, b, kids, rfl⟩ := whole_node hw
  have h0 : (swalkP C (.node k n a b kids) 0).2 = 0 := by rw [hg]
  have hk160 : ¬ k < 160 := by rcases sig_kids hs with ⟨h1, _⟩ | ⟨h1, _⟩ <;> omega
  have hsb : sbindsP k n = 0 := sbinds_0 (by rcases sig_kids hs with ⟨h1, _⟩ | ⟨h1, _⟩ <;> omega)
  obtain ⟨g1, g2⟩ := swalkP_node hk160 h0
  rw [hsb, Int.add_zero] at g1 g2
  rw [hg] at g2
  dsimp only at g2
  subst g2
  have e1 : (Tree.node k n a b kids).kids = kids := rfl
  have e2 : (Tree.node k n a b (kids.map fun t => (swalkP C t 0).1)).kids = kids.map fun t => (swalkP C t 0).1 := rfl
  rw [e1, e2]
  have no : ∀ (k n : Int) (a b : ByteArray) (c : Tree), checkP isConP c = 0 → fieldP label [c] = (.nil, false) := fun k n a b c hc => by
    have hck := con_kind hc
    rw [fieldP, fieldP, if_neg]
    unfold isLab
    rw [Bool.and_eq_true, decide_eq_true_eq]
    exact fun h => hck h.1
  rcases sig_kids hs with ⟨_, c, rfl, hc⟩ | ⟨rfl, hf, _⟩
  · rcases sig_kids hs' with ⟨_, c', e, hc'⟩ | ⟨h1, hf', _⟩
    · rw [no k n a b c hc, e, no k n a b c' hc']
      exact ⟨rfl, fun h => by cases h⟩
    · exfalso
      rcases sig_kids hs with ⟨h2, _⟩ | ⟨h2, h3, _⟩
      · omega
      · have := h3 c (by simp)
        obtain ⟨_, _, _, _, e, _⟩ := okSField_form this
        exact con_kind hc (by rw [e]; rfl)
  · have hf' : ∀ t ∈ kids.map (fun t => (swalkP C t 0).1), okSField t = true := by
      rcases sig_kids hs' with ⟨h1, _⟩ | ⟨_, h1, _⟩
      · omega
      · exact h1
    have key : ∀ l : List Tree, (∀ f ∈ l, f ∈ kids) → (fieldP label (l.map fun t => (swalkP C t 0).1)).2 = (fieldP label l).2 ∧ ((fieldP label l).2 = true → WkOk C (fieldP label l).1 (fieldP label (l.map fun t => (swalkP C t 0).1)).1) := by
      intro l
      induction l with
      | nil => intro _; exact ⟨rfl, fun h => by cases h⟩
      | cons f fs ih =>
        intro hm
        have ih := ih fun f' h' => hm f' (by simp [h'])
        have hfm := hm f (by simp)
        have hwf := wholes_mem hw hfm
        have hf0 := g1 f hfm
        have hok := hf' _ (List.mem_map_of_mem hfm)
        have hwx := wholes_mem hw' (List.mem_map_of_mem (f := fun t => (swalkP C t 0).1) hfm)
        obtain ⟨n', a', b'', c, e, hcs⟩ := okSField_form (hf f hfm)
        subst e
        have hk163 : ¬ (163 : Int) < 160 := by decide
        have hsf : sbindsP 163 n' = 0 := sbinds_0 (by decide)
        obtain ⟨j1, j2⟩ := swalkP_node hk163 hf0
        rw [hsf, Int.add_zero] at j1 j2
        have hc0 := j1 c (by simp)
        simp only [List.map_cons, List.map_nil] at j2
        rw [List.map_cons, fieldP, fieldP]
        rw [j2] at hok hwx ⊢
        simp only [okSField, sigOne, Bool.and_eq_true] at hok
        have el : ∀ x, isLab label (.node 163 n' a' b'' [x]) = eqB a' label := fun x => by
          show (decide ((163 : Int) = 163) && eqB a' label) = _
          simp
        rw [el, el]
        by_cases hl : eqB a' label = true
        · rw [if_pos hl, if_pos hl]
          have hcw := wholes_mem hwf (List.mem_singleton.2 rfl)
          exact ⟨rfl, fun _ => ⟨Prod.ext rfl hc0, hcs, hok.2, hcw, wholes_mem hwx (List.mem_singleton.2 rfl)⟩⟩
        · rw [if_neg hl, if_neg hl]
          exact ih
    exact key kids fun _ h => h
theorem wk_at {C : Tree → Int → Tree × Int} (sp : ByteArray) : ∀ (l : List ByteArray) (s s' : Tree), WkOk C s s' → (atS sp l s').2 = (atS sp l s).2 ∧ ((atS sp l s).2 = 0 → WkOk C (atS sp l s).1 (atS sp l s').1)
  | [], s, s', h => ⟨rfl, fun _ => h⟩
  | x :: xs, s, s', h => by
    obtain ⟨e, hk⟩ := wk_field h (labS sp xs.isEmpty x)
    rw [atS, atS, e]
    by_cases hq : (fieldP (labS sp xs.isEmpty x) s.kids).2 = true
    · rw [if_pos hq, if_pos hq]
      exact wk_at sp xs _ _ (hk hq)
    · rw [if_neg hq, if_neg hq]
      exact ⟨rfl, fun h => by cases h⟩
theorem sAt_sig {s : Tree} (hs : isSigP s = true) (hw : s.whole = true) (hz : s.size ≤ 65536) (long : ByteArray) : sAtP s ⟨#[116]⟩ long = if longP long = false then (.nil, 2) else atS ⟨#[116]⟩ (splitP long) s := by
  have hc : checkP sformP s = 0 := by rw [checkP_ok sformP s hw hz, if_pos (by unfold sformP; rw [hs]; rfl)]
  unfold sAtP
  rw [if_neg (by simpa using hc), hs, show spOk ⟨#[116]⟩ = true by decide +kernel, if_neg (by simp)]
theorem sAtP_ok {t : Tree} {sp long : ByteArray} (h : (sAtP t sp long).2 = 0) : isSigP (sAtP t sp long).1 = true ∧ (sAtP t sp long).1.whole = true ∧ (sAtP t sp long).1.size ≤ t.size ∧ t.size ≤ 65536 := by
  unfold sAtP at h ⊢
  by_cases h1 : checkP sformP t = 0
  · rw [if_neg (by simpa using h1)] at h ⊢
    obtain ⟨hw, hz, _⟩ := checkP_whole h1
    by_cases h2 : (isSigP t && spOk sp) = false
    · rw [if_pos h2] at h; cases h
    · rw [if_neg h2] at h ⊢
      by_cases h3 : longP long = false
      · rw [if_pos h3] at h; cases h
      · rw [if_neg h3] at h ⊢
        have hs : isSigP t = true := by
          cases hq : isSigP t with
          | true => rfl
          | false => rw [hq] at h2; simp at h2
        obtain ⟨g1, g2, g3⟩ := atS_ok sp (splitP long) t hs hw h
        exact ⟨g1, g2, g3, hz⟩
  · rw [if_pos h1] at h; exact absurd h h1
/-- What stands at a name, as it is asked for by the layers above. -/
theorem atE_ok {s : Tree} {long : ByteArray} (h : (atE s long).2 = 0) : checkP isConP (atE s long).1 = 0 ∧ (atE s long).1.size ≤ s.size ∧ (sAtP s ⟨#[116]⟩ long).2 = 0 ∧ (sAtP s ⟨#[116]⟩ long).1 = .node 161 0 emptyB emptyB [(atE s long).1] := by
  unfold atE atK at h ⊢
  by_cases h1 : (sAtP s ⟨#[116]⟩ long).2 = 0
  · rw [if_neg (by simpa using h1)] at h ⊢
    obtain ⟨g1, g2, g3, _⟩ := sAtP_ok h1
    generalize sAtP s ⟨#[116]⟩ long = R at *
    obtain ⟨R1, R2⟩ := R
    dsimp only at *
    by_cases h2 : R1.kind = 161
    · rw [if_neg (by simpa using h2)]
      obtain ⟨k, n, a, b, kids, rfl⟩ := whole_node g2
      have hk : k = 161 := h2
      subst hk
      rcases sig_kids g1 with ⟨_, c, rfl, hc⟩ | ⟨h3, _⟩
      · rw [isSigP, Bool.and_eq_true] at g1
        have hb := g1.1
        obtain ⟨rfl, rfl⟩ := sbare_e hb
        have hn : n = 0 := by
          unfold sbareP at hb
          simp only [Bool.and_eq_true, Bool.false_and, Bool.false_or, beq_iff_eq] at hb
          exact hb.2
        subst hn
        have hsz := size_kid (k := 161) (n := 0) (a := emptyB) (b := emptyB) (kids := [c]) (t := c) (by simp)
        exact ⟨hc, by show c.size ≤ _; omega, h1, rfl⟩
      · omega
    · rw [if_pos h2] at h; cases h
  · rw [if_pos h1] at h; exact absurd h h1
/-- What stands at a name behind a walk is what stood there, walked. -/
theorem wk_atE {C : Tree → Int → Tree × Int} {s s' : Tree} (h : WkOk C s s') (hz : s.size ≤ 65536) (hz' : s'.size ≤ 65536) (long : ByteArray) (h0 : (atE s long).2 = 0) :
    checkP isConP (atE s long).1 = 0 ∧ (C (atE s long).1 0).2 = 0 ∧ atE s' long = ((C (atE s long).1 0).1, 0) ∧ (sAtP s' ⟨#[116]⟩ long).2 = 0 ∧ (sAtP s' ⟨#[116]⟩ long).1 = .node 161 0 emptyB emptyB [(C (atE s long).1 0).1] ∧ (sAtP s ⟨#[116]⟩ long).1 = .node 161 0 emptyB emptyB [(atE s long).1] := by
  have e := sAt_sig h.sig h.wh hz long
  have e' := sAt_sig h.sig' h.wh' hz' long
  unfold atE atK at h0 ⊢
  by_cases hl : longP long = false
  · rw [e, if_pos hl] at h0
    rw [if_pos (by simp)] at h0
    cases h0
  · rw [if_neg hl] at e e'
    rw [e] at h0 ⊢
    rw [e']
    obtain ⟨q1, q2⟩ := wk_at ⟨#[116]⟩ (splitP long) s s' h
    by_cases ha : (atS ⟨#[116]⟩ (splitP long) s).2 = 0
    · rw [if_neg (by simpa using ha)] at h0 ⊢
      have hk := q2 ha
      have ha' : ¬ (atS ⟨#[116]⟩ (splitP long) s').2 ≠ 0 := by rw [q1]; simpa using ha
      rw [if_neg ha', q1]
      generalize (atS ⟨#[116]⟩ (splitP long) s).1 = u at *
      generalize (atS ⟨#[116]⟩ (splitP long) s').1 = u' at *
      by_cases h161 : u.kind = 161
      · rw [if_neg (by simpa using h161)]
        obtain ⟨hg, hs, hs', hw, hw'⟩ := hk
        obtain ⟨k, n, a, b, kids, rfl⟩ := whole_node hw
        have hk : k = 161 := h161
        subst hk
        rcases sig_kids hs with ⟨_, c, rfl, hc⟩ | ⟨h1, _⟩
        · have h00 : (swalkP C (.node 161 n a b [c]) 0).2 = 0 := by rw [hg]
          obtain ⟨g1, g2⟩ := swalkP_node (by decide) h00
          rw [sbinds_0 (by decide), Int.add_zero] at g1 g2
          rw [hg] at g2
          simp only [List.map_cons, List.map_nil] at g2
          have hc1 := g1 c (by simp)
          rw [swalkP_con hc] at g2 hc1
          rw [isSigP, Bool.and_eq_true] at hs
          have hb := hs.1
          obtain ⟨rfl, rfl⟩ := sbare_e hb
          have hn : n = 0 := by
            unfold sbareP at hb
            simp only [Bool.and_eq_true, Bool.false_and, Bool.false_or, beq_iff_eq] at hb
            exact hb.2
          subst hn
          subst g2
          have e1 : kid0 (.node 161 0 emptyB emptyB [c]) = c := rfl
          rw [e1, if_neg (by show ¬ ((161 : Int) ≠ 161); simp)]
          exact ⟨hc, hc1, rfl, ha, rfl, rfl⟩
        · omega
      · rw [if_pos h161] at h0; cases h0
    · rw [if_pos ha] at h0
      exact absurd h0 ha
end Go.Proofs.YtdajnmffoopcaaaDoor.Ab
namespace Go.Proofs.YtdajnmffoopcaaaDoor.Ab
set_option linter.unusedVariables false
set_option linter.unusedSimpArgs false
open Go.Proofs.YtdajnmffoopcaaaDoor.RP
theorem allV_true (t : Tree) : ∀ d, allV (fun _ _ => true) t d = true := by
  induction t using Tree.ind with
  | h1 => intro d; rw [allV]
  | h2 k n a b kids ih =>
    intro d
    by_cases hk : k = 110
    · subst hk; rw [allV_var]
    · rw [allV_node _ _ hk, List.all_eq_true]
      exact fun t ht => ih t ht _
theorem shift_ok {c : Tree} (hc : checkP isConP c = 0) {b f : Int} (hf : 0 ≤ f) (h : (shiftP c b f).2 = 0) : allV (okG b f) c 0 = true ∧ shiftP c b f = (mapV (shG b f) c 0, 0) ∧ checkP isConP (mapV (shG b f) c 0) = 0 ∧ (mapV (shG b f) c 0).size = c.size := by
  obtain ⟨hw, hz, hcon⟩ := checkP_whole hc
  have hv := okVars_con c hcon
  have e := shiftP_sh c hc b f hf
  have hsc := shift_con c hc b f hf h
  rw [e] at h hsc ⊢
  by_cases ha : allV (okG b f) c 0 = true
  · rw [if_pos ha] at hsc ⊢
    have hsz := mapV_size (shG b f) c 0 hv
    exact ⟨ha, rfl, by rw [checkP_ok isConP _ (mapV_whole _ c 0 hw) (by omega), if_pos hsc], hsz⟩
  · rw [if_neg ha] at h; cases h
theorem shift_zero {B : Tree} (hb : checkP isConP B = 0) : shiftP B 0 0 = (B, 0) := by
  obtain ⟨_, _, hcon⟩ := checkP_whole hb
  have hv := okVars_con B hcon
  have ha : allV (okG 0 0) B 0 = true := allV_imp _ _ B 0 hv (allV_true B 0) fun n x h1 h2 h3 _ => by
    unfold okG
    rw [decide_eq_true_eq]
    omega
  rw [shiftP_sh B hb 0 0 (Int.le_refl _), if_pos ha]
  congr 1
  conv => rhs; rw [← mapV_id B 0 hv]
  refine mapV_congr _ _ _ B 0 hv ha fun n x h1 h2 h3 _ => ?_
  unfold shG
  split <;> omega
theorem var_con {m : Int} (h0 : 0 ≤ m) (h1 : m ≤ 65536) : checkP isConP (varT m) = 0 := by
  have hcon : isConP (varT m) = true := by
    unfold varT
    rw [isConP, if_pos rfl]
    have hbare : bareP m emptyB emptyB false ((110 : Int) == 110) = true := by
      unfold bareP
      rw [(eqB_iff _ _).2 rfl]
      simp
    rw [hbare, decide_eq_true (by omega : m ≥ 0), decide_eq_true h1]
    rfl
  rw [checkP_ok isConP (varT m) rfl (by rw [size_varT]; decide), if_pos hcon]
theorem ssubC_var {i : Int} (h0 : 0 ≤ i) (h1 : i ≤ 65536) {B : Tree} (hb : checkP isConP B = 0) : ssubC i B (varT i) 0 = (B, 0) := by
  obtain ⟨hw, hz, hcon⟩ := checkP_whole hb
  have hs := shift_zero hb
  unfold ssubC
  rw [if_neg (by omega), hs, if_neg (by simp), Int.add_zero]
  dsimp only
  have e : walkS (substV i B.size B) (varT i) 0 (0, 0) = (B, (0 + (B.size : Int), 0)) := by
    unfold varT
    rw [walkS_var]
    unfold substV
    rw [if_neg (by simp; omega), if_neg (by omega), hs, if_neg (by simp; omega)]
  unfold substP
  rw [if_neg (by simpa using var_con h0 h1), if_neg (by simpa using hb), if_neg (by omega), e, if_neg (by simp; omega)]
theorem ssubst_inv {s : Tree} {i : Int} {B : Tree} (h : (ssubstP s i B).2 = 0) : checkP sformP s = 0 ∧ checkP isConP B = 0 ∧ 0 ≤ i ∧ (swalkP (ssubC i B) s 0).2 = 0 ∧ (ssubstP s i B).1 = (swalkP (ssubC i B) s 0).1 ∧ (ssubstP s i B).1.whole = true ∧ (ssubstP s i B).1.size ≤ 65536 := by
  unfold ssubstP at h ⊢
  by_cases h1 : checkP sformP s = 0
  · rw [if_neg (by simpa using h1)] at h ⊢
    by_cases h2 : checkP isConP B = 0
    · rw [if_neg (by simpa using h2)] at h ⊢
      by_cases h3 : i < 0
      · rw [if_pos h3] at h; cases h
      · rw [if_neg h3] at h ⊢
        unfold sizedP at h ⊢
        by_cases h4 : (swalkP (ssubC i B) s 0).2 = 0
        · rw [if_neg (by simpa using h4)] at h ⊢
          by_cases h5 : (wholeP (swalkP (ssubC i B) s 0).1 65536).1 = 0
          · rw [if_neg (by simpa using h5)]
            have g2 := wholeP_size (swalkP (ssubC i B) s 0).1 65536 (by omega) h5
            have g3 := wholeP_bound (swalkP (ssubC i B) s 0).1 65536 (by omega) h5
            exact ⟨h1, h2, by omega, h4, rfl, wholeP_whole _ _ h5, by dsimp only; omega⟩
          · rw [if_pos h5] at h; exact absurd h h5
        · rw [if_pos h4] at h; exact absurd h h4
    · rw [if_pos h2] at h; exact absurd h h2
  · rw [if_pos h1] at h; exact absurd h h1
theorem ssmall_inv {S : Tree} (h : ssmallP S = 0) : checkP sformP S = 0 := by
  unfold ssmallP at h
  by_cases h1 : checkP sformP S = 0
  · exact h1
  · rw [if_pos h1] at h; exact h
theorem solve_inv {N : Int} {s : Tree} {i : Int} {c : Tree} (h : (solve1 N s i c).2 = 0) : 0 ≤ i ∧ i < N ∧ occP c i = false ∧ (shiftP c (-1) i).2 = 0 ∧ (ssubstP s i (shiftP c (-1) i).1).2 = 0 ∧ ssmallP (ssubstP s i (shiftP c (-1) i).1).1 = 0 ∧ (solve1 N s i c).1 = exT (N - 1) (ssubstP s i (shiftP c (-1) i).1).1 := by
  unfold solve1 at h ⊢
  by_cases h1 : i < 0 ∨ N ≤ i
  · rw [if_pos h1] at h; cases h
  · rw [if_neg h1] at h ⊢
    by_cases h2 : occP c i = true
    · rw [if_pos h2] at h; cases h
    · rw [if_neg h2] at h ⊢
      unfold solve2 at h ⊢
      by_cases h3 : (shiftP c (-1) i).2 = 0
      · rw [if_neg (by simpa using h3)] at h ⊢
        unfold solve3 at h ⊢
        by_cases h4 : (ssubstP s i (shiftP c (-1) i).1).2 = 0
        · rw [if_neg (by simpa using h4)] at h ⊢
          by_cases h5 : ssmallP (ssubstP s i (shiftP c (-1) i).1).1 = 0
          · rw [if_neg (by simpa using h5)]
            exact ⟨by omega, by omega, by simpa using h2, h3, h4, h5, rfl⟩
          · rw [if_pos h5] at h; exact absurd h h5
        · rw [if_pos h4] at h; exact absurd h h4
      · rw [if_pos h3] at h; exact absurd h h3
theorem sub_wk {s : Tree} {i : Int} {B : Tree} (hs : isSigP s = true) (h : (ssubstP s i B).2 = 0) (h2 : ssmallP (ssubstP s i B).1 = 0) : WkOk (ssubC i B) s (ssubstP s i B).1 := by
  obtain ⟨g1, g2, g3, g4, g5, g6, g7⟩ := ssubst_inv h
  obtain ⟨hw, hz, _⟩ := checkP_whole g1
  obtain ⟨_, _, hf'⟩ := checkP_whole (ssmall_inv h2)
  refine ⟨Prod.ext g5.symm g4, hs, ?_, hw, g6⟩
  obtain ⟨k, n, a, b, kids, rfl⟩ := whole_node hw
  have hk160 : ¬ k < 160 ∧ k ≤ 162 := by rcases sig_kids hs with ⟨h1, _⟩ | ⟨h1, _⟩ <;> omega
  obtain ⟨_, j2⟩ := swalkP_node hk160.1 g4
  rw [g5, j2] at hf' ⊢
  rcases tForm_of hf' with q | q | q
  · exact q
  · have := isEx_kind q
    have : k = 164 := this
    omega
  · have := isFun_kind q
    have : k = 165 := this
    omega
theorem bound_var {N : Int} {X : Tree} (hc : checkP isConP X = 0) (hb : boundP N X = true) : ∃ i, X = varT i ∧ 0 ≤ i ∧ i ≤ 65536 ∧ i < N := by
  obtain ⟨hw, _, hcon⟩ := checkP_whole hc
  obtain ⟨k, n, a, b, kids, rfl⟩ := whole_node hw
  unfold boundP at hb
  rw [Bool.and_eq_true, decide_eq_true_eq, decide_eq_true_eq] at hb
  have hk : k = 110 := hb.1
  subst hk
  obtain ⟨q1, q2, rfl, rfl, rfl⟩ := okVars_var rfl (okVars_con _ hcon)
  exact ⟨n, rfl, q1, q2, hb.2⟩
theorem solveP_ex {N : Int} {s : Tree} (hn : checkP sformP (exT N s) = 0) {i : Int} {c : Tree} (hc : checkP isConP c = 0) : solveP (exT N s) i c = solve1 N s i c := by
  unfold solveP
  rw [if_neg (by simpa using hn), if_neg (by simpa using hc), if_neg (by show ¬ ((164 : Int) ≠ 164); simp)]
  rfl
/-- What is shifted by as many as are bound is none of them. -/
theorem unbound {c : Tree} (hc : checkP isConP c = 0) {M : Int} (hM : 0 ≤ M) : boundP M (mapV (shG M 0) c 0) = false := by
  obtain ⟨hw, _, hcon⟩ := checkP_whole hc
  obtain ⟨k, n, a, b, kids, rfl⟩ := whole_node hw
  unfold boundP
  by_cases hk : k = 110
  · subst hk
    obtain ⟨q1, q2, _⟩ := okVars_var rfl (okVars_con _ hcon)
    rw [mapV_var]
    have e : shG M 0 n 0 = n + M := by unfold shG; rw [if_neg (by omega)]
    rw [e]
    have : ¬ ((varT (n + M)).num < M) := by show ¬ (n + M < M); omega
    rw [decide_eq_false this, Bool.and_false]
  · rw [mapV_node _ _ hk]
    have : ¬ ((Tree.node k n a b (kids.map fun t => mapV (shG M 0) t (0 + bindsP k))).kind = 110) := hk
    rw [decide_eq_false this, Bool.false_and]
theorem where_again {N' : Int} {s' : Tree} {c : Tree} {long : ByteArray} {x : Tree} (h0 : 0 ≤ N') (h1 : N' ≤ 8192) (hs : isSigP s' = true) (hw : s'.whole = true) (hz : s'.size + 1 ≤ 65536) (hc : checkP isConP c = 0)
    (ha : atE s' long = (x, 0)) (hx : shiftP c N' 0 = (x, 0)) (hu : boundP N' x = false) : whereP (exT N' s') long c = (exT N' s', 0) := by
  have hck := ex_check h0 h1 hs hw hz
  unfold whereP
  rw [if_neg (by simpa using hck), if_neg (by simpa using hc), if_neg (by show ¬ ((164 : Int) ≠ 164); simp)]
  show where1 (exT N' s') (atE s' long) (shiftP c N' 0) = _
  rw [ha, hx]
  unfold where1
  dsimp only
  rw [if_neg (by simp), if_neg (by simp)]
  have e : (exT N' s').num = N' := rfl
  rw [e, hu, if_neg (by simp), if_pos ((sameP_iff _ _).2 rfl)]
/-- A walk that changes nothing. -/
theorem swalk_id (t : Tree) : isSigP t = true → t.whole = true → swalkP (fun t _ => (t, 0)) t 0 = (t, 0) := by
  induction t using Tree.sind with
  | h t ih =>
    intro hs hw
    obtain ⟨k, n, a, b, kids, rfl⟩ := whole_node hw
    rcases sig_kids hs with ⟨hk, c, rfl, hc⟩ | ⟨rfl, hf, hr⟩
    · have hsb : sbindsP k n = 0 := sbinds_0 (by omega)
      rw [swalkP_of (by omega) (by intro u hu; rw [List.mem_singleton.1 hu, hsb, Int.add_zero, swalkP_con hc]), hsb, Int.add_zero]
      simp only [List.map_cons, List.map_nil]
      rw [swalkP_con hc]
    · have hsb : sbindsP 162 n = 0 := sbinds_0 (by decide)
      have key : ∀ f ∈ kids, swalkP (fun t _ => (t, 0)) f 0 = (f, 0) := fun f hm => by
        have hz := size_kid (k := 162) (n := n) (a := a) (b := b) hm
        have hwf := wholes_mem hw hm
        obtain ⟨n', a', b', c, rfl, hcs⟩ := okSField_form (hf f hm)
        have hz2 := size_kid (k := 163) (n := n') (a := a') (b := b') (kids := [c]) (t := c) (by simp)
        have hsf : sbindsP 163 n' = 0 := sbinds_0 (by decide)
        have hc := ih c (by omega) hcs (wholes_mem hwf (by simp))
        rw [swalkP_of (by decide) (by intro u hu; rw [List.mem_singleton.1 hu, hsf, Int.add_zero, hc]), hsf, Int.add_zero]
        simp only [List.map_cons, List.map_nil]
        rw [hc]
      rw [swalkP_of (by decide) (by intro u hu; rw [hsb, Int.add_zero, key u hu]), hsb, Int.add_zero]
      congr 2
      conv => rhs; rw [← List.map_id kids]
      exact List.map_congr_left fun f hm => by rw [key f hm]; rfl
theorem where_inv {n c : Tree} {long : ByteArray} (h : (whereP n long c).2 = 0) : ∃ N s, n = exT N s ∧ checkP sformP (exT N s) = 0 ∧ checkP isConP c = 0 ∧ 0 ≤ N ∧ N ≤ 8192 ∧ isSigP s = true ∧ s.whole = true ∧ s.size + 1 = n.size ∧ (atE s long).2 = 0 ∧ (shiftP c N 0).2 = 0 ∧
    ((boundP N (atE s long).1 = true ∧ whereP n long c = solveP (exT N s) (atE s long).1.num (shiftP c N 0).1) ∨ (boundP N (atE s long).1 = false ∧ (atE s long).1 = (shiftP c N 0).1 ∧ whereP n long c = (exT N s, 0))) := by
  by_cases h1 : checkP sformP n = 0
  · by_cases h2 : checkP isConP c = 0
    · by_cases h3 : n.kind = 164
      · obtain ⟨N, s, rfl, n0, n1, hs, hw, hz⟩ := ex_of h1 h3
        have E : whereP (exT N s) long c = where1 (exT N s) (atE s long) (shiftP c N 0) := by
          unfold whereP
          rw [if_neg (by simpa using h1), if_neg (by simpa using h2), if_neg (by simpa using h3)]
          rfl
        rw [E] at h
        unfold where1 at E h
        have en : (exT N s).num = N := rfl
        rw [en] at E h
        by_cases hX : (atE s long).2 = 0
        · rw [if_neg (by simpa using hX)] at E h
          by_cases hY : (shiftP c N 0).2 = 0
          · rw [if_neg (by simpa using hY)] at E h
            refine ⟨N, s, rfl, h1, h2, n0, n1, hs, hw, hz, hX, hY, ?_⟩
            by_cases hb : boundP N (atE s long).1 = true
            · rw [if_pos hb] at E
              exact .inl ⟨hb, E⟩
            · rw [if_neg hb] at E h
              by_cases hsm : sameP (atE s long).1 (shiftP c N 0).1 = true
              · rw [if_pos hsm] at E
                exact .inr ⟨by simpa using hb, (sameP_iff _ _).1 hsm, E⟩
              · rw [if_neg hsm] at h; cases h
          · rw [if_pos hY] at h; exact absurd h hY
        · rw [if_pos hX] at h; exact absurd h hX
      · unfold whereP at h
        rw [if_neg (by simpa using h1), if_neg (by simpa using h2), if_pos h3] at h; cases h
    · unfold whereP at h
      rw [if_neg (by simpa using h1), if_pos h2] at h; exact absurd h h2
  · unfold whereP at h
    rw [if_pos h1] at h; exact absurd h h1
theorem where_stands (n c : Tree) (long : ByteArray) (hn : n.size ≤ 100) (hcs : c.size ≤ 100) (h : (whereP n long c).2 = 0) :
    ∃ N' s' x, (whereP n long c).1 = exT N' s' ∧ N' ≤ n.num ∧ n.num - 1 ≤ N' ∧ 0 ≤ N' ∧ N' ≤ 8192 ∧ s'.whole = true ∧ s'.size ≤ 10000 ∧ (sAtP s' ⟨#[116]⟩ long) = (.node 161 0 emptyB emptyB [x], 0) ∧ shiftP c N' 0 = (x, 0) ∧ checkP isConP x = 0 ∧ checkP isConP c = 0 ∧
      whereP (exT N' s') long c = (exT N' s', 0) := by
  obtain ⟨N, s, rfl, h1, h2, n0, n1, hs, hw, hz, hX, hY, hcase⟩ := where_inv h
  have en : (exT N s).num = N := rfl
  have hzs : s.size ≤ 65536 := by omega
  have idC : WkOk (fun t _ => (t, 0)) s s := ⟨swalk_id s hs hw, hs, hs, hw, hw⟩
  obtain ⟨x0, _, _, x4, x5, _⟩ := wk_atE idC hzs hzs long hX
  obtain ⟨y1, y2, y3, y4⟩ := shift_ok h2 (Int.le_refl 0) hY
  obtain ⟨_, _, hcc⟩ := checkP_whole h2
  have hvc := okVars_con c hcc
  rw [y2] at hcase
  dsimp only at hcase
  rw [en]
  rcases hcase with ⟨hb, E⟩ | ⟨hb, esm, E⟩
  · rw [E] at h ⊢
    obtain ⟨i, ei, i0, i1, i2⟩ := bound_var x0 hb
    rw [ei] at h ⊢
    have enum : (varT i).num = i := rfl
    rw [enum, solveP_ex h1 y3] at h ⊢
    obtain ⟨_, _, so, s1, s2, s3, s4⟩ := solve_inv h
    have hwk := sub_wk hs s2 s3
    obtain ⟨b1, b2, b3, b4⟩ := shift_ok y3 i0 s1
    rw [b2] at s2 s3 s4 hwk
    dsimp only at s2 s3 s4 hwk
    have hB : mapV (shG (-1) i) (mapV (shG N 0) c 0) 0 = mapV (shG (N - 1) 0) c 0 := by
      have e1 := mapV_map (shG (-1) i) (shG N 0) 0 c 0
      rw [Int.zero_add] at e1
      rw [e1]
      refine mapV_congr _ _ _ c 0 hvc y1 fun m x q1 q2 q3 q4 => ?_
      unfold shG
      split <;> split <;> (try split) <;> omega
    rw [hB] at s2 s3 s4 hwk b3
    obtain ⟨g1, g2, g3, g4, g5, g6, g7⟩ := ssubst_inv s2
    obtain ⟨_, w2, w3, w4, w5, _⟩ := wk_atE hwk hzs g7 long hX
    rw [ei, ssubC_var i0 i1 b3] at w3 w5
    dsimp only at w3 w5
    have hsh : shiftP c (N - 1) 0 = (mapV (shG (N - 1) 0) c 0, 0) := by
      rw [shiftP_sh c h2 (N - 1) 0 (Int.le_refl _), if_pos]
      refine allV_imp _ _ c 0 hvc y1 fun m x q1 q2 q3 q4 => ?_
      unfold okG at q4 ⊢
      rw [decide_eq_true_eq] at q4 ⊢
      omega
    have hsz2 : (ssubstP s i (mapV (shG (N - 1) 0) c 0)).1.size ≤ 10000 := by
      rw [g5]
      have q1 := ssub_le i (mapV (shG (N - 1) 0) c 0) s g1 g2
      have q2 : (mapV (shG (N - 1) 0) c 0).size = c.size := mapV_size _ c 0 hvc
      rw [q2] at q1
      have q3 : s.size * c.size ≤ 100 * 100 := Nat.mul_le_mul (by omega) hcs
      omega
    refine ⟨N - 1, _, _, s4, by omega, by omega, by omega, by omega, g6, hsz2, Prod.ext w5 w4, hsh, b3, h2, ?_⟩
    exact where_again (by omega) (by omega) hwk.sig' g6 (by omega) h2 w3 hsh (unbound h2 (by omega))
  · rw [E]
    refine ⟨N, s, mapV (shG N 0) c 0, rfl, by omega, by omega, n0, n1, hw, by omega, Prod.ext (by rw [x5, esm]) x4, y2, y3, h2, ?_⟩
    exact where_again n0 n1 hs hw (by omega) h2 (Prod.ext esm hX) y2 (unbound h2 n0)
end Go.Proofs.YtdajnmffoopcaaaDoor.Ab
