/- Words, walks and laws under the claim's statement: what it uses of them. No condition of its own. -/
import Derived.Test.YtlbemgokilhdnaaOL2
import Derived.Test.YtlbemgokilhdnaaOAb0
namespace Go.Proofs.Ytlbemgokilhdnaa.Ab
set_option linter.unusedVariables false
set_option linter.unusedSimpArgs false
open Go.RowKit
attribute [local irreducible] AWP AOps AExit AThen ABlock ANoGoto FeetOk
def allK : List CellD → List Int
  | [] => []
  | c :: l => c.kids ++ allK l
theorem allK_app : ∀ l m : List CellD, allK (l ++ m) = allK l ++ allK m
  | [], m => rfl
  | c :: l, m => by rw [List.cons_append, allK, allK, allK_app l m, List.append_assoc]
theorem allK_succ (l : List CellD) (i : Nat) (h : i < l.length) : allK (l.take (i + 1)) = allK (l.take i) ++ l[i].kids := by
  rw [List.take_succ_eq_append_getElem h, allK_app]
  simp [allK]
theorem allK_len (K : Nat) : ∀ l : List CellD, (∀ c ∈ l, c.kids.length ≤ K) → (allK l).length ≤ l.length * K
  | [], _ => by simp [allK]
  | c :: l, h => by
    have h1 := h c List.mem_cons_self
    have h2 := allK_len K l (fun d hd => h d (List.mem_cons_of_mem _ hd))
    rw [allK, List.length_append, List.length_cons, Nat.add_mul]
    omega
def cntIVs (n : Nat) (l : List Int) : List IV := (List.range n).map fun (j : Nat) => .lit (.int .i64 ((l.count (j : Int) : Nat) : Int))
theorem cnt_zero (n : Nat) : List.replicate n (IV.lit (.int .i64 0)) = cntIVs n [] := by
  apply List.ext_getElem
  · simp [cntIVs]
  · intro i h1 h2
    simp [cntIVs]
theorem cnt_get (n : Nat) (l : List Int) (x : Int) (h0 : 0 ≤ x) (h : x < (n : Int)) : (cntIVs n l)[x.toNat * 1]? = some (.lit (.int .i64 ((l.count x : Nat) : Int))) := by
  unfold cntIVs
  rw [Nat.mul_one, List.getElem?_map, List.getElem?_range (by omega)]
  rw [Option.map_some, Int.toNat_of_nonneg h0]
theorem cnt_set (n : Nat) (l : List Int) (x : Int) (h0 : 0 ≤ x) (h : x < (n : Int)) : (cntIVs n l).set (x.toNat * 1) (.lit (.int .i64 ((l.count x + 1 : Nat) : Int))) = cntIVs n (l ++ [x]) := by
  rw [Nat.mul_one]
  apply List.ext_getElem
  · simp [cntIVs]
  · intro i h1 h2
    rw [List.getElem_set]
    by_cases e : x.toNat = i
    · rw [if_pos e]
      have ex : x = (i : Int) := by omega
      subst ex
      simp [cntIVs, List.count_append]
    · rw [if_neg e]
      have ne : ¬ x = (i : Int) := by omega
      simp [cntIVs, List.count_append, List.count_singleton, ne]
def once (l : List CellD) : Prop := ∀ j : Nat, j < l.length - 1 → (allK l).count (j : Int) = 1
open Classical in
/-- What is made of a row of cells; what is told of it. -/
noncomputable def openR (l : List CellD) : Tree × Int :=
  if l.length = 0 then (.nil, 1) else if 8192 < l.length then (.nil, 3) else if below l ∧ once l then (growT l l.length (l.length - 1), 0) else (.nil, 16)
theorem bad_kid {l : List CellD} {i k : Nat} (hi : i < l.length) (hk : k < l[i].kids.length) (h : l[i].kids[k] < 0 ∨ (i : Int) ≤ l[i].kids[k]) : ¬ below l := fun hb => by
  have := hb i hi _ (List.getElem_mem hk)
  omega
theorem cell_kids {l : List CellD} {i : Nat} (hi : i < l.length) : (cellIVs l)[i * 5 + 4]? = some (.sl l[i].f l[i].kids.length (intIVs l[i].kids)) := by
  rw [cellIVs_at l i 4 hi (by omega)]; rfl
set_option maxHeartbeats 16000000 in
set_option maxRecDepth 10000 in
theorem open_a (l : List CellD) (hk : ∀ c ∈ l, c.kids.length ≤ 8192) :
    ACalls Try.prog 26 [.imm (.agg [.sl false l.length (cellIVs l)])] [] (.imm (.tup [(openR l).1.iv, .lit (.int .i64 (openR l).2)])) [] := by
  have hR : openR l = openR l := rfl
  conv at hR => rhs; unfold openR
  generalize openR l = R at *
  by_cases h0 : l.length = 0
  · rw [if_pos h0] at hR
    subst hR
    refine acalls_plain Try.func26 rfl rfl (Nat.le_of_ble_eq_true rfl) rfl ?_
    repeat' (first | refine aops_nil ?_ | (refine aops_one ?_; first | refine aops_quiet tabOk rfl rfl rfl (Nat.le_of_ble_eq_true rfl) rfl ?_ | refine aops_skip rfl rfl (Nat.le_of_ble_eq_true rfl) ?_ | (refine aops_cmp rfl rfl rfl (Nat.le_of_ble_eq_true rfl) rfl rfl rfl (fun hq => ?_) (fun hq => ?_) <;> (first | (simp only [decide_eq_true_eq, decide_eq_false_iff_not, beq_iff_eq, beq_eq_false_iff_ne, bne_iff_ne, bne_eq_false_iff_eq, Bool.not_eq_true', Bool.not_eq_false'] at hq; first | (exfalso; omega) | skip) | skip)) | refine aops_inc rfl rfl rfl (Nat.le_of_ble_eq_true rfl) rfl rfl (by omega) ?_ | refine aops_add rfl rfl rfl (Nat.le_of_ble_eq_true rfl) rfl rfl rfl (by omega) (by omega) ?_ | refine aops_sub rfl rfl rfl (Nat.le_of_ble_eq_true rfl) rfl rfl rfl (by omega) (by omega) ?_ | refine aops_list tabOk rfl rfl rfl (Nat.le_of_ble_eq_true rfl) rfl rfl rfl rfl rfl rfl rfl rfl rfl ?_ | refine aops_pure tabOk rfl rfl (Nat.le_of_ble_eq_true rfl) rfl ?_ | refine aops_alloc tabOk rfl rfl rfl (Nat.le_of_ble_eq_true rfl) rfl rfl rfl rfl rfl rfl ?_ | refine aops_loadm tabOk rfl rfl rfl (Nat.le_of_ble_eq_true rfl) rfl rfl rfl rfl ?_ | refine aops_storem tabOk rfl rfl rfl rfl rfl rfl rfl rfl rfl rfl rfl ?_ | refine aops_index tabOk rfl rfl rfl (Nat.le_of_ble_eq_true rfl) rfl rfl rfl rfl (by first | assumption | omega) ?_ | refine aops_index0 tabOk rfl rfl rfl (Nat.le_of_ble_eq_true rfl) rfl rfl rfl rfl (by first | rfl | omega) (by first | omega | simp) ?_ | refine aops_load1 tabOk rfl rfl rfl (Nat.le_of_ble_eq_true rfl) rfl rfl rfl (by assumption) ?_ | refine aops_load1 tabOk rfl rfl rfl (Nat.le_of_ble_eq_true rfl) rfl rfl rfl (ivs_get _ _ (by first | assumption | omega)) ?_ | refine aops_inc rfl rfl rfl (Nat.le_of_ble_eq_true rfl) rfl rfl (by omega) ?_ | ((fail_if_success (refine aops_lit (b := true) rfl rfl rfl ?_)); (fail_if_success (refine aops_lit (b := false) rfl rfl rfl ?_)); refine aops_guard rfl rfl rfl (fun hq => ?_) (fun hq => ?_) <;> first | subst hq | (first | (simp only [decide_eq_true_eq, decide_eq_false_iff_not, beq_iff_eq, beq_eq_false_iff_ne, bne_iff_ne, bne_eq_false_iff_eq, Bool.not_eq_true', Bool.not_eq_false'] at hq; first | (exfalso; omega) | skip) | skip)) | fail) | (refine awp_one ?_; first | refine awp_sreg ?_ | refine awp_seq ?_ | refine awp_region ?_ | refine awp_block ?_ | refine awp_ret ?_ | refine awp_exit ?_ | refine awp_skip ?_ | refine awp_cond (b := true) rfl (fun _ => ?_) (fun h => Bool.noConfusion h) | refine awp_cond (b := false) rfl (fun h => Bool.noConfusion h) (fun _ => ?_) | refine awp_scope ?_ | refine awp_label ?_ | refine awp_sdraw mixed (by kernel_rfl) ?_ | refine awp_region_draw mixed (by kernel_rfl) ?_ | (refine awp_cond rfl (fun hq => ?_) (fun hq => ?_) <;> first | subst hq | (first | (simp only [decide_eq_true_eq, decide_eq_false_iff_not, beq_iff_eq, beq_eq_false_iff_ne, bne_iff_ne, bne_eq_false_iff_eq, Bool.not_eq_true', Bool.not_eq_false'] at hq; first | (exfalso; omega) | skip) | skip)) | fail) | (refine then_one ?_; first | refine q_then ?_ | refine q_then_exit ?_ | refine q_then_ret ?_ | fail) | (refine block_one ?_; first | refine q_block ?_ | refine q_block_exit ?_ | refine q_block_pass (by decide) ?_ | refine q_block_ret ?_ | fail) | refine feet_one (feetOk_of (by kernel_rfl)) ?_ | fail)
    all_goals first
      | (exfalso; omega)
      | (refine aexit_eq (by first | exact .inl rfl | exact .inr rfl) (results_2 rfl (resOk_tmp rfl) (resOk_tmp rfl)) rfl ?_; rfl)
  · rw [if_neg h0] at hR
    by_cases h1 : 8192 < l.length
    · rw [if_pos h1] at hR
      subst hR
      refine acalls_plain Try.func26 rfl rfl (Nat.le_of_ble_eq_true rfl) rfl ?_
      repeat' (first | refine aops_nil ?_ | (refine aops_one ?_; first | refine aops_quiet tabOk rfl rfl rfl (Nat.le_of_ble_eq_true rfl) rfl ?_ | refine aops_skip rfl rfl (Nat.le_of_ble_eq_true rfl) ?_ | (refine aops_cmp rfl rfl rfl (Nat.le_of_ble_eq_true rfl) rfl rfl rfl (fun hq => ?_) (fun hq => ?_) <;> (first | (simp only [decide_eq_true_eq, decide_eq_false_iff_not, beq_iff_eq, beq_eq_false_iff_ne, bne_iff_ne, bne_eq_false_iff_eq, Bool.not_eq_true', Bool.not_eq_false'] at hq; first | (exfalso; omega) | skip) | skip)) | refine aops_inc rfl rfl rfl (Nat.le_of_ble_eq_true rfl) rfl rfl (by omega) ?_ | refine aops_add rfl rfl rfl (Nat.le_of_ble_eq_true rfl) rfl rfl rfl (by omega) (by omega) ?_ | refine aops_sub rfl rfl rfl (Nat.le_of_ble_eq_true rfl) rfl rfl rfl (by omega) (by omega) ?_ | refine aops_list tabOk rfl rfl rfl (Nat.le_of_ble_eq_true rfl) rfl rfl rfl rfl rfl rfl rfl rfl rfl ?_ | refine aops_pure tabOk rfl rfl (Nat.le_of_ble_eq_true rfl) rfl ?_ | refine aops_alloc tabOk rfl rfl rfl (Nat.le_of_ble_eq_true rfl) rfl rfl rfl rfl rfl rfl ?_ | refine aops_loadm tabOk rfl rfl rfl (Nat.le_of_ble_eq_true rfl) rfl rfl rfl rfl ?_ | refine aops_storem tabOk rfl rfl rfl rfl rfl rfl rfl rfl rfl rfl rfl ?_ | refine aops_index tabOk rfl rfl rfl (Nat.le_of_ble_eq_true rfl) rfl rfl rfl rfl (by first | assumption | omega) ?_ | refine aops_index0 tabOk rfl rfl rfl (Nat.le_of_ble_eq_true rfl) rfl rfl rfl rfl (by first | rfl | omega) (by first | omega | simp) ?_ | refine aops_load1 tabOk rfl rfl rfl (Nat.le_of_ble_eq_true rfl) rfl rfl rfl (by assumption) ?_ | refine aops_load1 tabOk rfl rfl rfl (Nat.le_of_ble_eq_true rfl) rfl rfl rfl (ivs_get _ _ (by first | assumption | omega)) ?_ | refine aops_inc rfl rfl rfl (Nat.le_of_ble_eq_true rfl) rfl rfl (by omega) ?_ | ((fail_if_success (refine aops_lit (b := true) rfl rfl rfl ?_)); (fail_if_success (refine aops_lit (b := false) rfl rfl rfl ?_)); refine aops_guard rfl rfl rfl (fun hq => ?_) (fun hq => ?_) <;> first | subst hq | (first | (simp only [decide_eq_true_eq, decide_eq_false_iff_not, beq_iff_eq, beq_eq_false_iff_ne, bne_iff_ne, bne_eq_false_iff_eq, Bool.not_eq_true', Bool.not_eq_false'] at hq; first | (exfalso; omega) | skip) | skip)) | fail) | (refine awp_one ?_; first | refine awp_sreg ?_ | refine awp_seq ?_ | refine awp_region ?_ | refine awp_block ?_ | refine awp_ret ?_ | refine awp_exit ?_ | refine awp_skip ?_ | refine awp_cond (b := true) rfl (fun _ => ?_) (fun h => Bool.noConfusion h) | refine awp_cond (b := false) rfl (fun h => Bool.noConfusion h) (fun _ => ?_) | refine awp_scope ?_ | refine awp_label ?_ | refine awp_sdraw mixed (by kernel_rfl) ?_ | refine awp_region_draw mixed (by kernel_rfl) ?_ | (refine awp_cond rfl (fun hq => ?_) (fun hq => ?_) <;> first | subst hq | (first | (simp only [decide_eq_true_eq, decide_eq_false_iff_not, beq_iff_eq, beq_eq_false_iff_ne, bne_iff_ne, bne_eq_false_iff_eq, Bool.not_eq_true', Bool.not_eq_false'] at hq; first | (exfalso; omega) | skip) | skip)) | fail) | (refine then_one ?_; first | refine q_then ?_ | refine q_then_exit ?_ | refine q_then_ret ?_ | fail) | (refine block_one ?_; first | refine q_block ?_ | refine q_block_exit ?_ | refine q_block_pass (by decide) ?_ | refine q_block_ret ?_ | fail) | refine feet_one (feetOk_of (by kernel_rfl)) ?_ | fail)
      all_goals first
        | (exfalso; omega)
        | (refine aexit_eq (by first | exact .inl rfl | exact .inr rfl) (results_2 rfl (resOk_tmp rfl) (resOk_tmp rfl)) rfl ?_; rfl)
    · rw [if_neg h1] at hR
      have hbad : ¬ (below l ∧ once l) → R = (.nil, 16) := fun h => by rw [hR, if_neg h]
      have hgood : below l ∧ once l → R = (growT l l.length (l.length - 1), 0) := fun h => by rw [hR, if_pos h]
      clear hR
      have hcz := cnt_zero l.length
      have hlimit : ∀ m : List Int, m.length ≤ 67108864 → ∀ x, m.count x < 9223372036854775807 := fun m hm x => by
        have := List.count_le_length (l := m) (a := x)
        omega
      have hpre : ∀ i, (allK (l.take i)).length ≤ l.length * 8192 := fun i => Nat.le_trans (allK_len 8192 _ (fun c hc => hk c (List.mem_of_mem_take hc))) (Nat.mul_le_mul_right _ (by rw [List.length_take]; omega))
      refine acalls_plain Try.func26 rfl rfl (Nat.le_of_ble_eq_true rfl) rfl ?_
      repeat' (first | refine aops_nil ?_ | (refine aops_one ?_; first | refine aops_quiet tabOk rfl rfl rfl (Nat.le_of_ble_eq_true rfl) rfl ?_ | refine aops_skip rfl rfl (Nat.le_of_ble_eq_true rfl) ?_ | (refine aops_cmp rfl rfl rfl (Nat.le_of_ble_eq_true rfl) rfl rfl rfl (fun hq => ?_) (fun hq => ?_) <;> (first | (simp only [decide_eq_true_eq, decide_eq_false_iff_not, beq_iff_eq, beq_eq_false_iff_ne, bne_iff_ne, bne_eq_false_iff_eq, Bool.not_eq_true', Bool.not_eq_false'] at hq; first | (exfalso; omega) | skip) | skip))| refine aops_makeslice 600 tabOk rfl rfl rfl (Nat.le_of_ble_eq_true rfl) rfl rfl rfl rfl rfl rfl rfl (by simp only [slMax]; omega) (by dsimp only; omega) (by simp) rfl rfl ?_ | refine aops_inc rfl rfl rfl (Nat.le_of_ble_eq_true rfl) rfl rfl (by omega) ?_ | refine aops_add rfl rfl rfl (Nat.le_of_ble_eq_true rfl) rfl rfl rfl (by omega) (by omega) ?_ | refine aops_sub rfl rfl rfl (Nat.le_of_ble_eq_true rfl) rfl rfl rfl (by omega) (by omega) ?_ | refine aops_list tabOk rfl rfl rfl (Nat.le_of_ble_eq_true rfl) rfl rfl rfl rfl rfl rfl rfl rfl rfl ?_ | refine aops_pure tabOk rfl rfl (Nat.le_of_ble_eq_true rfl) rfl ?_ | refine aops_alloc tabOk rfl rfl rfl (Nat.le_of_ble_eq_true rfl) rfl rfl rfl rfl rfl rfl ?_ | refine aops_loadm tabOk rfl rfl rfl (Nat.le_of_ble_eq_true rfl) rfl rfl rfl rfl ?_ | refine aops_storem tabOk rfl rfl rfl rfl rfl rfl rfl rfl rfl rfl rfl ?_ | refine aops_index tabOk rfl rfl rfl (Nat.le_of_ble_eq_true rfl) rfl rfl rfl rfl (by first | assumption | omega) ?_ | refine aops_index0 tabOk rfl rfl rfl (Nat.le_of_ble_eq_true rfl) rfl rfl rfl rfl (by first | rfl | omega) (by first | omega | simp) ?_ | refine aops_load1 tabOk rfl rfl rfl (Nat.le_of_ble_eq_true rfl) rfl rfl rfl (by assumption) ?_ | refine aops_load1 tabOk rfl rfl rfl (Nat.le_of_ble_eq_true rfl) rfl rfl rfl (ivs_get _ _ (by first | assumption | omega)) ?_ | refine aops_inc rfl rfl rfl (Nat.le_of_ble_eq_true rfl) rfl rfl (by omega) ?_ | ((fail_if_success (refine aops_lit (b := true) rfl rfl rfl ?_)); (fail_if_success (refine aops_lit (b := false) rfl rfl rfl ?_)); refine aops_guard rfl rfl rfl (fun hq => ?_) (fun hq => ?_) <;> first | subst hq | (first | (simp only [decide_eq_true_eq, decide_eq_false_iff_not, beq_iff_eq, beq_eq_false_iff_ne, bne_iff_ne, bne_eq_false_iff_eq, Bool.not_eq_true', Bool.not_eq_false'] at hq; first | (exfalso; omega) | skip) | skip)) | fail) | (refine awp_one ?_; first | refine awp_sreg ?_ | refine awp_seq ?_ | refine awp_region ?_ | refine awp_block ?_ | refine awp_ret ?_ | refine awp_exit ?_ | refine awp_skip ?_ | refine awp_cond (b := true) rfl (fun _ => ?_) (fun h => Bool.noConfusion h) | refine awp_cond (b := false) rfl (fun h => Bool.noConfusion h) (fun _ => ?_) | refine awp_scope ?_ | refine awp_label ?_ | refine awp_sdraw mixed (by kernel_rfl) ?_ | refine awp_region_draw mixed (by kernel_rfl) ?_ | (refine awp_cond rfl (fun hq => ?_) (fun hq => ?_) <;> first | subst hq | (first | (simp only [decide_eq_true_eq, decide_eq_false_iff_not, beq_iff_eq, beq_eq_false_iff_ne, bne_iff_ne, bne_eq_false_iff_eq, Bool.not_eq_true', Bool.not_eq_false'] at hq; first | (exfalso; omega) | skip) | skip)) | fail) | (refine then_one ?_; first | refine q_then ?_ | refine q_then_exit ?_ | refine q_then_ret ?_ | fail) | (refine block_one ?_; first | refine q_block ?_ | refine q_block_exit ?_ | refine q_block_pass (by decide) ?_ | refine q_block_ret ?_ | fail) | refine feet_one (feetOk_of (by kernel_rfl)) ?_ | fail)
      all_goals first | (exfalso; omega) | skip
      rw [hcz]
      refine awp_loop (ι := {i : Nat // i ≤ l.length ∧ ∀ j (h : j < l.length), j < i → ∀ x ∈ l[j].kids, 0 ≤ x ∧ x < (j : Int)}) (fun i => S.f ⟨[(6, .imm (.lit (.int .i64 (i.1 : Int)))), (5, .ref 600 l.length), (4, .imm (.lit (.int .i64 (l.length : Int)))), (1, .imm (.ptr [.sl false l.length (cellIVs l)] 0))], [(600, .arr 3 1 l.length (cntIVs l.length (allK (l.take i.1))))]⟩) (fun i => l.length - i.1) ⟨0, Nat.zero_le _, fun j h h2 => by omega⟩ (le_of (by repeat' first | exact trivial | refine ⟨rfl, ?_⟩) (by repeat' first | exact trivial | refine ⟨rfl, ?_⟩)) ?_
      rintro ⟨i, hi, hpr⟩
      dsimp only
      by_cases hil : i < l.length
      · have hck := cell_kids hil
        have hki := hk _ (List.getElem_mem hil)
        have hstep := allK_succ l i hil
        repeat' (first | refine aops_nil ?_ | (refine aops_one ?_; first | refine aops_quiet tabOk rfl rfl rfl (Nat.le_of_ble_eq_true rfl) rfl ?_ | refine aops_skip rfl rfl (Nat.le_of_ble_eq_true rfl) ?_ | (refine aops_cmp rfl rfl rfl (Nat.le_of_ble_eq_true rfl) rfl rfl rfl (fun hq => ?_) (fun hq => ?_) <;> (first | (simp only [decide_eq_true_eq, decide_eq_false_iff_not, beq_iff_eq, beq_eq_false_iff_ne, bne_iff_ne, bne_eq_false_iff_eq, Bool.not_eq_true', Bool.not_eq_false'] at hq; first | (exfalso; omega) | skip) | skip)) | refine aops_inc rfl rfl rfl (Nat.le_of_ble_eq_true rfl) rfl rfl (by omega) ?_ | refine aops_add rfl rfl rfl (Nat.le_of_ble_eq_true rfl) rfl rfl rfl (by omega) (by omega) ?_ | refine aops_sub rfl rfl rfl (Nat.le_of_ble_eq_true rfl) rfl rfl rfl (by omega) (by omega) ?_ | refine aops_list tabOk rfl rfl rfl (Nat.le_of_ble_eq_true rfl) rfl rfl rfl rfl rfl rfl rfl rfl rfl ?_ | refine aops_pure tabOk rfl rfl (Nat.le_of_ble_eq_true rfl) rfl ?_ | refine aops_alloc tabOk rfl rfl rfl (Nat.le_of_ble_eq_true rfl) rfl rfl rfl rfl rfl rfl ?_ | refine aops_loadm tabOk rfl rfl rfl (Nat.le_of_ble_eq_true rfl) rfl rfl rfl rfl ?_ | refine aops_storem tabOk rfl rfl rfl rfl rfl rfl rfl rfl rfl rfl rfl ?_ | refine aops_index tabOk rfl rfl rfl (Nat.le_of_ble_eq_true rfl) rfl rfl rfl rfl (by first | assumption | omega) ?_ | refine aops_index0 tabOk rfl rfl rfl (Nat.le_of_ble_eq_true rfl) rfl rfl rfl rfl (by first | rfl | omega) (by first | omega | simp) ?_ | refine aops_load1 tabOk rfl rfl rfl (Nat.le_of_ble_eq_true rfl) rfl rfl rfl (by assumption) ?_ | refine aops_load1 tabOk rfl rfl rfl (Nat.le_of_ble_eq_true rfl) rfl rfl rfl (ivs_get _ _ (by first | assumption | omega)) ?_ | refine aops_inc rfl rfl rfl (Nat.le_of_ble_eq_true rfl) rfl rfl (by omega) ?_ | ((fail_if_success (refine aops_lit (b := true) rfl rfl rfl ?_)); (fail_if_success (refine aops_lit (b := false) rfl rfl rfl ?_)); refine aops_guard rfl rfl rfl (fun hq => ?_) (fun hq => ?_) <;> first | subst hq | (first | (simp only [decide_eq_true_eq, decide_eq_false_iff_not, beq_iff_eq, beq_eq_false_iff_ne, bne_iff_ne, bne_eq_false_iff_eq, Bool.not_eq_true', Bool.not_eq_false'] at hq; first | (exfalso; omega) | skip) | skip)) | fail) | (refine awp_one ?_; first | refine awp_sreg ?_ | refine awp_seq ?_ | refine awp_region ?_ | refine awp_block ?_ | refine awp_ret ?_ | refine awp_exit ?_ | refine awp_skip ?_ | refine awp_cond (b := true) rfl (fun _ => ?_) (fun h => Bool.noConfusion h) | refine awp_cond (b := false) rfl (fun h => Bool.noConfusion h) (fun _ => ?_) | refine awp_scope ?_ | refine awp_label ?_ | refine awp_sdraw mixed (by kernel_rfl) ?_ | refine awp_region_draw mixed (by kernel_rfl) ?_ | (refine awp_cond rfl (fun hq => ?_) (fun hq => ?_) <;> first | subst hq | (first | (simp only [decide_eq_true_eq, decide_eq_false_iff_not, beq_iff_eq, beq_eq_false_iff_ne, bne_iff_ne, bne_eq_false_iff_eq, Bool.not_eq_true', Bool.not_eq_false'] at hq; first | (exfalso; omega) | skip) | skip)) | fail) | (refine then_one ?_; first | refine q_then ?_ | refine q_then_exit ?_ | refine q_then_ret ?_ | fail) | (refine block_one ?_; first | refine q_block ?_ | refine q_block_exit ?_ | refine q_block_pass (by decide) ?_ | refine q_block_ret ?_ | fail) | refine feet_one (feetOk_of (by kernel_rfl)) ?_ | fail)
        have e0 : cntIVs l.length (allK (l.take i)) = cntIVs l.length (allK (l.take i) ++ l[i].kids.take 0) := by rw [List.take_zero, List.append_nil]
        rw [e0]
        refine awp_loop (ι := {k : Nat // k ≤ l[i].kids.length ∧ ∀ x ∈ l[i].kids.take k, 0 ≤ x ∧ x < (i : Int)}) (fun k => S.f ⟨[(7, .imm (.lit (.int .i64 (k.1 : Int)))), (6, .imm (.lit (.int .i64 (i : Int)))), (5, .ref 600 l.length), (4, .imm (.lit (.int .i64 (l.length : Int)))), (1, .imm (.ptr [.sl false l.length (cellIVs l)] 0))], [(600, .arr 3 1 l.length (cntIVs l.length (allK (l.take i) ++ l[i].kids.take k.1)))]⟩) (fun k => l[i].kids.length - k.1) ⟨0, Nat.zero_le _, fun x hx => by rw [List.take_zero] at hx; cases hx⟩ (le_of (by repeat' first | exact trivial | refine ⟨rfl, ?_⟩) (by repeat' first | exact trivial | refine ⟨rfl, ?_⟩)) ?_
        rintro ⟨k, hkk, hkr⟩
        dsimp only
        by_cases hkl : k < l[i].kids.length
        · have hix := intIVs_get l[i].kids k hkl
          have hbk := @bad_kid l i k hil hkl
          have hnx : l[i].kids.take (k + 1) = l[i].kids.take k ++ [l[i].kids[k]] := List.take_succ_eq_append_getElem hkl
          have hpk : (allK (l.take i) ++ l[i].kids.take k).length ≤ 67108864 := by
            have := hpre i
            have h2 : l.length * 8192 ≤ 8192 * 8192 := Nat.mul_le_mul_right _ (by omega)
            have h3 : allK (l.take (i + 1)) = allK (l.take i) ++ l[i].kids := hstep
            have h4 := hpre (i + 1)
            rw [h3, List.length_append] at h4
            rw [List.length_append, List.length_take]
            omega
          have hcl := hlimit _ hpk l[i].kids[k]
          by_cases hx : 0 ≤ l[i].kids[k] ∧ l[i].kids[k] < (i : Int)
          · have hg1 := cnt_get l.length (allK (l.take i) ++ l[i].kids.take k) l[i].kids[k] hx.1 (by omega)
            have hs1 := cnt_set l.length (allK (l.take i) ++ l[i].kids.take k) l[i].kids[k] hx.1 (by omega)
            have hxe : l[i].kids[k] = ((l[i].kids[k]).toNat : Int) := (Int.toNat_of_nonneg hx.1).symm
            have hxl : (l[i].kids[k]).toNat < l.length := by omega
            have hkr2 : ∀ x ∈ l[i].kids.take (k + 1), 0 ≤ x ∧ x < (i : Int) := fun x hm => by
              rw [hnx, List.mem_append] at hm
              rcases hm with hm | hm
              · exact hkr x hm
              · rw [List.mem_singleton.1 hm]; exact hx
            rw [List.append_assoc, ← hnx] at hs1
            generalize (allK (l.take i) ++ l[i].kids.take k).count l[i].kids[k] = cn at *
            repeat' (first | refine aops_nil ?_ | (refine aops_one ?_; first | refine aops_quiet tabOk rfl rfl rfl (Nat.le_of_ble_eq_true rfl) rfl ?_ | refine aops_skip rfl rfl (Nat.le_of_ble_eq_true rfl) ?_ | (refine aops_cmp rfl rfl rfl (Nat.le_of_ble_eq_true rfl) rfl rfl rfl (fun hq => ?_) (fun hq => ?_) <;> (first | (simp only [decide_eq_true_eq, decide_eq_false_iff_not, beq_iff_eq, beq_eq_false_iff_ne, bne_iff_ne, bne_eq_false_iff_eq, Bool.not_eq_true', Bool.not_eq_false'] at hq; first | (exfalso; omega) | skip) | skip))| refine aops_load1 tabOk rfl rfl rfl (Nat.le_of_ble_eq_true rfl) rfl rfl rfl hck ?_ | refine aops_load1 tabOk rfl rfl rfl (Nat.le_of_ble_eq_true rfl) rfl rfl rfl hix ?_ | refine aops_indexref tabOk rfl rfl rfl (Nat.le_of_ble_eq_true rfl) rfl rfl rfl rfl rfl rfl hxe hxl ?_ | refine aops_loadel tabOk rfl rfl rfl (Nat.le_of_ble_eq_true rfl) rfl rfl rfl rfl (by omega) hg1 ?_ | refine aops_inc rfl rfl rfl (Nat.le_of_ble_eq_true rfl) rfl rfl hcl ?_ | refine aops_storeel tabOk rfl rfl rfl rfl rfl rfl rfl rfl rfl rfl (by omega) (by show (l[i].kids[k]).toNat * 1 < l.length * 1; omega) ?_ | refine aops_inc rfl rfl rfl (Nat.le_of_ble_eq_true rfl) rfl rfl (by omega) ?_ | refine aops_add rfl rfl rfl (Nat.le_of_ble_eq_true rfl) rfl rfl rfl (by omega) (by omega) ?_ | refine aops_sub rfl rfl rfl (Nat.le_of_ble_eq_true rfl) rfl rfl rfl (by omega) (by omega) ?_ | refine aops_list tabOk rfl rfl rfl (Nat.le_of_ble_eq_true rfl) rfl rfl rfl rfl rfl rfl rfl rfl rfl ?_ | refine aops_pure tabOk rfl rfl (Nat.le_of_ble_eq_true rfl) rfl ?_ | refine aops_alloc tabOk rfl rfl rfl (Nat.le_of_ble_eq_true rfl) rfl rfl rfl rfl rfl rfl ?_ | refine aops_loadm tabOk rfl rfl rfl (Nat.le_of_ble_eq_true rfl) rfl rfl rfl rfl ?_ | refine aops_storem tabOk rfl rfl rfl rfl rfl rfl rfl rfl rfl rfl rfl ?_ | refine aops_index tabOk rfl rfl rfl (Nat.le_of_ble_eq_true rfl) rfl rfl rfl rfl (by first | assumption | omega) ?_ | refine aops_index0 tabOk rfl rfl rfl (Nat.le_of_ble_eq_true rfl) rfl rfl rfl rfl (by first | rfl | omega) (by first | omega | simp) ?_ | refine aops_load1 tabOk rfl rfl rfl (Nat.le_of_ble_eq_true rfl) rfl rfl rfl (by assumption) ?_ | refine aops_load1 tabOk rfl rfl rfl (Nat.le_of_ble_eq_true rfl) rfl rfl rfl (ivs_get _ _ (by first | assumption | omega)) ?_ | refine aops_inc rfl rfl rfl (Nat.le_of_ble_eq_true rfl) rfl rfl (by omega) ?_ | ((fail_if_success (refine aops_lit (b := true) rfl rfl rfl ?_)); (fail_if_success (refine aops_lit (b := false) rfl rfl rfl ?_)); refine aops_guard rfl rfl rfl (fun hq => ?_) (fun hq => ?_) <;> first | subst hq | (first | (simp only [decide_eq_true_eq, decide_eq_false_iff_not, beq_iff_eq, beq_eq_false_iff_ne, bne_iff_ne, bne_eq_false_iff_eq, Bool.not_eq_true', Bool.not_eq_false'] at hq; first | (exfalso; omega) | skip) | skip)) | fail) | (refine awp_one ?_; first | refine awp_sreg ?_ | refine awp_seq ?_ | refine awp_region ?_ | refine awp_block ?_ | refine awp_ret ?_ | refine awp_exit ?_ | refine awp_skip ?_ | refine awp_cond (b := true) rfl (fun _ => ?_) (fun h => Bool.noConfusion h) | refine awp_cond (b := false) rfl (fun h => Bool.noConfusion h) (fun _ => ?_) | refine awp_scope ?_ | refine awp_label ?_ | refine awp_sdraw mixed (by kernel_rfl) ?_ | refine awp_region_draw mixed (by kernel_rfl) ?_ | (refine awp_cond rfl (fun hq => ?_) (fun hq => ?_) <;> first | subst hq | (first | (simp only [decide_eq_true_eq, decide_eq_false_iff_not, beq_iff_eq, beq_eq_false_iff_ne, bne_iff_ne, bne_eq_false_iff_eq, Bool.not_eq_true', Bool.not_eq_false'] at hq; first | (exfalso; omega) | skip) | skip)) | fail) | (refine then_one ?_; first | refine q_then ?_ | refine q_then_exit ?_ | refine q_then_ret ?_ | fail) | (refine block_one ?_; first | refine q_block ?_ | refine q_block_exit ?_ | refine q_block_pass (by decide) ?_ | refine q_block_ret ?_ | fail) | refine feet_one (feetOk_of (by kernel_rfl)) ?_ | fail)
            all_goals first | (exfalso; omega) | skip
            refine ⟨⟨k + 1, hkl, hkr2⟩, (by show l[i].kids.length - (k + 1) < l[i].kids.length - k; omega), ?_⟩
            dsimp only
            rw [← hs1]
            exact (le_of (by repeat' first | exact trivial | refine ⟨rfl, ?_⟩) (by repeat' first | exact trivial | refine ⟨rfl, ?_⟩))
          · have e := hbad (fun h => hbk (by omega) h.1)
            subst e
            repeat' (first | refine aops_nil ?_ | (refine aops_one ?_; first | refine aops_quiet tabOk rfl rfl rfl (Nat.le_of_ble_eq_true rfl) rfl ?_ | refine aops_skip rfl rfl (Nat.le_of_ble_eq_true rfl) ?_ | (refine aops_cmp rfl rfl rfl (Nat.le_of_ble_eq_true rfl) rfl rfl rfl (fun hq => ?_) (fun hq => ?_) <;> (first | (simp only [decide_eq_true_eq, decide_eq_false_iff_not, beq_iff_eq, beq_eq_false_iff_ne, bne_iff_ne, bne_eq_false_iff_eq, Bool.not_eq_true', Bool.not_eq_false'] at hq; first | (exfalso; omega) | skip) | skip))| refine aops_load1 tabOk rfl rfl rfl (Nat.le_of_ble_eq_true rfl) rfl rfl rfl hck ?_ | refine aops_load1 tabOk rfl rfl rfl (Nat.le_of_ble_eq_true rfl) rfl rfl rfl hix ?_ | refine aops_inc rfl rfl rfl (Nat.le_of_ble_eq_true rfl) rfl rfl (by omega) ?_ | refine aops_add rfl rfl rfl (Nat.le_of_ble_eq_true rfl) rfl rfl rfl (by omega) (by omega) ?_ | refine aops_sub rfl rfl rfl (Nat.le_of_ble_eq_true rfl) rfl rfl rfl (by omega) (by omega) ?_ | refine aops_list tabOk rfl rfl rfl (Nat.le_of_ble_eq_true rfl) rfl rfl rfl rfl rfl rfl rfl rfl rfl ?_ | refine aops_pure tabOk rfl rfl (Nat.le_of_ble_eq_true rfl) rfl ?_ | refine aops_alloc tabOk rfl rfl rfl (Nat.le_of_ble_eq_true rfl) rfl rfl rfl rfl rfl rfl ?_ | refine aops_loadm tabOk rfl rfl rfl (Nat.le_of_ble_eq_true rfl) rfl rfl rfl rfl ?_ | refine aops_storem tabOk rfl rfl rfl rfl rfl rfl rfl rfl rfl rfl rfl ?_ | refine aops_index tabOk rfl rfl rfl (Nat.le_of_ble_eq_true rfl) rfl rfl rfl rfl (by first | assumption | omega) ?_ | refine aops_index0 tabOk rfl rfl rfl (Nat.le_of_ble_eq_true rfl) rfl rfl rfl rfl (by first | rfl | omega) (by first | omega | simp) ?_ | refine aops_load1 tabOk rfl rfl rfl (Nat.le_of_ble_eq_true rfl) rfl rfl rfl (by assumption) ?_ | refine aops_load1 tabOk rfl rfl rfl (Nat.le_of_ble_eq_true rfl) rfl rfl rfl (ivs_get _ _ (by first | assumption | omega)) ?_ | refine aops_inc rfl rfl rfl (Nat.le_of_ble_eq_true rfl) rfl rfl (by omega) ?_ | ((fail_if_success (refine aops_lit (b := true) rfl rfl rfl ?_)); (fail_if_success (refine aops_lit (b := false) rfl rfl rfl ?_)); refine aops_guard rfl rfl rfl (fun hq => ?_) (fun hq => ?_) <;> first | subst hq | (first | (simp only [decide_eq_true_eq, decide_eq_false_iff_not, beq_iff_eq, beq_eq_false_iff_ne, bne_iff_ne, bne_eq_false_iff_eq, Bool.not_eq_true', Bool.not_eq_false'] at hq; first | (exfalso; omega) | skip) | skip)) | fail) | (refine awp_one ?_; first | refine awp_sreg ?_ | refine awp_seq ?_ | refine awp_region ?_ | refine awp_block ?_ | refine awp_ret ?_ | refine awp_exit ?_ | refine awp_skip ?_ | refine awp_cond (b := true) rfl (fun _ => ?_) (fun h => Bool.noConfusion h) | refine awp_cond (b := false) rfl (fun h => Bool.noConfusion h) (fun _ => ?_) | refine awp_scope ?_ | refine awp_label ?_ | refine awp_sdraw mixed (by kernel_rfl) ?_ | refine awp_region_draw mixed (by kernel_rfl) ?_ | (refine awp_cond rfl (fun hq => ?_) (fun hq => ?_) <;> first | subst hq | (first | (simp only [decide_eq_true_eq, decide_eq_false_iff_not, beq_iff_eq, beq_eq_false_iff_ne, bne_iff_ne, bne_eq_false_iff_eq, Bool.not_eq_true', Bool.not_eq_false'] at hq; first | (exfalso; omega) | skip) | skip)) | fail) | (refine then_one ?_; first | refine q_then ?_ | refine q_then_exit ?_ | refine q_then_ret ?_ | fail) | (refine block_one ?_; first | refine q_block ?_ | refine q_block_exit ?_ | refine q_block_pass (by decide) ?_ | refine q_block_ret ?_ | fail) | refine feet_one (feetOk_of (by kernel_rfl)) ?_ | fail)
            all_goals first
              | (exfalso; omega)
              | (refine aexit_eq (by first | exact .inl rfl | exact .inr rfl) (results_2 rfl (resOk_tmp rfl) (resOk_tmp rfl)) rfl ?_; rfl)
        · have ek : k = l[i].kids.length := by omega
          subst ek
          rw [List.take_length] at *
          rw [← hstep]
          have hpr2 : ∀ j (h : j < l.length), j < i + 1 → ∀ x ∈ l[j].kids, 0 ≤ x ∧ x < (j : Int) := fun j h hj x hx => by
            rcases Nat.lt_or_ge j i with h2 | h2
            · exact hpr j h h2 x hx
            · have e : j = i := by omega
              subst e
              exact hkr x hx
          repeat' (first | refine aops_nil ?_ | (refine aops_one ?_; first | refine aops_quiet tabOk rfl rfl rfl (Nat.le_of_ble_eq_true rfl) rfl ?_ | refine aops_skip rfl rfl (Nat.le_of_ble_eq_true rfl) ?_ | (refine aops_cmp rfl rfl rfl (Nat.le_of_ble_eq_true rfl) rfl rfl rfl (fun hq => ?_) (fun hq => ?_) <;> (first | (simp only [decide_eq_true_eq, decide_eq_false_iff_not, beq_iff_eq, beq_eq_false_iff_ne, bne_iff_ne, bne_eq_false_iff_eq, Bool.not_eq_true', Bool.not_eq_false'] at hq; first | (exfalso; omega) | skip) | skip))| refine aops_load1 tabOk rfl rfl rfl (Nat.le_of_ble_eq_true rfl) rfl rfl rfl hck ?_ | refine aops_inc rfl rfl rfl (Nat.le_of_ble_eq_true rfl) rfl rfl (by omega) ?_ | refine aops_add rfl rfl rfl (Nat.le_of_ble_eq_true rfl) rfl rfl rfl (by omega) (by omega) ?_ | refine aops_sub rfl rfl rfl (Nat.le_of_ble_eq_true rfl) rfl rfl rfl (by omega) (by omega) ?_ | refine aops_list tabOk rfl rfl rfl (Nat.le_of_ble_eq_true rfl) rfl rfl rfl rfl rfl rfl rfl rfl rfl ?_ | refine aops_pure tabOk rfl rfl (Nat.le_of_ble_eq_true rfl) rfl ?_ | refine aops_alloc tabOk rfl rfl rfl (Nat.le_of_ble_eq_true rfl) rfl rfl rfl rfl rfl rfl ?_ | refine aops_loadm tabOk rfl rfl rfl (Nat.le_of_ble_eq_true rfl) rfl rfl rfl rfl ?_ | refine aops_storem tabOk rfl rfl rfl rfl rfl rfl rfl rfl rfl rfl rfl ?_ | refine aops_index tabOk rfl rfl rfl (Nat.le_of_ble_eq_true rfl) rfl rfl rfl rfl (by first | assumption | omega) ?_ | refine aops_index0 tabOk rfl rfl rfl (Nat.le_of_ble_eq_true rfl) rfl rfl rfl rfl (by first | rfl | omega) (by first | omega | simp) ?_ | refine aops_load1 tabOk rfl rfl rfl (Nat.le_of_ble_eq_true rfl) rfl rfl rfl (by assumption) ?_ | refine aops_load1 tabOk rfl rfl rfl (Nat.le_of_ble_eq_true rfl) rfl rfl rfl (ivs_get _ _ (by first | assumption | omega)) ?_ | refine aops_inc rfl rfl rfl (Nat.le_of_ble_eq_true rfl) rfl rfl (by omega) ?_ | ((fail_if_success (refine aops_lit (b := true) rfl rfl rfl ?_)); (fail_if_success (refine aops_lit (b := false) rfl rfl rfl ?_)); refine aops_guard rfl rfl rfl (fun hq => ?_) (fun hq => ?_) <;> first | subst hq | (first | (simp only [decide_eq_true_eq, decide_eq_false_iff_not, beq_iff_eq, beq_eq_false_iff_ne, bne_iff_ne, bne_eq_false_iff_eq, Bool.not_eq_true', Bool.not_eq_false'] at hq; first | (exfalso; omega) | skip) | skip)) | fail) | (refine awp_one ?_; first | refine awp_sreg ?_ | refine awp_seq ?_ | refine awp_region ?_ | refine awp_block ?_ | refine awp_ret ?_ | refine awp_exit ?_ | refine awp_skip ?_ | refine awp_cond (b := true) rfl (fun _ => ?_) (fun h => Bool.noConfusion h) | refine awp_cond (b := false) rfl (fun h => Bool.noConfusion h) (fun _ => ?_) | refine awp_scope ?_ | refine awp_label ?_ | refine awp_sdraw mixed (by kernel_rfl) ?_ | refine awp_region_draw mixed (by kernel_rfl) ?_ | (refine awp_cond rfl (fun hq => ?_) (fun hq => ?_) <;> first | subst hq | (first | (simp only [decide_eq_true_eq, decide_eq_false_iff_not, beq_iff_eq, beq_eq_false_iff_ne, bne_iff_ne, bne_eq_false_iff_eq, Bool.not_eq_true', Bool.not_eq_false'] at hq; first | (exfalso; omega) | skip) | skip)) | fail) | (refine then_one ?_; first | refine q_then ?_ | refine q_then_exit ?_ | refine q_then_ret ?_ | fail) | (refine block_one ?_; first | refine q_block ?_ | refine q_block_exit ?_ | refine q_block_pass (by decide) ?_ | refine q_block_ret ?_ | fail) | refine feet_one (feetOk_of (by kernel_rfl)) ?_ | fail)
          all_goals first
            | (exfalso; omega)
            | exact ⟨⟨i + 1, hil, hpr2⟩, (by show l.length - (i + 1) < l.length - i; omega), (le_of (by repeat' first | exact trivial | refine ⟨rfl, ?_⟩) (by repeat' first | exact trivial | refine ⟨rfl, ?_⟩))⟩
      · have ei : i = l.length := by omega
        subst ei
        have hbl : below l := fun j h x hx => hpr j h h x hx
        rw [List.take_length]
        repeat' (first | refine aops_nil ?_ | (refine aops_one ?_; first | refine aops_quiet tabOk rfl rfl rfl (Nat.le_of_ble_eq_true rfl) rfl ?_ | refine aops_skip rfl rfl (Nat.le_of_ble_eq_true rfl) ?_ | (refine aops_cmp rfl rfl rfl (Nat.le_of_ble_eq_true rfl) rfl rfl rfl (fun hq => ?_) (fun hq => ?_) <;> (first | (simp only [decide_eq_true_eq, decide_eq_false_iff_not, beq_iff_eq, beq_eq_false_iff_ne, bne_iff_ne, bne_eq_false_iff_eq, Bool.not_eq_true', Bool.not_eq_false'] at hq; first | (exfalso; omega) | skip) | skip)) | refine aops_inc rfl rfl rfl (Nat.le_of_ble_eq_true rfl) rfl rfl (by omega) ?_ | refine aops_add rfl rfl rfl (Nat.le_of_ble_eq_true rfl) rfl rfl rfl (by omega) (by omega) ?_ | refine aops_sub rfl rfl rfl (Nat.le_of_ble_eq_true rfl) rfl rfl rfl (by omega) (by omega) ?_ | refine aops_list tabOk rfl rfl rfl (Nat.le_of_ble_eq_true rfl) rfl rfl rfl rfl rfl rfl rfl rfl rfl ?_ | refine aops_pure tabOk rfl rfl (Nat.le_of_ble_eq_true rfl) rfl ?_ | refine aops_alloc tabOk rfl rfl rfl (Nat.le_of_ble_eq_true rfl) rfl rfl rfl rfl rfl rfl ?_ | refine aops_loadm tabOk rfl rfl rfl (Nat.le_of_ble_eq_true rfl) rfl rfl rfl rfl ?_ | refine aops_storem tabOk rfl rfl rfl rfl rfl rfl rfl rfl rfl rfl rfl ?_ | refine aops_index tabOk rfl rfl rfl (Nat.le_of_ble_eq_true rfl) rfl rfl rfl rfl (by first | assumption | omega) ?_ | refine aops_index0 tabOk rfl rfl rfl (Nat.le_of_ble_eq_true rfl) rfl rfl rfl rfl (by first | rfl | omega) (by first | omega | simp) ?_ | refine aops_load1 tabOk rfl rfl rfl (Nat.le_of_ble_eq_true rfl) rfl rfl rfl (by assumption) ?_ | refine aops_load1 tabOk rfl rfl rfl (Nat.le_of_ble_eq_true rfl) rfl rfl rfl (ivs_get _ _ (by first | assumption | omega)) ?_ | refine aops_inc rfl rfl rfl (Nat.le_of_ble_eq_true rfl) rfl rfl (by omega) ?_ | ((fail_if_success (refine aops_lit (b := true) rfl rfl rfl ?_)); (fail_if_success (refine aops_lit (b := false) rfl rfl rfl ?_)); refine aops_guard rfl rfl rfl (fun hq => ?_) (fun hq => ?_) <;> first | subst hq | (first | (simp only [decide_eq_true_eq, decide_eq_false_iff_not, beq_iff_eq, beq_eq_false_iff_ne, bne_iff_ne, bne_eq_false_iff_eq, Bool.not_eq_true', Bool.not_eq_false'] at hq; first | (exfalso; omega) | skip) | skip)) | fail) | (refine awp_one ?_; first | refine awp_sreg ?_ | refine awp_seq ?_ | refine awp_region ?_ | refine awp_block ?_ | refine awp_ret ?_ | refine awp_exit ?_ | refine awp_skip ?_ | refine awp_cond (b := true) rfl (fun _ => ?_) (fun h => Bool.noConfusion h) | refine awp_cond (b := false) rfl (fun h => Bool.noConfusion h) (fun _ => ?_) | refine awp_scope ?_ | refine awp_label ?_ | refine awp_sdraw mixed (by kernel_rfl) ?_ | refine awp_region_draw mixed (by kernel_rfl) ?_ | (refine awp_cond rfl (fun hq => ?_) (fun hq => ?_) <;> first | subst hq | (first | (simp only [decide_eq_true_eq, decide_eq_false_iff_not, beq_iff_eq, beq_eq_false_iff_ne, bne_iff_ne, bne_eq_false_iff_eq, Bool.not_eq_true', Bool.not_eq_false'] at hq; first | (exfalso; omega) | skip) | skip)) | fail) | (refine then_one ?_; first | refine q_then ?_ | refine q_then_exit ?_ | refine q_then_ret ?_ | fail) | (refine block_one ?_; first | refine q_block ?_ | refine q_block_exit ?_ | refine q_block_pass (by decide) ?_ | refine q_block_ret ?_ | fail) | refine feet_one (feetOk_of (by kernel_rfl)) ?_ | fail)
        refine awp_loop (ι := {j : Nat // j ≤ l.length - 1 ∧ ∀ q : Nat, q < j → (allK l).count (q : Int) = 1}) (fun j => S.f ⟨[(9, .imm (.lit (.int .i64 (j.1 : Int)))), (5, .ref 600 l.length), (4, .imm (.lit (.int .i64 (l.length : Int)))), (1, .imm (.ptr [.sl false l.length (cellIVs l)] 0))], [(600, .arr 3 1 l.length (cntIVs l.length (allK l)))]⟩) (fun j => l.length - j.1) ⟨0, Nat.zero_le _, fun q h => by omega⟩ (le_of (by repeat' first | exact trivial | refine ⟨rfl, ?_⟩) (by repeat' first | exact trivial | refine ⟨rfl, ?_⟩)) ?_
        rintro ⟨j, hj, hone⟩
        dsimp only
        by_cases hjl : j < l.length - 1
        · have hg1 : (cntIVs l.length (allK l))[j * 1]? = some (.lit (.int .i64 (((allK l).count (j : Int) : Nat) : Int))) := cnt_get l.length (allK l) (j : Int) (by omega) (by omega)
          by_cases hc1 : (allK l).count (j : Int) = 1
          · rw [hc1] at hg1
            have hone2 : ∀ q : Nat, q < j + 1 → (allK l).count (q : Int) = 1 := fun q hq => by
              rcases Nat.lt_or_ge q j with h2 | h2
              · exact hone q h2
              · have e : q = j := by omega
                subst e
                exact hc1
            repeat' (first | refine aops_nil ?_ | (refine aops_one ?_; first | refine aops_quiet tabOk rfl rfl rfl (Nat.le_of_ble_eq_true rfl) rfl ?_ | refine aops_skip rfl rfl (Nat.le_of_ble_eq_true rfl) ?_ | (refine aops_cmp rfl rfl rfl (Nat.le_of_ble_eq_true rfl) rfl rfl rfl (fun hq => ?_) (fun hq => ?_) <;> (first | (simp only [decide_eq_true_eq, decide_eq_false_iff_not, beq_iff_eq, beq_eq_false_iff_ne, bne_iff_ne, bne_eq_false_iff_eq, Bool.not_eq_true', Bool.not_eq_false'] at hq; first | (exfalso; omega) | skip) | skip))| refine aops_indexref tabOk rfl rfl rfl (Nat.le_of_ble_eq_true rfl) rfl rfl rfl rfl rfl rfl rfl (by omega) ?_ | refine aops_loadel tabOk rfl rfl rfl (Nat.le_of_ble_eq_true rfl) rfl rfl rfl rfl (by omega) hg1 ?_ | refine aops_inc rfl rfl rfl (Nat.le_of_ble_eq_true rfl) rfl rfl (by omega) ?_ | refine aops_add rfl rfl rfl (Nat.le_of_ble_eq_true rfl) rfl rfl rfl (by omega) (by omega) ?_ | refine aops_sub rfl rfl rfl (Nat.le_of_ble_eq_true rfl) rfl rfl rfl (by omega) (by omega) ?_ | refine aops_list tabOk rfl rfl rfl (Nat.le_of_ble_eq_true rfl) rfl rfl rfl rfl rfl rfl rfl rfl rfl ?_ | refine aops_pure tabOk rfl rfl (Nat.le_of_ble_eq_true rfl) rfl ?_ | refine aops_alloc tabOk rfl rfl rfl (Nat.le_of_ble_eq_true rfl) rfl rfl rfl rfl rfl rfl ?_ | refine aops_loadm tabOk rfl rfl rfl (Nat.le_of_ble_eq_true rfl) rfl rfl rfl rfl ?_ | refine aops_storem tabOk rfl rfl rfl rfl rfl rfl rfl rfl rfl rfl rfl ?_ | refine aops_index tabOk rfl rfl rfl (Nat.le_of_ble_eq_true rfl) rfl rfl rfl rfl (by first | assumption | omega) ?_ | refine aops_index0 tabOk rfl rfl rfl (Nat.le_of_ble_eq_true rfl) rfl rfl rfl rfl (by first | rfl | omega) (by first | omega | simp) ?_ | refine aops_load1 tabOk rfl rfl rfl (Nat.le_of_ble_eq_true rfl) rfl rfl rfl (by assumption) ?_ | refine aops_load1 tabOk rfl rfl rfl (Nat.le_of_ble_eq_true rfl) rfl rfl rfl (ivs_get _ _ (by first | assumption | omega)) ?_ | refine aops_inc rfl rfl rfl (Nat.le_of_ble_eq_true rfl) rfl rfl (by omega) ?_ | ((fail_if_success (refine aops_lit (b := true) rfl rfl rfl ?_)); (fail_if_success (refine aops_lit (b := false) rfl rfl rfl ?_)); refine aops_guard rfl rfl rfl (fun hq => ?_) (fun hq => ?_) <;> first | subst hq | (first | (simp only [decide_eq_true_eq, decide_eq_false_iff_not, beq_iff_eq, beq_eq_false_iff_ne, bne_iff_ne, bne_eq_false_iff_eq, Bool.not_eq_true', Bool.not_eq_false'] at hq; first | (exfalso; omega) | skip) | skip)) | fail) | (refine awp_one ?_; first | refine awp_sreg ?_ | refine awp_seq ?_ | refine awp_region ?_ | refine awp_block ?_ | refine awp_ret ?_ | refine awp_exit ?_ | refine awp_skip ?_ | refine awp_cond (b := true) rfl (fun _ => ?_) (fun h => Bool.noConfusion h) | refine awp_cond (b := false) rfl (fun h => Bool.noConfusion h) (fun _ => ?_) | refine awp_scope ?_ | refine awp_label ?_ | refine awp_sdraw mixed (by kernel_rfl) ?_ | refine awp_region_draw mixed (by kernel_rfl) ?_ | (refine awp_cond rfl (fun hq => ?_) (fun hq => ?_) <;> first | subst hq | (first | (simp only [decide_eq_true_eq, decide_eq_false_iff_not, beq_iff_eq, beq_eq_false_iff_ne, bne_iff_ne, bne_eq_false_iff_eq, Bool.not_eq_true', Bool.not_eq_false'] at hq; first | (exfalso; omega) | skip) | skip)) | fail) | (refine then_one ?_; first | refine q_then ?_ | refine q_then_exit ?_ | refine q_then_ret ?_ | fail) | (refine block_one ?_; first | refine q_block ?_ | refine q_block_exit ?_ | refine q_block_pass (by decide) ?_ | refine q_block_ret ?_ | fail) | refine feet_one (feetOk_of (by kernel_rfl)) ?_ | fail)
            all_goals first
              | (exfalso; omega)
              | exact absurd rfl (by assumption)
              | exact ⟨⟨j + 1, hjl, hone2⟩, (by show l.length - (j + 1) < l.length - j; omega), (le_of (by repeat' first | exact trivial | refine ⟨rfl, ?_⟩) (by repeat' first | exact trivial | refine ⟨rfl, ?_⟩))⟩
          · have e := hbad (fun h => hc1 (h.2 j hjl))
            subst e
            repeat' (first | refine aops_nil ?_ | (refine aops_one ?_; first | refine aops_quiet tabOk rfl rfl rfl (Nat.le_of_ble_eq_true rfl) rfl ?_ | refine aops_skip rfl rfl (Nat.le_of_ble_eq_true rfl) ?_ | (refine aops_cmp rfl rfl rfl (Nat.le_of_ble_eq_true rfl) rfl rfl rfl (fun hq => ?_) (fun hq => ?_) <;> (first | (simp only [decide_eq_true_eq, decide_eq_false_iff_not, beq_iff_eq, beq_eq_false_iff_ne, bne_iff_ne, bne_eq_false_iff_eq, Bool.not_eq_true', Bool.not_eq_false'] at hq; first | (exfalso; omega) | skip) | skip))| refine aops_indexref tabOk rfl rfl rfl (Nat.le_of_ble_eq_true rfl) rfl rfl rfl rfl rfl rfl rfl (by omega) ?_ | refine aops_loadel tabOk rfl rfl rfl (Nat.le_of_ble_eq_true rfl) rfl rfl rfl rfl (by omega) hg1 ?_ | refine aops_inc rfl rfl rfl (Nat.le_of_ble_eq_true rfl) rfl rfl (by omega) ?_ | refine aops_add rfl rfl rfl (Nat.le_of_ble_eq_true rfl) rfl rfl rfl (by omega) (by omega) ?_ | refine aops_sub rfl rfl rfl (Nat.le_of_ble_eq_true rfl) rfl rfl rfl (by omega) (by omega) ?_ | refine aops_list tabOk rfl rfl rfl (Nat.le_of_ble_eq_true rfl) rfl rfl rfl rfl rfl rfl rfl rfl rfl ?_ | refine aops_pure tabOk rfl rfl (Nat.le_of_ble_eq_true rfl) rfl ?_ | refine aops_alloc tabOk rfl rfl rfl (Nat.le_of_ble_eq_true rfl) rfl rfl rfl rfl rfl rfl ?_ | refine aops_loadm tabOk rfl rfl rfl (Nat.le_of_ble_eq_true rfl) rfl rfl rfl rfl ?_ | refine aops_storem tabOk rfl rfl rfl rfl rfl rfl rfl rfl rfl rfl rfl ?_ | refine aops_index tabOk rfl rfl rfl (Nat.le_of_ble_eq_true rfl) rfl rfl rfl rfl (by first | assumption | omega) ?_ | refine aops_index0 tabOk rfl rfl rfl (Nat.le_of_ble_eq_true rfl) rfl rfl rfl rfl (by first | rfl | omega) (by first | omega | simp) ?_ | refine aops_load1 tabOk rfl rfl rfl (Nat.le_of_ble_eq_true rfl) rfl rfl rfl (by assumption) ?_ | refine aops_load1 tabOk rfl rfl rfl (Nat.le_of_ble_eq_true rfl) rfl rfl rfl (ivs_get _ _ (by first | assumption | omega)) ?_ | refine aops_inc rfl rfl rfl (Nat.le_of_ble_eq_true rfl) rfl rfl (by omega) ?_ | ((fail_if_success (refine aops_lit (b := true) rfl rfl rfl ?_)); (fail_if_success (refine aops_lit (b := false) rfl rfl rfl ?_)); refine aops_guard rfl rfl rfl (fun hq => ?_) (fun hq => ?_) <;> first | subst hq | (first | (simp only [decide_eq_true_eq, decide_eq_false_iff_not, beq_iff_eq, beq_eq_false_iff_ne, bne_iff_ne, bne_eq_false_iff_eq, Bool.not_eq_true', Bool.not_eq_false'] at hq; first | (exfalso; omega) | skip) | skip)) | fail) | (refine awp_one ?_; first | refine awp_sreg ?_ | refine awp_seq ?_ | refine awp_region ?_ | refine awp_block ?_ | refine awp_ret ?_ | refine awp_exit ?_ | refine awp_skip ?_ | refine awp_cond (b := true) rfl (fun _ => ?_) (fun h => Bool.noConfusion h) | refine awp_cond (b := false) rfl (fun h => Bool.noConfusion h) (fun _ => ?_) | refine awp_scope ?_ | refine awp_label ?_ | refine awp_sdraw mixed (by kernel_rfl) ?_ | refine awp_region_draw mixed (by kernel_rfl) ?_ | (refine awp_cond rfl (fun hq => ?_) (fun hq => ?_) <;> first | subst hq | (first | (simp only [decide_eq_true_eq, decide_eq_false_iff_not, beq_iff_eq, beq_eq_false_iff_ne, bne_iff_ne, bne_eq_false_iff_eq, Bool.not_eq_true', Bool.not_eq_false'] at hq; first | (exfalso; omega) | skip) | skip)) | fail) | (refine then_one ?_; first | refine q_then ?_ | refine q_then_exit ?_ | refine q_then_ret ?_ | fail) | (refine block_one ?_; first | refine q_block ?_ | refine q_block_exit ?_ | refine q_block_pass (by decide) ?_ | refine q_block_ret ?_ | fail) | refine feet_one (feetOk_of (by kernel_rfl)) ?_ | fail)
            all_goals first
              | (exfalso; omega)
              | (refine aexit_eq (by first | exact .inl rfl | exact .inr rfl) (results_2 rfl (resOk_tmp rfl) (resOk_tmp rfl)) rfl ?_; rfl)
        · have ej : j = l.length - 1 := by omega
          subst ej
          have e := hgood ⟨hbl, hone⟩
          subst e
          have hcall := grow_a l hbl (by omega) hk l.length (l.length - 1) (by omega) (by omega)
          repeat' (first | refine aops_nil ?_ | (refine aops_one ?_; first | refine aops_quiet tabOk rfl rfl rfl (Nat.le_of_ble_eq_true rfl) rfl ?_ | refine aops_skip rfl rfl (Nat.le_of_ble_eq_true rfl) ?_ | (refine aops_cmp rfl rfl rfl (Nat.le_of_ble_eq_true rfl) rfl rfl rfl (fun hq => ?_) (fun hq => ?_) <;> (first | (simp only [decide_eq_true_eq, decide_eq_false_iff_not, beq_iff_eq, beq_eq_false_iff_ne, bne_iff_ne, bne_eq_false_iff_eq, Bool.not_eq_true', Bool.not_eq_false'] at hq; first | (exfalso; omega) | skip) | skip))| refine aops_sub (z := ((l.length - 1 : Nat) : Int)) rfl rfl rfl (Nat.le_of_ble_eq_true rfl) rfl rfl (by omega) (by omega) (by omega) ?_ | refine aops_call rfl rfl (Nat.le_of_ble_eq_true rfl) rfl rfl rfl rfl (hcall) ?_ | refine aops_inc rfl rfl rfl (Nat.le_of_ble_eq_true rfl) rfl rfl (by omega) ?_ | refine aops_add rfl rfl rfl (Nat.le_of_ble_eq_true rfl) rfl rfl rfl (by omega) (by omega) ?_ | refine aops_sub rfl rfl rfl (Nat.le_of_ble_eq_true rfl) rfl rfl rfl (by omega) (by omega) ?_ | refine aops_list tabOk rfl rfl rfl (Nat.le_of_ble_eq_true rfl) rfl rfl rfl rfl rfl rfl rfl rfl rfl ?_ | refine aops_pure tabOk rfl rfl (Nat.le_of_ble_eq_true rfl) rfl ?_ | refine aops_alloc tabOk rfl rfl rfl (Nat.le_of_ble_eq_true rfl) rfl rfl rfl rfl rfl rfl ?_ | refine aops_loadm tabOk rfl rfl rfl (Nat.le_of_ble_eq_true rfl) rfl rfl rfl rfl ?_ | refine aops_storem tabOk rfl rfl rfl rfl rfl rfl rfl rfl rfl rfl rfl ?_ | refine aops_index tabOk rfl rfl rfl (Nat.le_of_ble_eq_true rfl) rfl rfl rfl rfl (by first | assumption | omega) ?_ | refine aops_index0 tabOk rfl rfl rfl (Nat.le_of_ble_eq_true rfl) rfl rfl rfl rfl (by first | rfl | omega) (by first | omega | simp) ?_ | refine aops_load1 tabOk rfl rfl rfl (Nat.le_of_ble_eq_true rfl) rfl rfl rfl (by assumption) ?_ | refine aops_load1 tabOk rfl rfl rfl (Nat.le_of_ble_eq_true rfl) rfl rfl rfl (ivs_get _ _ (by first | assumption | omega)) ?_ | refine aops_inc rfl rfl rfl (Nat.le_of_ble_eq_true rfl) rfl rfl (by omega) ?_ | ((fail_if_success (refine aops_lit (b := true) rfl rfl rfl ?_)); (fail_if_success (refine aops_lit (b := false) rfl rfl rfl ?_)); refine aops_guard rfl rfl rfl (fun hq => ?_) (fun hq => ?_) <;> first | subst hq | (first | (simp only [decide_eq_true_eq, decide_eq_false_iff_not, beq_iff_eq, beq_eq_false_iff_ne, bne_iff_ne, bne_eq_false_iff_eq, Bool.not_eq_true', Bool.not_eq_false'] at hq; first | (exfalso; omega) | skip) | skip)) | fail) | (refine awp_one ?_; first | refine awp_sreg ?_ | refine awp_seq ?_ | refine awp_region ?_ | refine awp_block ?_ | refine awp_ret ?_ | refine awp_exit ?_ | refine awp_skip ?_ | refine awp_cond (b := true) rfl (fun _ => ?_) (fun h => Bool.noConfusion h) | refine awp_cond (b := false) rfl (fun h => Bool.noConfusion h) (fun _ => ?_) | refine awp_scope ?_ | refine awp_label ?_ | refine awp_sdraw mixed (by kernel_rfl) ?_ | refine awp_region_draw mixed (by kernel_rfl) ?_ | (refine awp_cond rfl (fun hq => ?_) (fun hq => ?_) <;> first | subst hq | (first | (simp only [decide_eq_true_eq, decide_eq_false_iff_not, beq_iff_eq, beq_eq_false_iff_ne, bne_iff_ne, bne_eq_false_iff_eq, Bool.not_eq_true', Bool.not_eq_false'] at hq; first | (exfalso; omega) | skip) | skip)) | fail) | (refine then_one ?_; first | refine q_then ?_ | refine q_then_exit ?_ | refine q_then_ret ?_ | fail) | (refine block_one ?_; first | refine q_block ?_ | refine q_block_exit ?_ | refine q_block_pass (by decide) ?_ | refine q_block_ret ?_ | fail) | refine feet_one (feetOk_of (by kernel_rfl)) ?_ | fail)
          all_goals first
            | (exfalso; omega)
            | (refine aexit_eq (by first | exact .inl rfl | exact .inr rfl) (results_2 rfl (resOk_tmp rfl) (resOk_tmp rfl)) rfl ?_; rfl)
end Go.Proofs.Ytlbemgokilhdnaa.Ab
namespace Go.Proofs.Ytlbemgokilhdnaa.Ab
set_option linter.unusedVariables false
set_option linter.unusedSimpArgs false
open Go.RowKit
attribute [local irreducible] AWP AOps AExit AThen ABlock ANoGoto FeetOk
theorem min_nat2 (n K : Nat) : (if (K : Int) < (n : Int) then (K : Int) else (n : Int)) = ((min n K : Nat) : Int) := by split <;> omega
def cutB (K : Nat) (s : ByteArray) : ByteArray := s.extract 0 (min s.size K)
theorem cutB_size (K : Nat) (s : ByteArray) : (cutB K s).size ≤ K := by unfold cutB; rw [ByteArray.size_extract]; omega
def fewCell (c : CellD) : CellD := ⟨decide (c.kids.length = 0), c.k, c.n, cutB 165 c.a, cutB 20 c.b, c.kids.take 12⟩
theorem kids_cut (l : List Int) : IV.sl false (min l.length 12 - 0) (((intIVs l).drop (0 * 1)).take ((min l.length 12 - 0) * 1)) = .sl false (l.take 12).length (intIVs (l.take 12)) := by
  unfold intIVs
  rw [Nat.zero_mul, List.drop_zero, Nat.sub_zero, Nat.mul_one, List.length_take, List.map_take, Nat.min_comm]
  congr 1
  conv => rhs; rw [List.take_eq_take_min, List.length_map]
theorem cellIVs_snoc (l : List CellD) (c : CellD) : cellIVs (l ++ [c]) = cellIVs l ++ cellIV c := by
  rw [cellIVs_app]
  show _ ++ (cellIV c ++ []) = _
  rw [List.append_nil]
def fewCells10 (l : List CellD) : List CellD := (l.take 60).map fewCell
set_option maxHeartbeats 16000000 in
set_option maxRecDepth 10000 in
theorem treeFew10_a (l : List CellD) (hff : ∀ c ∈ l, c.f = false) : ACalls Try.prog 15 [.imm (.agg [.sl false l.length (cellIVs l)])] [] (.imm (openR (fewCells10 l)).1.iv) [] := by
  have hkids : ∀ c ∈ fewCells10 l, c.kids.length ≤ 8192 := fun c hc => by
    unfold fewCells10 at hc
    obtain ⟨d, _, rfl⟩ := List.mem_map.1 hc
    show (d.kids.take 12).length ≤ 8192
    rw [List.length_take]; omega
  have hopen := open_a (fewCells10 l) hkids
  refine acalls_plain Try.func15 rfl rfl (Nat.le_of_ble_eq_true rfl) rfl ?_
  repeat' (first | refine aops_nil ?_ | (refine aops_one ?_; first | refine aops_quiet tabOk rfl rfl rfl (Nat.le_of_ble_eq_true rfl) rfl ?_ | refine aops_skip rfl rfl (Nat.le_of_ble_eq_true rfl) ?_ | (refine aops_cmp rfl rfl rfl (Nat.le_of_ble_eq_true rfl) rfl rfl rfl (fun hq => ?_) (fun hq => ?_) <;> (first | (simp only [decide_eq_true_eq, decide_eq_false_iff_not, beq_iff_eq, beq_eq_false_iff_ne, bne_iff_ne, bne_eq_false_iff_eq, Bool.not_eq_true', Bool.not_eq_false'] at hq; first | (exfalso; omega) | skip) | skip)) | refine aops_inc rfl rfl rfl (Nat.le_of_ble_eq_true rfl) rfl rfl (by omega) ?_ | refine aops_add rfl rfl rfl (Nat.le_of_ble_eq_true rfl) rfl rfl rfl (by omega) (by omega) ?_ | refine aops_sub rfl rfl rfl (Nat.le_of_ble_eq_true rfl) rfl rfl rfl (by omega) (by omega) ?_ | refine aops_list tabOk rfl rfl rfl (Nat.le_of_ble_eq_true rfl) rfl rfl rfl rfl rfl rfl rfl rfl rfl ?_ | refine aops_pure tabOk rfl rfl (Nat.le_of_ble_eq_true rfl) rfl ?_ | refine aops_alloc tabOk rfl rfl rfl (Nat.le_of_ble_eq_true rfl) rfl rfl rfl rfl rfl rfl ?_ | refine aops_loadm tabOk rfl rfl rfl (Nat.le_of_ble_eq_true rfl) rfl rfl rfl rfl ?_ | refine aops_storem tabOk rfl rfl rfl rfl rfl rfl rfl rfl rfl rfl rfl ?_ | refine aops_index tabOk rfl rfl rfl (Nat.le_of_ble_eq_true rfl) rfl rfl rfl rfl (by first | assumption | omega) ?_ | refine aops_index0 tabOk rfl rfl rfl (Nat.le_of_ble_eq_true rfl) rfl rfl rfl rfl (by first | rfl | omega) (by first | omega | simp) ?_ | refine aops_load1 tabOk rfl rfl rfl (Nat.le_of_ble_eq_true rfl) rfl rfl rfl (by assumption) ?_ | refine aops_load1 tabOk rfl rfl rfl (Nat.le_of_ble_eq_true rfl) rfl rfl rfl (ivs_get _ _ (by first | assumption | omega)) ?_ | refine aops_inc rfl rfl rfl (Nat.le_of_ble_eq_true rfl) rfl rfl (by omega) ?_ | ((fail_if_success (refine aops_lit (b := true) rfl rfl rfl ?_)); (fail_if_success (refine aops_lit (b := false) rfl rfl rfl ?_)); refine aops_guard rfl rfl rfl (fun hq => ?_) (fun hq => ?_) <;> first | subst hq | (first | (simp only [decide_eq_true_eq, decide_eq_false_iff_not, beq_iff_eq, beq_eq_false_iff_ne, bne_iff_ne, bne_eq_false_iff_eq, Bool.not_eq_true', Bool.not_eq_false'] at hq; first | (exfalso; omega) | skip) | skip)) | fail) | (refine awp_one ?_; first | refine awp_sreg ?_ | refine awp_seq ?_ | refine awp_region ?_ | refine awp_block ?_ | refine awp_ret ?_ | refine awp_exit ?_ | refine awp_skip ?_ | refine awp_cond (b := true) rfl (fun _ => ?_) (fun h => Bool.noConfusion h) | refine awp_cond (b := false) rfl (fun h => Bool.noConfusion h) (fun _ => ?_) | refine awp_scope ?_ | refine awp_label ?_ | refine awp_sdraw mixed (by kernel_rfl) ?_ | refine awp_region_draw mixed (by kernel_rfl) ?_ | (refine awp_cond rfl (fun hq => ?_) (fun hq => ?_) <;> first | subst hq | (first | (simp only [decide_eq_true_eq, decide_eq_false_iff_not, beq_iff_eq, beq_eq_false_iff_ne, bne_iff_ne, bne_eq_false_iff_eq, Bool.not_eq_true', Bool.not_eq_false'] at hq; first | (exfalso; omega) | skip) | skip)) | fail) | (refine then_one ?_; first | refine q_then ?_ | refine q_then_exit ?_ | refine q_then_ret ?_ | fail) | (refine block_one ?_; first | refine q_block ?_ | refine q_block_exit ?_ | refine q_block_pass (by decide) ?_ | refine q_block_ret ?_ | fail) | refine feet_one (feetOk_of (by kernel_rfl)) ?_ | fail)
  refine awp_imp (imp_nilc (h0 := 3) (k0 := 0) 500 50 5 rfl rfl (by simp) rfl rfl) ?_
  refine awp_loop (ι := {i : Nat // i ≤ l.length ∧ i ≤ 60}) (fun i => S.f ⟨[(4, .imm (.lit (.int .i64 (i.1 : Int)))), (3, .obj 3 0), (1, .imm (.ptr [.sl false l.length (cellIVs l)] 0))], [(500, .arr 50 5 i.1 (cellIVs ((l.take i.1).map fewCell))), (3, .cells [.ref 500 i.1])]⟩) (fun i => l.length - i.1) ⟨0, Nat.zero_le _, Nat.zero_le _⟩ (le_of (by repeat' first | exact trivial | refine ⟨rfl, ?_⟩) (by repeat' first | exact trivial | refine ⟨rfl, ?_⟩)) ?_
  rintro ⟨i, hi, hiK⟩
  dsimp only
  by_cases hgo : i < l.length ∧ i < 60
  · obtain ⟨hil, hik⟩ := hgo
    have hrow := cellIVs_get l i hil
    have hcf := hff l[i] (List.getElem_mem hil)
    have hnx : cellIVs ((l.take (i + 1)).map fewCell) = cellIVs ((l.take i).map fewCell) ++ cellIV (fewCell l[i]) := by
      rw [List.take_succ_eq_append_getElem hil, List.map_append, List.map_singleton, cellIVs_snoc]
    generalize l[i] = c at *
    change _ = [IV.lit (.int .i64 c.k), .lit (.int .i64 c.n), .lit (.string c.a), .lit (.string c.b), .sl c.f c.kids.length (intIVs c.kids)] at hrow
    rw [hcf] at hrow
    have hkc := kids_cut c.kids
    by_cases hz : c.kids.length = 0
    · have hk0 : c.kids = [] := List.eq_nil_of_length_eq_zero hz
      have hfc : cellIV (fewCell c) = [IV.lit (.int .i64 c.k), .lit (.int .i64 c.n), .lit (.string (cutB 165 c.a)), .lit (.string (cutB 20 c.b)), .sl true 0 []] := by
        unfold fewCell cellIV
        rw [hk0]
        rfl
      rw [hk0] at hrow hkc
      rw [hfc] at hnx
      repeat' (first | refine aops_nil ?_ | (refine aops_one ?_; first | refine aops_quiet tabOk rfl rfl rfl (Nat.le_of_ble_eq_true rfl) rfl ?_ | refine aops_skip rfl rfl (Nat.le_of_ble_eq_true rfl) ?_ | (refine aops_cmp rfl rfl rfl (Nat.le_of_ble_eq_true rfl) rfl rfl rfl (fun hq => ?_) (fun hq => ?_) <;> (first | (simp only [decide_eq_true_eq, decide_eq_false_iff_not, beq_iff_eq, beq_eq_false_iff_ne, bne_iff_ne, bne_eq_false_iff_eq, Bool.not_eq_true', Bool.not_eq_false'] at hq; first | (exfalso; omega) | skip) | skip))| refine aops_loadr tabOk rfl rfl rfl (Nat.le_of_ble_eq_true rfl) rfl rfl rfl hrow rfl ?_ | refine aops_min rfl rfl rfl (Nat.le_of_ble_eq_true rfl) rfl rfl (min_nat2 c.a.size 165) ?_ | refine aops_min rfl rfl rfl (Nat.le_of_ble_eq_true rfl) rfl rfl (min_nat2 c.b.size 20) ?_ | refine aops_min (r := 0) rfl rfl rfl (Nat.le_of_ble_eq_true rfl) rfl rfl rfl ?_ | refine aops_cut (l := 0) (h := min c.a.size 165) (r := cutB 165 c.a) tabOk rfl rfl rfl (Nat.le_of_ble_eq_true rfl) rfl rfl rfl rfl (by omega) (by omega) rfl ?_ | refine aops_cut (l := 0) (h := min c.b.size 20) (r := cutB 20 c.b) tabOk rfl rfl rfl (Nat.le_of_ble_eq_true rfl) rfl rfl rfl rfl (by omega) (by omega) rfl ?_ | refine aops_slice (l := 0) (h := 0) tabOk rfl rfl rfl (Nat.le_of_ble_eq_true rfl) rfl rfl rfl rfl rfl (Nat.le_refl _) (Nat.zero_le _) rfl ?_ | refine aops_append0 tabOk rfl rfl rfl (Nat.le_of_ble_eq_true rfl) rfl rfl rfl rfl ?_ | refine aops_append tabOk rfl rfl rfl (Nat.le_of_ble_eq_true rfl) rfl rfl rfl rfl rfl rfl rfl (by first | omega | decide) rfl (by first | omega | (dsimp only; omega)) (by first | omega | (dsimp only; omega)) ?_ | refine aops_inc rfl rfl rfl (Nat.le_of_ble_eq_true rfl) rfl rfl (by omega) ?_ | refine aops_add rfl rfl rfl (Nat.le_of_ble_eq_true rfl) rfl rfl rfl (by omega) (by omega) ?_ | refine aops_sub rfl rfl rfl (Nat.le_of_ble_eq_true rfl) rfl rfl rfl (by omega) (by omega) ?_ | refine aops_list tabOk rfl rfl rfl (Nat.le_of_ble_eq_true rfl) rfl rfl rfl rfl rfl rfl rfl rfl rfl ?_ | refine aops_pure tabOk rfl rfl (Nat.le_of_ble_eq_true rfl) rfl ?_ | refine aops_alloc tabOk rfl rfl rfl (Nat.le_of_ble_eq_true rfl) rfl rfl rfl rfl rfl rfl ?_ | refine aops_loadm tabOk rfl rfl rfl (Nat.le_of_ble_eq_true rfl) rfl rfl rfl rfl ?_ | refine aops_storem tabOk rfl rfl rfl rfl rfl rfl rfl rfl rfl rfl rfl ?_ | refine aops_index tabOk rfl rfl rfl (Nat.le_of_ble_eq_true rfl) rfl rfl rfl rfl (by first | assumption | omega) ?_ | refine aops_index0 tabOk rfl rfl rfl (Nat.le_of_ble_eq_true rfl) rfl rfl rfl rfl (by first | rfl | omega) (by first | omega | simp) ?_ | refine aops_load1 tabOk rfl rfl rfl (Nat.le_of_ble_eq_true rfl) rfl rfl rfl (by assumption) ?_ | refine aops_load1 tabOk rfl rfl rfl (Nat.le_of_ble_eq_true rfl) rfl rfl rfl (ivs_get _ _ (by first | assumption | omega)) ?_ | refine aops_inc rfl rfl rfl (Nat.le_of_ble_eq_true rfl) rfl rfl (by omega) ?_ | ((fail_if_success (refine aops_lit (b := true) rfl rfl rfl ?_)); (fail_if_success (refine aops_lit (b := false) rfl rfl rfl ?_)); refine aops_guard rfl rfl rfl (fun hq => ?_) (fun hq => ?_) <;> first | subst hq | (first | (simp only [decide_eq_true_eq, decide_eq_false_iff_not, beq_iff_eq, beq_eq_false_iff_ne, bne_iff_ne, bne_eq_false_iff_eq, Bool.not_eq_true', Bool.not_eq_false'] at hq; first | (exfalso; omega) | skip) | skip)) | fail) | (refine awp_one ?_; first | refine awp_sreg ?_ | refine awp_seq ?_ | refine awp_region ?_ | refine awp_block ?_ | refine awp_ret ?_ | refine awp_exit ?_ | refine awp_skip ?_ | refine awp_cond (b := true) rfl (fun _ => ?_) (fun h => Bool.noConfusion h) | refine awp_cond (b := false) rfl (fun h => Bool.noConfusion h) (fun _ => ?_) | refine awp_scope ?_ | refine awp_label ?_ | refine awp_sdraw mixed (by kernel_rfl) ?_ | refine awp_region_draw mixed (by kernel_rfl) ?_ | (refine awp_cond rfl (fun hq => ?_) (fun hq => ?_) <;> first | subst hq | (first | (simp only [decide_eq_true_eq, decide_eq_false_iff_not, beq_iff_eq, beq_eq_false_iff_ne, bne_iff_ne, bne_eq_false_iff_eq, Bool.not_eq_true', Bool.not_eq_false'] at hq; first | (exfalso; omega) | skip) | skip)) | fail) | (refine then_one ?_; first | refine q_then ?_ | refine q_then_exit ?_ | refine q_then_ret ?_ | fail) | (refine block_one ?_; first | refine q_block ?_ | refine q_block_exit ?_ | refine q_block_pass (by decide) ?_ | refine q_block_ret ?_ | fail) | refine feet_one (feetOk_of (by kernel_rfl)) ?_ | fail)
      refine ⟨⟨i + 1, hil, hik⟩, (by show l.length - (i + 1) < l.length - i; omega), ?_⟩
      dsimp only
      rw [hnx]
      exact (le_of (by repeat' first | exact trivial | refine ⟨rfl, ?_⟩) (by repeat' first | exact trivial | refine ⟨rfl, ?_⟩))
    · have hfc : cellIV (fewCell c) = [IV.lit (.int .i64 c.k), .lit (.int .i64 c.n), .lit (.string (cutB 165 c.a)), .lit (.string (cutB 20 c.b)), .sl false (0 + (c.kids.take 12).length) (intIVs (c.kids.take 12))] := by
        unfold fewCell cellIV
        dsimp only
        rw [decide_eq_false hz, Nat.zero_add]
      have hkl : 0 < (c.kids.take 12).length := by rw [List.length_take]; omega
      have hkl2 : (c.kids.take 12).length ≤ 12 := by rw [List.length_take]; omega
      have hil2 := intIVs_len (c.kids.take 12)
      rw [hfc] at hnx
      repeat' (first | refine aops_nil ?_ | (refine aops_one ?_; first | refine aops_quiet tabOk rfl rfl rfl (Nat.le_of_ble_eq_true rfl) rfl ?_ | refine aops_skip rfl rfl (Nat.le_of_ble_eq_true rfl) ?_ | (refine aops_cmp rfl rfl rfl (Nat.le_of_ble_eq_true rfl) rfl rfl rfl (fun hq => ?_) (fun hq => ?_) <;> (first | (simp only [decide_eq_true_eq, decide_eq_false_iff_not, beq_iff_eq, beq_eq_false_iff_ne, bne_iff_ne, bne_eq_false_iff_eq, Bool.not_eq_true', Bool.not_eq_false'] at hq; first | (exfalso; omega) | skip) | skip))| refine aops_loadr tabOk rfl rfl rfl (Nat.le_of_ble_eq_true rfl) rfl rfl rfl hrow rfl ?_ | refine aops_min rfl rfl rfl (Nat.le_of_ble_eq_true rfl) rfl rfl (min_nat2 c.a.size 165) ?_ | refine aops_min rfl rfl rfl (Nat.le_of_ble_eq_true rfl) rfl rfl (min_nat2 c.b.size 20) ?_ | refine aops_cut (l := 0) (h := min c.a.size 165) (r := cutB 165 c.a) tabOk rfl rfl rfl (Nat.le_of_ble_eq_true rfl) rfl rfl rfl rfl (by omega) (by omega) rfl ?_ | refine aops_cut (l := 0) (h := min c.b.size 20) (r := cutB 20 c.b) tabOk rfl rfl rfl (Nat.le_of_ble_eq_true rfl) rfl rfl rfl rfl (by omega) (by omega) rfl ?_ | refine aops_min rfl rfl rfl (Nat.le_of_ble_eq_true rfl) rfl rfl (min_nat2 c.kids.length 12) ?_ | refine aops_slice (l := 0) (h := min c.kids.length 12) tabOk rfl rfl rfl (Nat.le_of_ble_eq_true rfl) rfl rfl rfl rfl rfl (Nat.zero_le _) (by omega) hkc ?_ | refine aops_appendfull (zs := intIVs (c.kids.take 12)) tabOk rfl rfl rfl (Nat.le_of_ble_eq_true rfl) rfl rfl rfl rfl (.inl rfl) rfl rfl hkl (by rw [hil2]; exact (Nat.mul_one _).symm) (by omega) (by dsimp only; omega) rfl ?_ | refine aops_append tabOk rfl rfl rfl (Nat.le_of_ble_eq_true rfl) rfl rfl rfl rfl rfl rfl rfl (by first | omega | decide) rfl (by first | omega | (dsimp only; omega)) (by first | omega | (dsimp only; omega)) ?_ | refine aops_inc rfl rfl rfl (Nat.le_of_ble_eq_true rfl) rfl rfl (by omega) ?_ | refine aops_add rfl rfl rfl (Nat.le_of_ble_eq_true rfl) rfl rfl rfl (by omega) (by omega) ?_ | refine aops_sub rfl rfl rfl (Nat.le_of_ble_eq_true rfl) rfl rfl rfl (by omega) (by omega) ?_ | refine aops_list tabOk rfl rfl rfl (Nat.le_of_ble_eq_true rfl) rfl rfl rfl rfl rfl rfl rfl rfl rfl ?_ | refine aops_pure tabOk rfl rfl (Nat.le_of_ble_eq_true rfl) rfl ?_ | refine aops_alloc tabOk rfl rfl rfl (Nat.le_of_ble_eq_true rfl) rfl rfl rfl rfl rfl rfl ?_ | refine aops_loadm tabOk rfl rfl rfl (Nat.le_of_ble_eq_true rfl) rfl rfl rfl rfl ?_ | refine aops_storem tabOk rfl rfl rfl rfl rfl rfl rfl rfl rfl rfl rfl ?_ | refine aops_index tabOk rfl rfl rfl (Nat.le_of_ble_eq_true rfl) rfl rfl rfl rfl (by first | assumption | omega) ?_ | refine aops_index0 tabOk rfl rfl rfl (Nat.le_of_ble_eq_true rfl) rfl rfl rfl rfl (by first | rfl | omega) (by first | omega | simp) ?_ | refine aops_load1 tabOk rfl rfl rfl (Nat.le_of_ble_eq_true rfl) rfl rfl rfl (by assumption) ?_ | refine aops_load1 tabOk rfl rfl rfl (Nat.le_of_ble_eq_true rfl) rfl rfl rfl (ivs_get _ _ (by first | assumption | omega)) ?_ | refine aops_inc rfl rfl rfl (Nat.le_of_ble_eq_true rfl) rfl rfl (by omega) ?_ | ((fail_if_success (refine aops_lit (b := true) rfl rfl rfl ?_)); (fail_if_success (refine aops_lit (b := false) rfl rfl rfl ?_)); refine aops_guard rfl rfl rfl (fun hq => ?_) (fun hq => ?_) <;> first | subst hq | (first | (simp only [decide_eq_true_eq, decide_eq_false_iff_not, beq_iff_eq, beq_eq_false_iff_ne, bne_iff_ne, bne_eq_false_iff_eq, Bool.not_eq_true', Bool.not_eq_false'] at hq; first | (exfalso; omega) | skip) | skip)) | fail) | (refine awp_one ?_; first | refine awp_sreg ?_ | refine awp_seq ?_ | refine awp_region ?_ | refine awp_block ?_ | refine awp_ret ?_ | refine awp_exit ?_ | refine awp_skip ?_ | refine awp_cond (b := true) rfl (fun _ => ?_) (fun h => Bool.noConfusion h) | refine awp_cond (b := false) rfl (fun h => Bool.noConfusion h) (fun _ => ?_) | refine awp_scope ?_ | refine awp_label ?_ | refine awp_sdraw mixed (by kernel_rfl) ?_ | refine awp_region_draw mixed (by kernel_rfl) ?_ | (refine awp_cond rfl (fun hq => ?_) (fun hq => ?_) <;> first | subst hq | (first | (simp only [decide_eq_true_eq, decide_eq_false_iff_not, beq_iff_eq, beq_eq_false_iff_ne, bne_iff_ne, bne_eq_false_iff_eq, Bool.not_eq_true', Bool.not_eq_false'] at hq; first | (exfalso; omega) | skip) | skip)) | fail) | (refine then_one ?_; first | refine q_then ?_ | refine q_then_exit ?_ | refine q_then_ret ?_ | fail) | (refine block_one ?_; first | refine q_block ?_ | refine q_block_exit ?_ | refine q_block_pass (by decide) ?_ | refine q_block_ret ?_ | fail) | refine feet_one (feetOk_of (by kernel_rfl)) ?_ | fail)
      refine ⟨⟨i + 1, hil, hik⟩, (by show l.length - (i + 1) < l.length - i; omega), ?_⟩
      dsimp only
      rw [hnx]
      exact (le_of (by repeat' first | exact trivial | refine ⟨rfl, ?_⟩) (by repeat' first | exact trivial | refine ⟨rfl, ?_⟩))
  · have htk : (l.take i).map fewCell = fewCells10 l := by
      unfold fewCells10
      congr 1
      by_cases hK : i = 60
      · rw [hK]
      · rw [List.take_of_length_le (by omega), List.take_of_length_le (by omega)]
    have hfl : i = (fewCells10 l).length := by rw [← htk, List.length_map, List.length_take]; omega
    rw [htk]
    refine awp_imp ((Imp.of_le (σ' := S.f ⟨[(4, .imm (.lit (.int .i64 (i : Int)))), (3, .obj 3 0), (1, .imm (.ptr [.sl false l.length (cellIVs l)] 0))], [(500, .arr 50 5 (fewCells10 l).length (cellIVs (fewCells10 l))), (3, .cells [.ref 500 (fewCells10 l).length])]⟩) (by rw [← hfl]; exact (le_of (by repeat' first | exact trivial | refine ⟨rfl, ?_⟩) (by repeat' first | exact trivial | refine ⟨rfl, ?_⟩)))).trans (imp_freezeR (g := 500) rfl (by repeat' first | exact trivial | exact fun _ => rfl | refine ⟨?_, ?_⟩) (by repeat' first | exact trivial | exact fun _ => rfl | refine ⟨?_, ?_⟩))) ?_
    generalize fewCells10 l = L at *
    generalize openR L = R at *
    obtain ⟨R1, R2⟩ := R
    dsimp only at *
    repeat' (first | refine aops_nil ?_ | (refine aops_one ?_; first | refine aops_quiet tabOk rfl rfl rfl (Nat.le_of_ble_eq_true rfl) rfl ?_ | refine aops_skip rfl rfl (Nat.le_of_ble_eq_true rfl) ?_ | (refine aops_cmp rfl rfl rfl (Nat.le_of_ble_eq_true rfl) rfl rfl rfl (fun hq => ?_) (fun hq => ?_) <;> (first | (simp only [decide_eq_true_eq, decide_eq_false_iff_not, beq_iff_eq, beq_eq_false_iff_ne, bne_iff_ne, bne_eq_false_iff_eq, Bool.not_eq_true', Bool.not_eq_false'] at hq; first | (exfalso; omega) | skip) | skip))| refine aops_call rfl rfl (Nat.le_of_ble_eq_true rfl) rfl rfl rfl rfl (hopen) ?_ | refine aops_inc rfl rfl rfl (Nat.le_of_ble_eq_true rfl) rfl rfl (by omega) ?_ | refine aops_add rfl rfl rfl (Nat.le_of_ble_eq_true rfl) rfl rfl rfl (by omega) (by omega) ?_ | refine aops_sub rfl rfl rfl (Nat.le_of_ble_eq_true rfl) rfl rfl rfl (by omega) (by omega) ?_ | refine aops_list tabOk rfl rfl rfl (Nat.le_of_ble_eq_true rfl) rfl rfl rfl rfl rfl rfl rfl rfl rfl ?_ | refine aops_pure tabOk rfl rfl (Nat.le_of_ble_eq_true rfl) rfl ?_ | refine aops_alloc tabOk rfl rfl rfl (Nat.le_of_ble_eq_true rfl) rfl rfl rfl rfl rfl rfl ?_ | refine aops_loadm tabOk rfl rfl rfl (Nat.le_of_ble_eq_true rfl) rfl rfl rfl rfl ?_ | refine aops_storem tabOk rfl rfl rfl rfl rfl rfl rfl rfl rfl rfl rfl ?_ | refine aops_index tabOk rfl rfl rfl (Nat.le_of_ble_eq_true rfl) rfl rfl rfl rfl (by first | assumption | omega) ?_ | refine aops_index0 tabOk rfl rfl rfl (Nat.le_of_ble_eq_true rfl) rfl rfl rfl rfl (by first | rfl | omega) (by first | omega | simp) ?_ | refine aops_load1 tabOk rfl rfl rfl (Nat.le_of_ble_eq_true rfl) rfl rfl rfl (by assumption) ?_ | refine aops_load1 tabOk rfl rfl rfl (Nat.le_of_ble_eq_true rfl) rfl rfl rfl (ivs_get _ _ (by first | assumption | omega)) ?_ | refine aops_inc rfl rfl rfl (Nat.le_of_ble_eq_true rfl) rfl rfl (by omega) ?_ | ((fail_if_success (refine aops_lit (b := true) rfl rfl rfl ?_)); (fail_if_success (refine aops_lit (b := false) rfl rfl rfl ?_)); refine aops_guard rfl rfl rfl (fun hq => ?_) (fun hq => ?_) <;> first | subst hq | (first | (simp only [decide_eq_true_eq, decide_eq_false_iff_not, beq_iff_eq, beq_eq_false_iff_ne, bne_iff_ne, bne_eq_false_iff_eq, Bool.not_eq_true', Bool.not_eq_false'] at hq; first | (exfalso; omega) | skip) | skip)) | fail) | (refine awp_one ?_; first | refine awp_sreg ?_ | refine awp_seq ?_ | refine awp_region ?_ | refine awp_block ?_ | refine awp_ret ?_ | refine awp_exit ?_ | refine awp_skip ?_ | refine awp_cond (b := true) rfl (fun _ => ?_) (fun h => Bool.noConfusion h) | refine awp_cond (b := false) rfl (fun h => Bool.noConfusion h) (fun _ => ?_) | refine awp_scope ?_ | refine awp_label ?_ | refine awp_sdraw mixed (by kernel_rfl) ?_ | refine awp_region_draw mixed (by kernel_rfl) ?_ | (refine awp_cond rfl (fun hq => ?_) (fun hq => ?_) <;> first | subst hq | (first | (simp only [decide_eq_true_eq, decide_eq_false_iff_not, beq_iff_eq, beq_eq_false_iff_ne, bne_iff_ne, bne_eq_false_iff_eq, Bool.not_eq_true', Bool.not_eq_false'] at hq; first | (exfalso; omega) | skip) | skip)) | fail) | (refine then_one ?_; first | refine q_then ?_ | refine q_then_exit ?_ | refine q_then_ret ?_ | fail) | (refine block_one ?_; first | refine q_block ?_ | refine q_block_exit ?_ | refine q_block_pass (by decide) ?_ | refine q_block_ret ?_ | fail) | refine feet_one (feetOk_of (by kernel_rfl)) ?_ | fail)
    all_goals first
      | exact aexit_plain (by first | exact .inl rfl | exact .inr rfl) (results_1 rfl (resOk_tmp rfl)) rfl
      | (exfalso; omega)
end Go.Proofs.Ytlbemgokilhdnaa.Ab
namespace Go.Proofs.Ytlbemgokilhdnaa.Ab
set_option linter.unusedVariables false
set_option linter.unusedSimpArgs false
open Go.RowKit
theorem growT_fuel (l : List CellD) (hb : below l) : ∀ (f f' i : Nat), i < f → i < f' → i < l.length → growT l f i = growT l f' i
  | 0, _, _, h, _, _ => by omega
  | f + 1, 0, _, _, h, _ => by omega
  | f + 1, f' + 1, i, h, h', hi => by
    rw [growT, growT, List.getElem?_eq_getElem hi]
    dsimp only
    congr 1
    refine List.map_congr_left fun x hx => ?_
    have := hb i hi x hx
    exact growT_fuel l hb f f' x.toNat (by omega) (by omega) (by omega)
theorem growT_whole (l : List CellD) (hb : below l) : ∀ (f i : Nat), i < f → i < l.length → (growT l f i).whole = true
  | 0, _, h, _ => by omega
  | f + 1, i, h, hi => by
    rw [growT, List.getElem?_eq_getElem hi]
    show Tree.wholes (List.map _ _) = true
    have key : ∀ ks : List Int, (∀ x ∈ ks, 0 ≤ x ∧ x < (i : Int)) → Tree.wholes (ks.map fun x => growT l f x.toNat) = true := by
      intro ks
      induction ks with
      | nil => intro _; rfl
      | cons x ks ih =>
        intro hk
        have hx := hk x List.mem_cons_self
        rw [List.map_cons, Tree.wholes, growT_whole l hb f x.toNat (by omega) (by omega), ih (fun y hy => hk y (List.mem_cons_of_mem _ hy))]
        rfl
    exact key _ (hb i hi)
theorem sizes_sum : ∀ ts : List Tree, Tree.sizes ts = (ts.map Tree.size).sum
  | [] => rfl
  | t :: ts => by rw [Tree.sizes, sizes_sum ts]; simp
theorem growT_size (l : List CellD) (hb : below l) (i : Nat) (hi : i < l.length) : (growT l l.length i).size = 1 + (l[i].kids.map fun x => (growT l l.length x.toNat).size).sum := by
  obtain ⟨f, hf⟩ : ∃ f, l.length = f + 1 := ⟨l.length - 1, by omega⟩
  conv => lhs; rw [hf]
  rw [growT, List.getElem?_eq_getElem hi]
  show 1 + Tree.sizes (List.map _ _) = _
  rw [sizes_sum, List.map_map]
  congr 2
  refine List.map_congr_left fun x hx => ?_
  have := hb i hi x hx
  show (growT l f x.toNat).size = _
  rw [growT_fuel l hb f l.length x.toNat (by omega) (by omega) (by omega)]
theorem sum_all (l : List CellD) (hb : below l) : ∀ n, n ≤ l.length → ((List.range n).map fun i => (growT l l.length i).size).sum = n + ((allK (l.take n)).map fun x => (growT l l.length x.toNat).size).sum
  | 0, _ => by simp [allK]
  | n + 1, h => by
    rw [List.range_succ, List.map_append, List.sum_append, sum_all l hb n (by omega), allK_succ l n (by omega), List.map_append, List.sum_append, List.map_singleton, List.sum_singleton, growT_size l hb n (by omega)]
    omega
theorem allK_mem (l : List CellD) (x : Int) (h : x ∈ allK l) : ∃ i, ∃ hi : i < l.length, x ∈ l[i].kids := by
  induction l with
  | nil => cases h
  | cons c l ih =>
    rw [allK, List.mem_append] at h
    rcases h with h | h
    · exact ⟨0, by simp, h⟩
    · obtain ⟨i, hi, hx⟩ := ih h
      exact ⟨i + 1, by simpa using hi, by simpa using hx⟩
theorem allK_perm (l : List CellD) (hb : below l) (ho : once l) : List.Perm (allK l) ((List.range (l.length - 1)).map fun (j : Nat) => (j : Int)) := by
  rw [List.perm_iff_count]
  intro a
  by_cases h : 0 ≤ a ∧ a < ((l.length - 1 : Nat) : Int)
  · obtain ⟨j, rfl⟩ : ∃ j : Nat, a = (j : Int) := ⟨a.toNat, by omega⟩
    rw [ho j (by omega)]
    have hn : ((List.range (l.length - 1)).map fun (j : Nat) => (j : Int)).Nodup := by
      rw [List.nodup_iff_pairwise_ne, List.pairwise_map]
      exact List.nodup_range.imp (fun h1 h2 => h1 (by omega))
    rw [hn.count, if_pos]
    exact List.mem_map.2 ⟨j, List.mem_range.2 (by omega), rfl⟩
  · rw [List.count_eq_zero.2, List.count_eq_zero.2]
    · intro hm
      obtain ⟨j, hj, rfl⟩ := List.mem_map.1 hm
      rw [List.mem_range] at hj
      exact h ⟨by omega, by omega⟩
    · intro hm
      obtain ⟨i, hi, hx⟩ := allK_mem l a hm
      have := hb i hi a hx
      exact h ⟨this.1, by omega⟩
theorem grow_size (l : List CellD) (hb : below l) (ho : once l) (h0 : 0 < l.length) : (growT l l.length (l.length - 1)).size = l.length := by
  have h1 := sum_all l hb l.length (Nat.le_refl _)
  rw [List.take_length] at h1
  have h2 := ((allK_perm l hb ho).map (fun x => (growT l l.length x.toNat).size)).sum_nat
  rw [h2, List.map_map] at h1
  obtain ⟨n, hn⟩ : ∃ n, l.length = n + 1 := ⟨l.length - 1, by omega⟩
  have e : l.length - 1 = n := by omega
  rw [e] at h1 ⊢
  have h3 : (List.range l.length) = List.range n ++ [n] := by rw [hn, List.range_succ]
  rw [h3, List.map_append, List.sum_append, List.map_singleton, List.sum_singleton] at h1
  have h4 : ((fun x : Int => (growT l l.length x.toNat).size) ∘ fun (j : Nat) => (j : Int)) = fun i => (growT l l.length i).size := rfl
  rw [h4] at h1
  omega
theorem growT_wt (l : List CellD) (A B : Nat) (hb : below l) (hc : ∀ c ∈ l, c.a.size ≤ A ∧ c.b.size ≤ B) : ∀ (f i : Nat), i < f → i < l.length → (growT l f i).wt ≤ (1 + A + B) * (growT l f i).size
  | 0, _, h, _ => by omega
  | f + 1, i, h, hi => by
    rw [growT, List.getElem?_eq_getElem hi]
    dsimp only
    have h1 := hc l[i] (List.getElem_mem hi)
    have key : ∀ ks : List Int, (∀ x ∈ ks, 0 ≤ x ∧ x < (i : Int)) → Tree.wts (ks.map fun x => growT l f x.toNat) ≤ (1 + A + B) * Tree.sizes (ks.map fun x => growT l f x.toNat) := by
      intro ks
      induction ks with
      | nil => intro _; exact Nat.zero_le _
      | cons x ks ih =>
        intro hk
        have hx := hk x List.mem_cons_self
        have h2 := growT_wt l A B hb hc f x.toNat (by omega) (by omega)
        have h3 := ih (fun y hy => hk y (List.mem_cons_of_mem _ hy))
        rw [List.map_cons, Tree.wts, Tree.sizes, Nat.mul_add]
        omega
    have h4 := key _ (hb i hi)
    rw [Tree.wt, Tree.size, Nat.mul_add]
    omega
theorem openR_fine (L : List CellD) (A B : Nat) (hc : ∀ c ∈ L, c.a.size ≤ A ∧ c.b.size ≤ B) : (openR L).1 = .nil ∨ ((openR L).1.whole = true ∧ (openR L).1.size ≤ L.length ∧ (openR L).1.wt ≤ (1 + A + B) * L.length) := by
  unfold openR
  split
  · exact .inl rfl
  · split
    · exact .inl rfl
    · split
      · rename_i h0 h1 h
        obtain ⟨hb, ho⟩ := h
        have hs := grow_size L hb ho (by omega)
        have hw := growT_wt L A B hb hc L.length (L.length - 1) (by omega) (by omega)
        rw [hs] at hw
        exact .inr ⟨growT_whole L hb _ _ (by omega) (by omega), by rw [hs]; exact Nat.le_refl _, hw⟩
      · exact .inl rfl
theorem few_fine (K : Nat) (l : List CellD) : ∀ c ∈ (l.take K).map fewCell, c.a.size ≤ 165 ∧ c.b.size ≤ 20 := fun c hc => by
  obtain ⟨d, _, rfl⟩ := List.mem_map.1 hc
  exact ⟨cutB_size _ _, cutB_size _ _⟩
theorem few10_tree (l : List CellD) (hff : ∀ c ∈ l, c.f = false) : ∃ t : Tree, (t = .nil ∨ (t.whole = true ∧ t.size ≤ 60 ∧ t.wt ≤ 11160)) ∧ ACalls Try.prog 15 [.imm (.agg [.sl false l.length (cellIVs l)])] [] (.imm t.iv) [] := by
  refine ⟨_, ?_, treeFew10_a l hff⟩
  rcases openR_fine (fewCells10 l) 165 20 (few_fine 60 l) with h | ⟨h1, h2, h3⟩
  · exact .inl h
  · have hl : (fewCells10 l).length ≤ 60 := by unfold fewCells10; rw [List.length_map, List.length_take]; omega
    exact .inr ⟨h1, by omega, by omega⟩
abbrev tyCell : Ty := .struct [.int .i64, .int .i64, .string, .string, .slice (.int .i64)]
abbrev tyTree : Ty := .struct [.slice tyCell]
theorem fits_ints : ∀ (xs : List (List IV)), (∀ x ∈ xs, Fits (.int .i64) x) → ∃ l : List Int, l.length = xs.length ∧ xs.flatten = intIVs l
  | [], h => ⟨[], rfl, rfl⟩
  | x :: xs, h => by
    obtain ⟨l, h1, h2⟩ := fits_ints xs (fun y hy => h y (List.mem_cons_of_mem _ hy))
    cases h x List.mem_cons_self with
    | int k n hn => exact ⟨n :: l, by simp [h1], by rw [List.flatten_cons, h2]; rfl⟩
theorem fits_cell {x : List IV} (h : Fits tyCell x) : ∃ c : CellD, c.f = false ∧ x = cellIV c := by
  cases h with
  | struct fs xs h =>
    cases h with
    | cons t ts x xs h1 h =>
      cases h1 with
      | int k n hn =>
        cases h with
        | cons t ts x xs h2 h =>
          cases h2 with
          | int k n2 hn2 =>
            cases h with
            | cons t ts x xs h3 h =>
              cases h3 with
              | string a ha =>
                cases h with
                | cons t ts x xs h4 h =>
                  cases h4 with
                  | string b hb =>
                    cases h with
                    | cons t ts x xs h5 h =>
                      cases h
                      cases h5 with
                      | slice e ys hy hys =>
                        obtain ⟨l, hl1, hl2⟩ := fits_ints ys hys
                        refine ⟨⟨false, n, n2, a, b, l⟩, rfl, ?_⟩
                        rw [hl2, ← hl1]
                        rfl
theorem fits_cells : ∀ (xs : List (List IV)), (∀ x ∈ xs, Fits tyCell x) → ∃ l : List CellD, l.length = xs.length ∧ xs.flatten = cellIVs l ∧ ∀ c ∈ l, c.f = false
  | [], h => ⟨[], rfl, rfl, fun c hc => by cases hc⟩
  | x :: xs, h => by
    obtain ⟨l, h1, h2, h3⟩ := fits_cells xs (fun y hy => h y (List.mem_cons_of_mem _ hy))
    obtain ⟨c, hc, rfl⟩ := fits_cell (h x List.mem_cons_self)
    refine ⟨c :: l, by simp [h1], by rw [List.flatten_cons, h2]; rfl, fun d hd => ?_⟩
    rcases List.mem_cons.1 hd with rfl | hd
    · exact hc
    · exact h3 d hd
theorem fits_tree {x : IV} (h : FitsV tyTree x) : ∃ l : List CellD, x = .agg [.sl false l.length (cellIVs l)] ∧ ∀ c ∈ l, c.f = false := by
  obtain ⟨xs, rfl, h⟩ := h
  cases h with
  | struct fs xs h =>
    cases h with
    | cons t ts x xs h1 h =>
      cases h
      cases h1 with
      | slice e ys hy hys =>
        obtain ⟨l, h1, h2, h3⟩ := fits_cells ys hys
        exact ⟨l, by rw [h2, ← h1]; rfl, h3⟩
end Go.Proofs.Ytlbemgokilhdnaa.Ab
namespace Go.Proofs.Ytlbemgokilhdnaa.Ab
set_option linter.unusedVariables false
set_option linter.unusedSimpArgs false
theorem few10_s (l : List CellD) (hff : ∀ c ∈ l, c.f = false) : ∃ t : Tree, t.size ≤ 60 ∧ t.wt ≤ 11160 ∧ (t = .nil ∨ t.whole = true) ∧ ACalls Try.prog 15 [.imm (.agg [.sl false l.length (cellIVs l)])] [] (.imm t.iv) [] := by
  obtain ⟨t, h, c⟩ := few10_tree l hff
  rcases h with rfl | ⟨h1, h2, h3⟩
  · exact ⟨_, by simp [Tree.size], by simp [Tree.wt], .inl rfl, c⟩
  · exact ⟨t, h2, h3, .inr h1, c⟩
end Go.Proofs.Ytlbemgokilhdnaa.Ab
namespace Go.Proofs.Ytlbemgokilhdnaa.Ab
set_option linter.unusedVariables false
set_option linter.unusedSimpArgs false
open Go.RowKit
attribute [local irreducible] AWP AOps AExit AThen ABlock ANoGoto FeetOk
set_option maxHeartbeats 8000000 in
set_option maxRecDepth 10000 in
/-- Match, of what has a witness that can be filled in. -/
theorem Match_good (sig ex : Tree) (hss : sig.size ≤ 400000) (hse : ex.size ≤ 400000) (h1 : (witnessP sig ex).2 = 0) (hl : (witnessP sig ex).1.length ≤ 100000) (hcs : ∀ c ∈ (witnessP sig ex).1, c.size ≤ 1000000)
    (hok : fillOk (witnessP sig ex).1.length (witnessP sig ex).1 0 (kid0 ex) = true) (h2 : (fillP ex (witnessP sig ex).1).2 = 0) (hz : (fillP ex (witnessP sig ex).1).1.size ≤ 1000000) (h3 : mSubP sig (fillP ex (witnessP sig ex).1).1 = 0) :
    ACalls Try.prog 42 [.imm sig.iv, .imm ex.iv] [] (.imm (.tup [.sl false (witnessP sig ex).1.length (Tree.ivs (witnessP sig ex).1), (fillP ex (witnessP sig ex).1).1.iv, .lit (.int .i64 0)])) [] := by
  have c1 := Witness_a sig ex hss hse
  have c2 := Fill_a ex (witnessP sig ex).1 (by omega) hl hcs hok
  have c3 := mSub_a sig (fillP ex (witnessP sig ex).1).1 (by omega) hz
  rw [h1] at c1
  rw [h2] at c2
  rw [h3] at c3
  generalize fillP ex (witnessP sig ex).1 = FF at *
  generalize witnessP sig ex = W at *
  obtain ⟨W1, W2⟩ := W
  obtain ⟨F1, F2⟩ := FF
  dsimp only at *
  refine acalls_plain Try.func42 rfl rfl (Nat.le_of_ble_eq_true rfl) rfl ?_
  repeat' (first | refine aops_nil ?_ | (refine aops_one ?_; first | refine aops_quiet tabOk rfl rfl rfl (Nat.le_of_ble_eq_true rfl) rfl ?_ | refine aops_skip rfl rfl (Nat.le_of_ble_eq_true rfl) ?_ | (refine aops_cmp rfl rfl rfl (Nat.le_of_ble_eq_true rfl) rfl rfl rfl (fun hq => ?_) (fun hq => ?_) <;> (first | (simp only [decide_eq_true_eq, decide_eq_false_iff_not, beq_iff_eq, beq_eq_false_iff_ne, bne_iff_ne, bne_eq_false_iff_eq, Bool.not_eq_true', Bool.not_eq_false'] at hq; first | (exfalso; omega) | skip) | skip))| refine aops_call rfl rfl (Nat.le_of_ble_eq_true rfl) rfl rfl rfl rfl (c1) ?_ | refine aops_call rfl rfl (Nat.le_of_ble_eq_true rfl) rfl rfl rfl rfl (c2) ?_ | refine aops_call rfl rfl (Nat.le_of_ble_eq_true rfl) rfl rfl rfl rfl (c3) ?_ | refine aops_inc rfl rfl rfl (Nat.le_of_ble_eq_true rfl) rfl rfl (by omega) ?_ | refine aops_add rfl rfl rfl (Nat.le_of_ble_eq_true rfl) rfl rfl rfl (by omega) (by omega) ?_ | refine aops_sub rfl rfl rfl (Nat.le_of_ble_eq_true rfl) rfl rfl rfl (by omega) (by omega) ?_ | refine aops_list tabOk rfl rfl rfl (Nat.le_of_ble_eq_true rfl) rfl rfl rfl rfl rfl rfl rfl rfl rfl ?_ | refine aops_pure tabOk rfl rfl (Nat.le_of_ble_eq_true rfl) rfl ?_ | refine aops_alloc tabOk rfl rfl rfl (Nat.le_of_ble_eq_true rfl) rfl rfl rfl rfl rfl rfl ?_ | refine aops_loadm tabOk rfl rfl rfl (Nat.le_of_ble_eq_true rfl) rfl rfl rfl rfl ?_ | refine aops_storem tabOk rfl rfl rfl rfl rfl rfl rfl rfl rfl rfl rfl ?_ | refine aops_index tabOk rfl rfl rfl (Nat.le_of_ble_eq_true rfl) rfl rfl rfl rfl (by first | assumption | omega) ?_ | refine aops_index0 tabOk rfl rfl rfl (Nat.le_of_ble_eq_true rfl) rfl rfl rfl rfl (by first | rfl | omega) (by first | omega | simp) ?_ | refine aops_load1 tabOk rfl rfl rfl (Nat.le_of_ble_eq_true rfl) rfl rfl rfl (by assumption) ?_ | refine aops_load1 tabOk rfl rfl rfl (Nat.le_of_ble_eq_true rfl) rfl rfl rfl (ivs_get _ _ (by first | assumption | omega)) ?_ | refine aops_inc rfl rfl rfl (Nat.le_of_ble_eq_true rfl) rfl rfl (by omega) ?_ | ((fail_if_success (refine aops_lit (b := true) rfl rfl rfl ?_)); (fail_if_success (refine aops_lit (b := false) rfl rfl rfl ?_)); refine aops_guard rfl rfl rfl (fun hq => ?_) (fun hq => ?_) <;> first | subst hq | (first | (simp only [decide_eq_true_eq, decide_eq_false_iff_not, beq_iff_eq, beq_eq_false_iff_ne, bne_iff_ne, bne_eq_false_iff_eq, Bool.not_eq_true', Bool.not_eq_false'] at hq; first | (exfalso; omega) | skip) | skip)) | fail) | (refine awp_one ?_; first | refine awp_sreg ?_ | refine awp_seq ?_ | refine awp_region ?_ | refine awp_block ?_ | refine awp_ret ?_ | refine awp_exit ?_ | refine awp_skip ?_ | refine awp_cond (b := true) rfl (fun _ => ?_) (fun h => Bool.noConfusion h) | refine awp_cond (b := false) rfl (fun h => Bool.noConfusion h) (fun _ => ?_) | refine awp_scope ?_ | refine awp_label ?_ | refine awp_sdraw mixed (by kernel_rfl) ?_ | refine awp_region_draw mixed (by kernel_rfl) ?_ | (refine awp_cond rfl (fun hq => ?_) (fun hq => ?_) <;> first | subst hq | (first | (simp only [decide_eq_true_eq, decide_eq_false_iff_not, beq_iff_eq, beq_eq_false_iff_ne, bne_iff_ne, bne_eq_false_iff_eq, Bool.not_eq_true', Bool.not_eq_false'] at hq; first | (exfalso; omega) | skip) | skip)) | fail) | (refine then_one ?_; first | refine q_then ?_ | refine q_then_exit ?_ | refine q_then_ret ?_ | fail) | (refine block_one ?_; first | refine q_block ?_ | refine q_block_exit ?_ | refine q_block_pass (by decide) ?_ | refine q_block_ret ?_ | fail) | refine feet_one (feetOk_of (by kernel_rfl)) ?_ | fail)
  all_goals first
    | exact absurd rfl (by assumption)
    | (refine aexit_eq (by first | exact .inl rfl | exact .inr rfl) (results_3 rfl (resOk_tmp rfl) (resOk_tmp rfl) (resOk_tmp rfl)) rfl ?_; rfl)
theorem samePs_len : ∀ (l l' : List Tree), l.length ≠ l'.length → samePs l l' = false := fun l l' h => by rw [samePs_zip]; exact zipP_len _ _ _ h
set_option maxHeartbeats 8000000 in
set_option maxRecDepth 10000 in
theorem rSame_a (t : Tree) : ∀ u : Tree, (t = .nil ∨ t.whole = true) → (u = .nil ∨ u.whole = true) → t.size ≤ 1000000 → u.size ≤ 1000000 → ACalls Try.prog 25 [.imm t.iv, .imm u.iv] [] (.imm (.lit (.bool (sameP t u)))) [] := by
  induction t using Tree.ind with
  | h1 =>
    intro u _ _ _ _
    cases u with
    | nil =>
      rw [show sameP .nil .nil = true by simp [sameP]]
      refine acalls_plain Try.func25 rfl rfl (Nat.le_of_ble_eq_true rfl) rfl ?_
      repeat' (first | refine aops_nil ?_ | (refine aops_one ?_; first | refine aops_quiet tabOk rfl rfl rfl (Nat.le_of_ble_eq_true rfl) rfl ?_ | refine aops_skip rfl rfl (Nat.le_of_ble_eq_true rfl) ?_ | (refine aops_cmp rfl rfl rfl (Nat.le_of_ble_eq_true rfl) rfl rfl rfl (fun hq => ?_) (fun hq => ?_) <;> (first | (simp only [decide_eq_true_eq, decide_eq_false_iff_not, beq_iff_eq, beq_eq_false_iff_ne, bne_iff_ne, bne_eq_false_iff_eq, Bool.not_eq_true', Bool.not_eq_false'] at hq; first | (exfalso; omega) | skip) | skip)) | refine aops_inc rfl rfl rfl (Nat.le_of_ble_eq_true rfl) rfl rfl (by omega) ?_ | refine aops_add rfl rfl rfl (Nat.le_of_ble_eq_true rfl) rfl rfl rfl (by omega) (by omega) ?_ | refine aops_sub rfl rfl rfl (Nat.le_of_ble_eq_true rfl) rfl rfl rfl (by omega) (by omega) ?_ | refine aops_list tabOk rfl rfl rfl (Nat.le_of_ble_eq_true rfl) rfl rfl rfl rfl rfl rfl rfl rfl rfl ?_ | refine aops_pure tabOk rfl rfl (Nat.le_of_ble_eq_true rfl) rfl ?_ | refine aops_alloc tabOk rfl rfl rfl (Nat.le_of_ble_eq_true rfl) rfl rfl rfl rfl rfl rfl ?_ | refine aops_loadm tabOk rfl rfl rfl (Nat.le_of_ble_eq_true rfl) rfl rfl rfl rfl ?_ | refine aops_storem tabOk rfl rfl rfl rfl rfl rfl rfl rfl rfl rfl rfl ?_ | refine aops_index tabOk rfl rfl rfl (Nat.le_of_ble_eq_true rfl) rfl rfl rfl rfl (by first | assumption | omega) ?_ | refine aops_index0 tabOk rfl rfl rfl (Nat.le_of_ble_eq_true rfl) rfl rfl rfl rfl (by first | rfl | omega) (by first | omega | simp) ?_ | refine aops_load1 tabOk rfl rfl rfl (Nat.le_of_ble_eq_true rfl) rfl rfl rfl (by assumption) ?_ | refine aops_load1 tabOk rfl rfl rfl (Nat.le_of_ble_eq_true rfl) rfl rfl rfl (ivs_get _ _ (by first | assumption | omega)) ?_ | refine aops_inc rfl rfl rfl (Nat.le_of_ble_eq_true rfl) rfl rfl (by omega) ?_ | ((fail_if_success (refine aops_lit (b := true) rfl rfl rfl ?_)); (fail_if_success (refine aops_lit (b := false) rfl rfl rfl ?_)); refine aops_guard rfl rfl rfl (fun hq => ?_) (fun hq => ?_) <;> first | subst hq | (first | (simp only [decide_eq_true_eq, decide_eq_false_iff_not, beq_iff_eq, beq_eq_false_iff_ne, bne_iff_ne, bne_eq_false_iff_eq, Bool.not_eq_true', Bool.not_eq_false'] at hq; first | (exfalso; omega) | skip) | skip)) | fail) | (refine awp_one ?_; first | refine awp_sreg ?_ | refine awp_seq ?_ | refine awp_region ?_ | refine awp_block ?_ | refine awp_ret ?_ | refine awp_exit ?_ | refine awp_skip ?_ | refine awp_cond (b := true) rfl (fun _ => ?_) (fun h => Bool.noConfusion h) | refine awp_cond (b := false) rfl (fun h => Bool.noConfusion h) (fun _ => ?_) | refine awp_scope ?_ | refine awp_label ?_ | refine awp_sdraw mixed (by kernel_rfl) ?_ | refine awp_region_draw mixed (by kernel_rfl) ?_ | (refine awp_cond rfl (fun hq => ?_) (fun hq => ?_) <;> first | subst hq | (first | (simp only [decide_eq_true_eq, decide_eq_false_iff_not, beq_iff_eq, beq_eq_false_iff_ne, bne_iff_ne, bne_eq_false_iff_eq, Bool.not_eq_true', Bool.not_eq_false'] at hq; first | (exfalso; omega) | skip) | skip)) | fail) | (refine then_one ?_; first | refine q_then ?_ | refine q_then_exit ?_ | refine q_then_ret ?_ | fail) | (refine block_one ?_; first | refine q_block ?_ | refine q_block_exit ?_ | refine q_block_pass (by decide) ?_ | refine q_block_ret ?_ | fail) | refine feet_one (feetOk_of (by kernel_rfl)) ?_ | fail)
      all_goals first
        | exact absurd rfl (by assumption)
        | exact aexit_plain (by first | exact .inl rfl | exact .inr rfl) (results_1 rfl (resOk_tmp rfl)) rfl
    | node k n a b ks =>
      rw [show sameP .nil (.node k n a b ks) = false by simp [sameP]]
      refine acalls_plain Try.func25 rfl rfl (Nat.le_of_ble_eq_true rfl) rfl ?_
      repeat' (first | refine aops_nil ?_ | (refine aops_one ?_; first | refine aops_quiet tabOk rfl rfl rfl (Nat.le_of_ble_eq_true rfl) rfl ?_ | refine aops_skip rfl rfl (Nat.le_of_ble_eq_true rfl) ?_ | (refine aops_cmp rfl rfl rfl (Nat.le_of_ble_eq_true rfl) rfl rfl rfl (fun hq => ?_) (fun hq => ?_) <;> (first | (simp only [decide_eq_true_eq, decide_eq_false_iff_not, beq_iff_eq, beq_eq_false_iff_ne, bne_iff_ne, bne_eq_false_iff_eq, Bool.not_eq_true', Bool.not_eq_false'] at hq; first | (exfalso; omega) | skip) | skip)) | refine aops_inc rfl rfl rfl (Nat.le_of_ble_eq_true rfl) rfl rfl (by omega) ?_ | refine aops_add rfl rfl rfl (Nat.le_of_ble_eq_true rfl) rfl rfl rfl (by omega) (by omega) ?_ | refine aops_sub rfl rfl rfl (Nat.le_of_ble_eq_true rfl) rfl rfl rfl (by omega) (by omega) ?_ | refine aops_list tabOk rfl rfl rfl (Nat.le_of_ble_eq_true rfl) rfl rfl rfl rfl rfl rfl rfl rfl rfl ?_ | refine aops_pure tabOk rfl rfl (Nat.le_of_ble_eq_true rfl) rfl ?_ | refine aops_alloc tabOk rfl rfl rfl (Nat.le_of_ble_eq_true rfl) rfl rfl rfl rfl rfl rfl ?_ | refine aops_loadm tabOk rfl rfl rfl (Nat.le_of_ble_eq_true rfl) rfl rfl rfl rfl ?_ | refine aops_storem tabOk rfl rfl rfl rfl rfl rfl rfl rfl rfl rfl rfl ?_ | refine aops_index tabOk rfl rfl rfl (Nat.le_of_ble_eq_true rfl) rfl rfl rfl rfl (by first | assumption | omega) ?_ | refine aops_index0 tabOk rfl rfl rfl (Nat.le_of_ble_eq_true rfl) rfl rfl rfl rfl (by first | rfl | omega) (by first | omega | simp) ?_ | refine aops_load1 tabOk rfl rfl rfl (Nat.le_of_ble_eq_true rfl) rfl rfl rfl (by assumption) ?_ | refine aops_load1 tabOk rfl rfl rfl (Nat.le_of_ble_eq_true rfl) rfl rfl rfl (ivs_get _ _ (by first | assumption | omega)) ?_ | refine aops_inc rfl rfl rfl (Nat.le_of_ble_eq_true rfl) rfl rfl (by omega) ?_ | ((fail_if_success (refine aops_lit (b := true) rfl rfl rfl ?_)); (fail_if_success (refine aops_lit (b := false) rfl rfl rfl ?_)); refine aops_guard rfl rfl rfl (fun hq => ?_) (fun hq => ?_) <;> first | subst hq | (first | (simp only [decide_eq_true_eq, decide_eq_false_iff_not, beq_iff_eq, beq_eq_false_iff_ne, bne_iff_ne, bne_eq_false_iff_eq, Bool.not_eq_true', Bool.not_eq_false'] at hq; first | (exfalso; omega) | skip) | skip)) | fail) | (refine awp_one ?_; first | refine awp_sreg ?_ | refine awp_seq ?_ | refine awp_region ?_ | refine awp_block ?_ | refine awp_ret ?_ | refine awp_exit ?_ | refine awp_skip ?_ | refine awp_cond (b := true) rfl (fun _ => ?_) (fun h => Bool.noConfusion h) | refine awp_cond (b := false) rfl (fun h => Bool.noConfusion h) (fun _ => ?_) | refine awp_scope ?_ | refine awp_label ?_ | refine awp_sdraw mixed (by kernel_rfl) ?_ | refine awp_region_draw mixed (by kernel_rfl) ?_ | (refine awp_cond rfl (fun hq => ?_) (fun hq => ?_) <;> first | subst hq | (first | (simp only [decide_eq_true_eq, decide_eq_false_iff_not, beq_iff_eq, beq_eq_false_iff_ne, bne_iff_ne, bne_eq_false_iff_eq, Bool.not_eq_true', Bool.not_eq_false'] at hq; first | (exfalso; omega) | skip) | skip)) | fail) | (refine then_one ?_; first | refine q_then ?_ | refine q_then_exit ?_ | refine q_then_ret ?_ | fail) | (refine block_one ?_; first | refine q_block ?_ | refine q_block_exit ?_ | refine q_block_pass (by decide) ?_ | refine q_block_ret ?_ | fail) | refine feet_one (feetOk_of (by kernel_rfl)) ?_ | fail)
      all_goals first
        | exact absurd rfl (by assumption)
        | exact aexit_plain (by first | exact .inl rfl | exact .inr rfl) (results_1 rfl (resOk_tmp rfl)) rfl
  | h2 k n a b ks ih =>
    intro u hw hw2 hs hs2
    cases u with
    | nil =>
      rw [show sameP (.node k n a b ks) .nil = false by simp [sameP]]
      refine acalls_plain Try.func25 rfl rfl (Nat.le_of_ble_eq_true rfl) rfl ?_
      repeat' (first | refine aops_nil ?_ | (refine aops_one ?_; first | refine aops_quiet tabOk rfl rfl rfl (Nat.le_of_ble_eq_true rfl) rfl ?_ | refine aops_skip rfl rfl (Nat.le_of_ble_eq_true rfl) ?_ | (refine aops_cmp rfl rfl rfl (Nat.le_of_ble_eq_true rfl) rfl rfl rfl (fun hq => ?_) (fun hq => ?_) <;> (first | (simp only [decide_eq_true_eq, decide_eq_false_iff_not, beq_iff_eq, beq_eq_false_iff_ne, bne_iff_ne, bne_eq_false_iff_eq, Bool.not_eq_true', Bool.not_eq_false'] at hq; first | (exfalso; omega) | skip) | skip)) | refine aops_inc rfl rfl rfl (Nat.le_of_ble_eq_true rfl) rfl rfl (by omega) ?_ | refine aops_add rfl rfl rfl (Nat.le_of_ble_eq_true rfl) rfl rfl rfl (by omega) (by omega) ?_ | refine aops_sub rfl rfl rfl (Nat.le_of_ble_eq_true rfl) rfl rfl rfl (by omega) (by omega) ?_ | refine aops_list tabOk rfl rfl rfl (Nat.le_of_ble_eq_true rfl) rfl rfl rfl rfl rfl rfl rfl rfl rfl ?_ | refine aops_pure tabOk rfl rfl (Nat.le_of_ble_eq_true rfl) rfl ?_ | refine aops_alloc tabOk rfl rfl rfl (Nat.le_of_ble_eq_true rfl) rfl rfl rfl rfl rfl rfl ?_ | refine aops_loadm tabOk rfl rfl rfl (Nat.le_of_ble_eq_true rfl) rfl rfl rfl rfl ?_ | refine aops_storem tabOk rfl rfl rfl rfl rfl rfl rfl rfl rfl rfl rfl ?_ | refine aops_index tabOk rfl rfl rfl (Nat.le_of_ble_eq_true rfl) rfl rfl rfl rfl (by first | assumption | omega) ?_ | refine aops_index0 tabOk rfl rfl rfl (Nat.le_of_ble_eq_true rfl) rfl rfl rfl rfl (by first | rfl | omega) (by first | omega | simp) ?_ | refine aops_load1 tabOk rfl rfl rfl (Nat.le_of_ble_eq_true rfl) rfl rfl rfl (by assumption) ?_ | refine aops_load1 tabOk rfl rfl rfl (Nat.le_of_ble_eq_true rfl) rfl rfl rfl (ivs_get _ _ (by first | assumption | omega)) ?_ | refine aops_inc rfl rfl rfl (Nat.le_of_ble_eq_true rfl) rfl rfl (by omega) ?_ | ((fail_if_success (refine aops_lit (b := true) rfl rfl rfl ?_)); (fail_if_success (refine aops_lit (b := false) rfl rfl rfl ?_)); refine aops_guard rfl rfl rfl (fun hq => ?_) (fun hq => ?_) <;> first | subst hq | (first | (simp only [decide_eq_true_eq, decide_eq_false_iff_not, beq_iff_eq, beq_eq_false_iff_ne, bne_iff_ne, bne_eq_false_iff_eq, Bool.not_eq_true', Bool.not_eq_false'] at hq; first | (exfalso; omega) | skip) | skip)) | fail) | (refine awp_one ?_; first | refine awp_sreg ?_ | refine awp_seq ?_ | refine awp_region ?_ | refine awp_block ?_ | refine awp_ret ?_ | refine awp_exit ?_ | refine awp_skip ?_ | refine awp_cond (b := true) rfl (fun _ => ?_) (fun h => Bool.noConfusion h) | refine awp_cond (b := false) rfl (fun h => Bool.noConfusion h) (fun _ => ?_) | refine awp_scope ?_ | refine awp_label ?_ | refine awp_sdraw mixed (by kernel_rfl) ?_ | refine awp_region_draw mixed (by kernel_rfl) ?_ | (refine awp_cond rfl (fun hq => ?_) (fun hq => ?_) <;> first | subst hq | (first | (simp only [decide_eq_true_eq, decide_eq_false_iff_not, beq_iff_eq, beq_eq_false_iff_ne, bne_iff_ne, bne_eq_false_iff_eq, Bool.not_eq_true', Bool.not_eq_false'] at hq; first | (exfalso; omega) | skip) | skip)) | fail) | (refine then_one ?_; first | refine q_then ?_ | refine q_then_exit ?_ | refine q_then_ret ?_ | fail) | (refine block_one ?_; first | refine q_block ?_ | refine q_block_exit ?_ | refine q_block_pass (by decide) ?_ | refine q_block_ret ?_ | fail) | refine feet_one (feetOk_of (by kernel_rfl)) ?_ | fail)
      all_goals first
        | exact absurd rfl (by assumption)
        | exact aexit_plain (by first | exact .inl rfl | exact .inr rfl) (results_1 rfl (resOk_tmp rfl)) rfl
    | node k' n' a' b' ks' =>
      have hw : (Tree.node k n a b ks).whole = true := by
        rcases hw with h | h
        · cases h
        · exact h
      have hw2 : (Tree.node k' n' a' b' ks').whole = true := by
        rcases hw2 with h | h
        · cases h
        · exact h
      have hl := length_sizes ks hw
      have hl2 := length_sizes ks' hw2
      simp only [Tree.size] at hs hs2
      have hf : ∀ i (hi : i < ks.length) (hk : i < ks'.length), ACalls Try.prog 25 [.imm ks[i].iv, .imm ks'[i].iv] [] (.imm (.lit (.bool (sameP ks[i] ks'[i])))) [] := fun i hi hk => by
        have h1 := List.getElem_mem hi
        have h2 := List.getElem_mem hk
        have h3 := sizes_mem h1
        have h4 := sizes_mem h2
        exact ih _ h1 _ (.inr (wholes_mem hw h1)) (.inr (wholes_mem hw2 h2)) (by omega) (by omega)
      clear ih
      obtain ⟨q, hQ0⟩ : ∃ q, sameP (.node k n a b ks) (.node k' n' a' b' ks') = q := ⟨_, rfl⟩
      rw [hQ0]
      rw [sameP] at hQ0
      have hlen := samePs_len ks ks'
      by_cases hd : (k = k' ∧ n = n' ∧ a = a' ∧ b = b') ∧ ks.length = ks'.length
      · obtain ⟨⟨rfl, rfl, rfl, rfl⟩, hl3⟩ := hd
        rw [show ((((k == k && n == n) && eqB a a) && eqB b b) && samePs ks ks') = samePs ks ks' by rw [(eqB_iff a a).2 rfl, (eqB_iff b b).2 rfl]; simp] at hQ0
        have hz := zipP_idx sameP ks ks' hl3
        rw [← samePs_zip, hQ0] at hz
        refine acalls_plain Try.func25 rfl rfl (Nat.le_of_ble_eq_true rfl) rfl ?_
        repeat' (first | refine aops_nil ?_ | (refine aops_one ?_; first | refine aops_quiet tabOk rfl rfl rfl (Nat.le_of_ble_eq_true rfl) rfl ?_ | refine aops_skip rfl rfl (Nat.le_of_ble_eq_true rfl) ?_ | (refine aops_cmp rfl rfl rfl (Nat.le_of_ble_eq_true rfl) rfl rfl rfl (fun hq => ?_) (fun hq => ?_) <;> (first | (simp only [decide_eq_true_eq, decide_eq_false_iff_not, beq_iff_eq, beq_eq_false_iff_ne, bne_iff_ne, bne_eq_false_iff_eq, Bool.not_eq_true', Bool.not_eq_false'] at hq; first | (exfalso; omega) | skip) | skip)) | refine aops_inc rfl rfl rfl (Nat.le_of_ble_eq_true rfl) rfl rfl (by omega) ?_ | refine aops_add rfl rfl rfl (Nat.le_of_ble_eq_true rfl) rfl rfl rfl (by omega) (by omega) ?_ | refine aops_sub rfl rfl rfl (Nat.le_of_ble_eq_true rfl) rfl rfl rfl (by omega) (by omega) ?_ | refine aops_list tabOk rfl rfl rfl (Nat.le_of_ble_eq_true rfl) rfl rfl rfl rfl rfl rfl rfl rfl rfl ?_ | refine aops_pure tabOk rfl rfl (Nat.le_of_ble_eq_true rfl) rfl ?_ | refine aops_alloc tabOk rfl rfl rfl (Nat.le_of_ble_eq_true rfl) rfl rfl rfl rfl rfl rfl ?_ | refine aops_loadm tabOk rfl rfl rfl (Nat.le_of_ble_eq_true rfl) rfl rfl rfl rfl ?_ | refine aops_storem tabOk rfl rfl rfl rfl rfl rfl rfl rfl rfl rfl rfl ?_ | refine aops_index tabOk rfl rfl rfl (Nat.le_of_ble_eq_true rfl) rfl rfl rfl rfl (by first | assumption | omega) ?_ | refine aops_index0 tabOk rfl rfl rfl (Nat.le_of_ble_eq_true rfl) rfl rfl rfl rfl (by first | rfl | omega) (by first | omega | simp) ?_ | refine aops_load1 tabOk rfl rfl rfl (Nat.le_of_ble_eq_true rfl) rfl rfl rfl (by assumption) ?_ | refine aops_load1 tabOk rfl rfl rfl (Nat.le_of_ble_eq_true rfl) rfl rfl rfl (ivs_get _ _ (by first | assumption | omega)) ?_ | refine aops_inc rfl rfl rfl (Nat.le_of_ble_eq_true rfl) rfl rfl (by omega) ?_ | ((fail_if_success (refine aops_lit (b := true) rfl rfl rfl ?_)); (fail_if_success (refine aops_lit (b := false) rfl rfl rfl ?_)); refine aops_guard rfl rfl rfl (fun hq => ?_) (fun hq => ?_) <;> first | subst hq | (first | (simp only [decide_eq_true_eq, decide_eq_false_iff_not, beq_iff_eq, beq_eq_false_iff_ne, bne_iff_ne, bne_eq_false_iff_eq, Bool.not_eq_true', Bool.not_eq_false'] at hq; first | (exfalso; omega) | skip) | skip)) | fail) | (refine awp_one ?_; first | refine awp_sreg ?_ | refine awp_seq ?_ | refine awp_region ?_ | refine awp_block ?_ | refine awp_ret ?_ | refine awp_exit ?_ | refine awp_skip ?_ | refine awp_cond (b := true) rfl (fun _ => ?_) (fun h => Bool.noConfusion h) | refine awp_cond (b := false) rfl (fun h => Bool.noConfusion h) (fun _ => ?_) | refine awp_scope ?_ | refine awp_label ?_ | refine awp_sdraw mixed (by kernel_rfl) ?_ | refine awp_region_draw mixed (by kernel_rfl) ?_ | (refine awp_cond rfl (fun hq => ?_) (fun hq => ?_) <;> first | subst hq | (first | (simp only [decide_eq_true_eq, decide_eq_false_iff_not, beq_iff_eq, beq_eq_false_iff_ne, bne_iff_ne, bne_eq_false_iff_eq, Bool.not_eq_true', Bool.not_eq_false'] at hq; first | (exfalso; omega) | skip) | skip)) | fail) | (refine then_one ?_; first | refine q_then ?_ | refine q_then_exit ?_ | refine q_then_ret ?_ | fail) | (refine block_one ?_; first | refine q_block ?_ | refine q_block_exit ?_ | refine q_block_pass (by decide) ?_ | refine q_block_ret ?_ | fail) | refine feet_one (feetOk_of (by kernel_rfl)) ?_ | fail)
        all_goals first
          | exact absurd rfl (by assumption)
          | (exfalso; omega)
          | skip
        refine awp_loop (ι := {j : Nat // j ≤ ks.length ∧ ∀ i (hi : i < ks.length) (hk : i < ks'.length), i < j → sameP ks[i] ks'[i] = true}) (fun j => S.f ⟨[(5, .imm (.lit (.int .i64 (j.1 : Int)))), (0, .imm (Tree.iv (.node k n a b ks))), (1, .imm (Tree.iv (.node k n a b ks')))], []⟩) (fun j => ks.length - j.1) ⟨0, Nat.zero_le _, fun i _ _ hi => absurd hi (Nat.not_lt_zero _)⟩ (le_of (by repeat' first | exact trivial | refine ⟨rfl, ?_⟩) (by repeat' first | exact trivial | refine ⟨rfl, ?_⟩)) ?_
        rintro ⟨j, hj, hok⟩
        dsimp only
        by_cases hlt : j < ks.length
        · have hltk : j < ks'.length := by omega
          have hg1 := ivs_get ks j hlt
          have hg2 := ivs_get ks' j hltk
          have hc := hf j hlt hltk
          cases hS : sameP ks[j] ks'[j] with
          | true =>
            rw [hS] at hc
            have hok2 : ∀ i (hi : i < ks.length) (hk : i < ks'.length), i < j + 1 → sameP ks[i] ks'[i] = true := fun i hi hk hij => by
              by_cases e : i = j
              · subst e; exact hS
              · exact hok i hi hk (by omega)
            clear hz hf hlen
            repeat' (first | refine aops_nil ?_ | (refine aops_one ?_; first | refine aops_quiet tabOk rfl rfl rfl (Nat.le_of_ble_eq_true rfl) rfl ?_ | refine aops_skip rfl rfl (Nat.le_of_ble_eq_true rfl) ?_ | (refine aops_cmp rfl rfl rfl (Nat.le_of_ble_eq_true rfl) rfl rfl rfl (fun hq => ?_) (fun hq => ?_) <;> (first | (simp only [decide_eq_true_eq, decide_eq_false_iff_not, beq_iff_eq, beq_eq_false_iff_ne, bne_iff_ne, bne_eq_false_iff_eq, Bool.not_eq_true', Bool.not_eq_false'] at hq; first | (exfalso; omega) | skip) | skip))| refine aops_load1 tabOk rfl rfl rfl (Nat.le_of_ble_eq_true rfl) rfl rfl rfl hg1 ?_ | refine aops_load1 tabOk rfl rfl rfl (Nat.le_of_ble_eq_true rfl) rfl rfl rfl hg2 ?_ | refine aops_call rfl rfl (Nat.le_of_ble_eq_true rfl) rfl rfl rfl rfl (hc) ?_ | refine aops_inc rfl rfl rfl (Nat.le_of_ble_eq_true rfl) rfl rfl (by omega) ?_ | refine aops_add rfl rfl rfl (Nat.le_of_ble_eq_true rfl) rfl rfl rfl (by omega) (by omega) ?_ | refine aops_sub rfl rfl rfl (Nat.le_of_ble_eq_true rfl) rfl rfl rfl (by omega) (by omega) ?_ | refine aops_list tabOk rfl rfl rfl (Nat.le_of_ble_eq_true rfl) rfl rfl rfl rfl rfl rfl rfl rfl rfl ?_ | refine aops_pure tabOk rfl rfl (Nat.le_of_ble_eq_true rfl) rfl ?_ | refine aops_alloc tabOk rfl rfl rfl (Nat.le_of_ble_eq_true rfl) rfl rfl rfl rfl rfl rfl ?_ | refine aops_loadm tabOk rfl rfl rfl (Nat.le_of_ble_eq_true rfl) rfl rfl rfl rfl ?_ | refine aops_storem tabOk rfl rfl rfl rfl rfl rfl rfl rfl rfl rfl rfl ?_ | refine aops_index tabOk rfl rfl rfl (Nat.le_of_ble_eq_true rfl) rfl rfl rfl rfl (by first | assumption | omega) ?_ | refine aops_index0 tabOk rfl rfl rfl (Nat.le_of_ble_eq_true rfl) rfl rfl rfl rfl (by first | rfl | omega) (by first | omega | simp) ?_ | refine aops_load1 tabOk rfl rfl rfl (Nat.le_of_ble_eq_true rfl) rfl rfl rfl (by assumption) ?_ | refine aops_load1 tabOk rfl rfl rfl (Nat.le_of_ble_eq_true rfl) rfl rfl rfl (ivs_get _ _ (by first | assumption | omega)) ?_ | refine aops_inc rfl rfl rfl (Nat.le_of_ble_eq_true rfl) rfl rfl (by omega) ?_ | ((fail_if_success (refine aops_lit (b := true) rfl rfl rfl ?_)); (fail_if_success (refine aops_lit (b := false) rfl rfl rfl ?_)); refine aops_guard rfl rfl rfl (fun hq => ?_) (fun hq => ?_) <;> first | subst hq | (first | (simp only [decide_eq_true_eq, decide_eq_false_iff_not, beq_iff_eq, beq_eq_false_iff_ne, bne_iff_ne, bne_eq_false_iff_eq, Bool.not_eq_true', Bool.not_eq_false'] at hq; first | (exfalso; omega) | skip) | skip)) | fail) | (refine awp_one ?_; first | refine awp_sreg ?_ | refine awp_seq ?_ | refine awp_region ?_ | refine awp_block ?_ | refine awp_ret ?_ | refine awp_exit ?_ | refine awp_skip ?_ | refine awp_cond (b := true) rfl (fun _ => ?_) (fun h => Bool.noConfusion h) | refine awp_cond (b := false) rfl (fun h => Bool.noConfusion h) (fun _ => ?_) | refine awp_scope ?_ | refine awp_label ?_ | refine awp_sdraw mixed (by kernel_rfl) ?_ | refine awp_region_draw mixed (by kernel_rfl) ?_ | (refine awp_cond rfl (fun hq => ?_) (fun hq => ?_) <;> first | subst hq | (first | (simp only [decide_eq_true_eq, decide_eq_false_iff_not, beq_iff_eq, beq_eq_false_iff_ne, bne_iff_ne, bne_eq_false_iff_eq, Bool.not_eq_true', Bool.not_eq_false'] at hq; first | (exfalso; omega) | skip) | skip)) | fail) | (refine then_one ?_; first | refine q_then ?_ | refine q_then_exit ?_ | refine q_then_ret ?_ | fail) | (refine block_one ?_; first | refine q_block ?_ | refine q_block_exit ?_ | refine q_block_pass (by decide) ?_ | refine q_block_ret ?_ | fail) | refine feet_one (feetOk_of (by kernel_rfl)) ?_ | fail)
            all_goals first
              | exact absurd rfl (by assumption)
              | (exfalso; omega)
              | exact ⟨⟨j + 1, hlt, hok2⟩, (by show ks.length - (j + 1) < ks.length - j; omega), (le_of (by repeat' first | exact trivial | refine ⟨rfl, ?_⟩) (by repeat' first | exact trivial | refine ⟨rfl, ?_⟩))⟩
          | false =>
            rw [hS] at hc
            have e1 : q = false := by
              rw [Bool.eq_false_iff]
              intro hc2
              have := hz.1 hc2 j hlt hltk
              rw [hS] at this; cases this
            subst e1
            clear hz hf hlen
            repeat' (first | refine aops_nil ?_ | (refine aops_one ?_; first | refine aops_quiet tabOk rfl rfl rfl (Nat.le_of_ble_eq_true rfl) rfl ?_ | refine aops_skip rfl rfl (Nat.le_of_ble_eq_true rfl) ?_ | (refine aops_cmp rfl rfl rfl (Nat.le_of_ble_eq_true rfl) rfl rfl rfl (fun hq => ?_) (fun hq => ?_) <;> (first | (simp only [decide_eq_true_eq, decide_eq_false_iff_not, beq_iff_eq, beq_eq_false_iff_ne, bne_iff_ne, bne_eq_false_iff_eq, Bool.not_eq_true', Bool.not_eq_false'] at hq; first | (exfalso; omega) | skip) | skip))| refine aops_load1 tabOk rfl rfl rfl (Nat.le_of_ble_eq_true rfl) rfl rfl rfl hg1 ?_ | refine aops_load1 tabOk rfl rfl rfl (Nat.le_of_ble_eq_true rfl) rfl rfl rfl hg2 ?_ | refine aops_call rfl rfl (Nat.le_of_ble_eq_true rfl) rfl rfl rfl rfl (hc) ?_ | refine aops_inc rfl rfl rfl (Nat.le_of_ble_eq_true rfl) rfl rfl (by omega) ?_ | refine aops_add rfl rfl rfl (Nat.le_of_ble_eq_true rfl) rfl rfl rfl (by omega) (by omega) ?_ | refine aops_sub rfl rfl rfl (Nat.le_of_ble_eq_true rfl) rfl rfl rfl (by omega) (by omega) ?_ | refine aops_list tabOk rfl rfl rfl (Nat.le_of_ble_eq_true rfl) rfl rfl rfl rfl rfl rfl rfl rfl rfl ?_ | refine aops_pure tabOk rfl rfl (Nat.le_of_ble_eq_true rfl) rfl ?_ | refine aops_alloc tabOk rfl rfl rfl (Nat.le_of_ble_eq_true rfl) rfl rfl rfl rfl rfl rfl ?_ | refine aops_loadm tabOk rfl rfl rfl (Nat.le_of_ble_eq_true rfl) rfl rfl rfl rfl ?_ | refine aops_storem tabOk rfl rfl rfl rfl rfl rfl rfl rfl rfl rfl rfl ?_ | refine aops_index tabOk rfl rfl rfl (Nat.le_of_ble_eq_true rfl) rfl rfl rfl rfl (by first | assumption | omega) ?_ | refine aops_index0 tabOk rfl rfl rfl (Nat.le_of_ble_eq_true rfl) rfl rfl rfl rfl (by first | rfl | omega) (by first | omega | simp) ?_ | refine aops_load1 tabOk rfl rfl rfl (Nat.le_of_ble_eq_true rfl) rfl rfl rfl (by assumption) ?_ | refine aops_load1 tabOk rfl rfl rfl (Nat.le_of_ble_eq_true rfl) rfl rfl rfl (ivs_get _ _ (by first | assumption | omega)) ?_ | refine aops_inc rfl rfl rfl (Nat.le_of_ble_eq_true rfl) rfl rfl (by omega) ?_ | ((fail_if_success (refine aops_lit (b := true) rfl rfl rfl ?_)); (fail_if_success (refine aops_lit (b := false) rfl rfl rfl ?_)); refine aops_guard rfl rfl rfl (fun hq => ?_) (fun hq => ?_) <;> first | subst hq | (first | (simp only [decide_eq_true_eq, decide_eq_false_iff_not, beq_iff_eq, beq_eq_false_iff_ne, bne_iff_ne, bne_eq_false_iff_eq, Bool.not_eq_true', Bool.not_eq_false'] at hq; first | (exfalso; omega) | skip) | skip)) | fail) | (refine awp_one ?_; first | refine awp_sreg ?_ | refine awp_seq ?_ | refine awp_region ?_ | refine awp_block ?_ | refine awp_ret ?_ | refine awp_exit ?_ | refine awp_skip ?_ | refine awp_cond (b := true) rfl (fun _ => ?_) (fun h => Bool.noConfusion h) | refine awp_cond (b := false) rfl (fun h => Bool.noConfusion h) (fun _ => ?_) | refine awp_scope ?_ | refine awp_label ?_ | refine awp_sdraw mixed (by kernel_rfl) ?_ | refine awp_region_draw mixed (by kernel_rfl) ?_ | (refine awp_cond rfl (fun hq => ?_) (fun hq => ?_) <;> first | subst hq | (first | (simp only [decide_eq_true_eq, decide_eq_false_iff_not, beq_iff_eq, beq_eq_false_iff_ne, bne_iff_ne, bne_eq_false_iff_eq, Bool.not_eq_true', Bool.not_eq_false'] at hq; first | (exfalso; omega) | skip) | skip)) | fail) | (refine then_one ?_; first | refine q_then ?_ | refine q_then_exit ?_ | refine q_then_ret ?_ | fail) | (refine block_one ?_; first | refine q_block ?_ | refine q_block_exit ?_ | refine q_block_pass (by decide) ?_ | refine q_block_ret ?_ | fail) | refine feet_one (feetOk_of (by kernel_rfl)) ?_ | fail)
            all_goals first
              | exact absurd rfl (by assumption)
              | (exfalso; omega)
              | (refine aexit_eq (by first | exact .inl rfl | exact .inr rfl) (results_1 rfl (resOk_tmp rfl)) rfl ?_; rfl)
        · have e1 : q = true := hz.2 fun i hi hk => hok i hi hk (by omega)
          subst e1
          clear hz hf hlen
          repeat' (first | refine aops_nil ?_ | (refine aops_one ?_; first | refine aops_quiet tabOk rfl rfl rfl (Nat.le_of_ble_eq_true rfl) rfl ?_ | refine aops_skip rfl rfl (Nat.le_of_ble_eq_true rfl) ?_ | (refine aops_cmp rfl rfl rfl (Nat.le_of_ble_eq_true rfl) rfl rfl rfl (fun hq => ?_) (fun hq => ?_) <;> (first | (simp only [decide_eq_true_eq, decide_eq_false_iff_not, beq_iff_eq, beq_eq_false_iff_ne, bne_iff_ne, bne_eq_false_iff_eq, Bool.not_eq_true', Bool.not_eq_false'] at hq; first | (exfalso; omega) | skip) | skip)) | refine aops_inc rfl rfl rfl (Nat.le_of_ble_eq_true rfl) rfl rfl (by omega) ?_ | refine aops_add rfl rfl rfl (Nat.le_of_ble_eq_true rfl) rfl rfl rfl (by omega) (by omega) ?_ | refine aops_sub rfl rfl rfl (Nat.le_of_ble_eq_true rfl) rfl rfl rfl (by omega) (by omega) ?_ | refine aops_list tabOk rfl rfl rfl (Nat.le_of_ble_eq_true rfl) rfl rfl rfl rfl rfl rfl rfl rfl rfl ?_ | refine aops_pure tabOk rfl rfl (Nat.le_of_ble_eq_true rfl) rfl ?_ | refine aops_alloc tabOk rfl rfl rfl (Nat.le_of_ble_eq_true rfl) rfl rfl rfl rfl rfl rfl ?_ | refine aops_loadm tabOk rfl rfl rfl (Nat.le_of_ble_eq_true rfl) rfl rfl rfl rfl ?_ | refine aops_storem tabOk rfl rfl rfl rfl rfl rfl rfl rfl rfl rfl rfl ?_ | refine aops_index tabOk rfl rfl rfl (Nat.le_of_ble_eq_true rfl) rfl rfl rfl rfl (by first | assumption | omega) ?_ | refine aops_index0 tabOk rfl rfl rfl (Nat.le_of_ble_eq_true rfl) rfl rfl rfl rfl (by first | rfl | omega) (by first | omega | simp) ?_ | refine aops_load1 tabOk rfl rfl rfl (Nat.le_of_ble_eq_true rfl) rfl rfl rfl (by assumption) ?_ | refine aops_load1 tabOk rfl rfl rfl (Nat.le_of_ble_eq_true rfl) rfl rfl rfl (ivs_get _ _ (by first | assumption | omega)) ?_ | refine aops_inc rfl rfl rfl (Nat.le_of_ble_eq_true rfl) rfl rfl (by omega) ?_ | ((fail_if_success (refine aops_lit (b := true) rfl rfl rfl ?_)); (fail_if_success (refine aops_lit (b := false) rfl rfl rfl ?_)); refine aops_guard rfl rfl rfl (fun hq => ?_) (fun hq => ?_) <;> first | subst hq | (first | (simp only [decide_eq_true_eq, decide_eq_false_iff_not, beq_iff_eq, beq_eq_false_iff_ne, bne_iff_ne, bne_eq_false_iff_eq, Bool.not_eq_true', Bool.not_eq_false'] at hq; first | (exfalso; omega) | skip) | skip)) | fail) | (refine awp_one ?_; first | refine awp_sreg ?_ | refine awp_seq ?_ | refine awp_region ?_ | refine awp_block ?_ | refine awp_ret ?_ | refine awp_exit ?_ | refine awp_skip ?_ | refine awp_cond (b := true) rfl (fun _ => ?_) (fun h => Bool.noConfusion h) | refine awp_cond (b := false) rfl (fun h => Bool.noConfusion h) (fun _ => ?_) | refine awp_scope ?_ | refine awp_label ?_ | refine awp_sdraw mixed (by kernel_rfl) ?_ | refine awp_region_draw mixed (by kernel_rfl) ?_ | (refine awp_cond rfl (fun hq => ?_) (fun hq => ?_) <;> first | subst hq | (first | (simp only [decide_eq_true_eq, decide_eq_false_iff_not, beq_iff_eq, beq_eq_false_iff_ne, bne_iff_ne, bne_eq_false_iff_eq, Bool.not_eq_true', Bool.not_eq_false'] at hq; first | (exfalso; omega) | skip) | skip)) | fail) | (refine then_one ?_; first | refine q_then ?_ | refine q_then_exit ?_ | refine q_then_ret ?_ | fail) | (refine block_one ?_; first | refine q_block ?_ | refine q_block_exit ?_ | refine q_block_pass (by decide) ?_ | refine q_block_ret ?_ | fail) | refine feet_one (feetOk_of (by kernel_rfl)) ?_ | fail)
          all_goals first
            | (exfalso; omega)
            | (refine aexit_eq (by first | exact .inl rfl | exact .inr rfl) (results_1 rfl (resOk_tmp rfl)) rfl ?_; rfl)
      · have e1 : q = false := by
          rw [← hQ0]
          by_cases hl3 : ks.length = ks'.length
          · have hd : ¬ (k = k' ∧ n = n' ∧ a = a' ∧ b = b') := fun h => hd ⟨h, hl3⟩
            rw [Bool.eq_false_iff]
            intro h
            simp only [Bool.and_eq_true, beq_iff_eq, eqB_iff] at h
            exact hd ⟨h.1.1.1.1, h.1.1.1.2, h.1.1.2, h.1.2⟩
          · rw [hlen hl3, Bool.and_false]
        subst e1
        have hd : k = k' → n = n' → a.toList = a'.toList → b.toList = b'.toList → ks.length = ks'.length → False := fun h1 h2 h3 h4 h5 => hd ⟨⟨h1, h2, (eqB_iff a a').1 (by unfold eqB; rw [h3]; simp), (eqB_iff b b').1 (by unfold eqB; rw [h4]; simp)⟩, h5⟩
        clear hQ0 hf hlen
        refine acalls_plain Try.func25 rfl rfl (Nat.le_of_ble_eq_true rfl) rfl ?_
        repeat' (first | refine aops_nil ?_ | (refine aops_one ?_; first | refine aops_quiet tabOk rfl rfl rfl (Nat.le_of_ble_eq_true rfl) rfl ?_ | refine aops_skip rfl rfl (Nat.le_of_ble_eq_true rfl) ?_ | (refine aops_cmp rfl rfl rfl (Nat.le_of_ble_eq_true rfl) rfl rfl rfl (fun hq => ?_) (fun hq => ?_) <;> (first | (simp only [decide_eq_true_eq, decide_eq_false_iff_not, beq_iff_eq, beq_eq_false_iff_ne, bne_iff_ne, bne_eq_false_iff_eq, Bool.not_eq_true', Bool.not_eq_false'] at hq; first | (exfalso; omega) | skip) | skip)) | refine aops_inc rfl rfl rfl (Nat.le_of_ble_eq_true rfl) rfl rfl (by omega) ?_ | refine aops_add rfl rfl rfl (Nat.le_of_ble_eq_true rfl) rfl rfl rfl (by omega) (by omega) ?_ | refine aops_sub rfl rfl rfl (Nat.le_of_ble_eq_true rfl) rfl rfl rfl (by omega) (by omega) ?_ | refine aops_list tabOk rfl rfl rfl (Nat.le_of_ble_eq_true rfl) rfl rfl rfl rfl rfl rfl rfl rfl rfl ?_ | refine aops_pure tabOk rfl rfl (Nat.le_of_ble_eq_true rfl) rfl ?_ | refine aops_alloc tabOk rfl rfl rfl (Nat.le_of_ble_eq_true rfl) rfl rfl rfl rfl rfl rfl ?_ | refine aops_loadm tabOk rfl rfl rfl (Nat.le_of_ble_eq_true rfl) rfl rfl rfl rfl ?_ | refine aops_storem tabOk rfl rfl rfl rfl rfl rfl rfl rfl rfl rfl rfl ?_ | refine aops_index tabOk rfl rfl rfl (Nat.le_of_ble_eq_true rfl) rfl rfl rfl rfl (by first | assumption | omega) ?_ | refine aops_index0 tabOk rfl rfl rfl (Nat.le_of_ble_eq_true rfl) rfl rfl rfl rfl (by first | rfl | omega) (by first | omega | simp) ?_ | refine aops_load1 tabOk rfl rfl rfl (Nat.le_of_ble_eq_true rfl) rfl rfl rfl (by assumption) ?_ | refine aops_load1 tabOk rfl rfl rfl (Nat.le_of_ble_eq_true rfl) rfl rfl rfl (ivs_get _ _ (by first | assumption | omega)) ?_ | refine aops_inc rfl rfl rfl (Nat.le_of_ble_eq_true rfl) rfl rfl (by omega) ?_ | ((fail_if_success (refine aops_lit (b := true) rfl rfl rfl ?_)); (fail_if_success (refine aops_lit (b := false) rfl rfl rfl ?_)); refine aops_guard rfl rfl rfl (fun hq => ?_) (fun hq => ?_) <;> first | subst hq | (first | (simp only [decide_eq_true_eq, decide_eq_false_iff_not, beq_iff_eq, beq_eq_false_iff_ne, bne_iff_ne, bne_eq_false_iff_eq, Bool.not_eq_true', Bool.not_eq_false'] at hq; first | (exfalso; omega) | skip) | skip)) | fail) | (refine awp_one ?_; first | refine awp_sreg ?_ | refine awp_seq ?_ | refine awp_region ?_ | refine awp_block ?_ | refine awp_ret ?_ | refine awp_exit ?_ | refine awp_skip ?_ | refine awp_cond (b := true) rfl (fun _ => ?_) (fun h => Bool.noConfusion h) | refine awp_cond (b := false) rfl (fun h => Bool.noConfusion h) (fun _ => ?_) | refine awp_scope ?_ | refine awp_label ?_ | refine awp_sdraw mixed (by kernel_rfl) ?_ | refine awp_region_draw mixed (by kernel_rfl) ?_ | (refine awp_cond rfl (fun hq => ?_) (fun hq => ?_) <;> first | subst hq | (first | (simp only [decide_eq_true_eq, decide_eq_false_iff_not, beq_iff_eq, beq_eq_false_iff_ne, bne_iff_ne, bne_eq_false_iff_eq, Bool.not_eq_true', Bool.not_eq_false'] at hq; first | (exfalso; omega) | skip) | skip)) | fail) | (refine then_one ?_; first | refine q_then ?_ | refine q_then_exit ?_ | refine q_then_ret ?_ | fail) | (refine block_one ?_; first | refine q_block ?_ | refine q_block_exit ?_ | refine q_block_pass (by decide) ?_ | refine q_block_ret ?_ | fail) | refine feet_one (feetOk_of (by kernel_rfl)) ?_ | fail)
        all_goals first
          | exact absurd rfl (by assumption)
          | (exfalso; omega)
          | (exact (hd (by assumption) (by assumption) (by assumption) (by assumption) (by omega)).elim)
          | (refine aexit_eq (by first | exact .inl rfl | exact .inr rfl) (results_1 rfl (resOk_tmp rfl)) rfl ?_; rfl)
instance : DecidableEq Tree := fun a b => decidable_of_iff (sameP a b = true) (sameP_iff a b)
def mNum : Tree := .node 111 0 emptyB emptyB []
def mOf (k : Int) (c : Tree) : Tree := .node k 0 emptyB emptyB [c]
def mField (l : ByteArray) (c : Tree) : Tree := .node 163 0 l emptyB [c]
def mEx (n : Int) (s : Tree) : Tree := .node 164 n emptyB emptyB [s]
abbrev lt : ByteArray := ⟨#[116, 58, 116]⟩
abbrev lx : ByteArray := ⟨#[118, 58, 120]⟩
def mSig : Tree := .node 162 0 emptyB emptyB [mField lt (mOf 161 mNum), mField lx (mOf 160 mNum)]
def mTo : Tree := .node 162 0 emptyB emptyB [mField lt (mOf 161 (.node 110 0 emptyB emptyB []))]
def mOut : Tree := .node 162 0 emptyB emptyB [mField lt (mOf 161 mNum)]
theorem ex_w : witnessP mSig (mEx 1 mTo) = ([mNum], 0) := by decide +kernel
theorem ex_f : fillP (mEx 1 mTo) [mNum] = (mOut, 0) := by decide +kernel
theorem ex_o : fillOk 1 [mNum] 0 mTo = true := by decide +kernel
theorem ex_s : mSubP mSig mOut = 0 := by decide +kernel
end Go.Proofs.Ytlbemgokilhdnaa.Ab
namespace Go.Proofs.Ytlbemgokilhdnaa.Ab
set_option linter.unusedVariables false
set_option linter.unusedSimpArgs false
open Go.RowKit
attribute [local irreducible] AWP AOps AExit AThen ABlock ANoGoto FeetOk
set_option maxHeartbeats 4000000 in
set_option maxRecDepth 10000 in
theorem of_a (k : Int) (pc : List IV) : ACalls Try.prog 41 [.imm (.lit (.int .i64 k)), .imm (.ptr pc 0)] [] (.imm (.ptr [.lit (.int .i64 k), .lit (.int .i64 0), .lit (.string ⟨#[]⟩), .lit (.string ⟨#[]⟩), .sl false 1 [.ptr pc 0]] 0)) [] := by
  refine acalls_plain Try.func41 rfl rfl (Nat.le_of_ble_eq_true rfl) rfl ?_
  repeat' (first | refine aops_nil ?_ | (refine aops_one ?_; first | refine aops_quiet tabOk rfl rfl rfl (Nat.le_of_ble_eq_true rfl) rfl ?_ | refine aops_skip rfl rfl (Nat.le_of_ble_eq_true rfl) ?_ | (refine aops_cmp rfl rfl rfl (Nat.le_of_ble_eq_true rfl) rfl rfl rfl (fun hq => ?_) (fun hq => ?_) <;> (first | (simp only [decide_eq_true_eq, decide_eq_false_iff_not, beq_iff_eq, beq_eq_false_iff_ne, bne_iff_ne, bne_eq_false_iff_eq, Bool.not_eq_true', Bool.not_eq_false'] at hq; first | (exfalso; omega) | skip) | skip)) | refine aops_inc rfl rfl rfl (Nat.le_of_ble_eq_true rfl) rfl rfl (by omega) ?_ | refine aops_add rfl rfl rfl (Nat.le_of_ble_eq_true rfl) rfl rfl rfl (by omega) (by omega) ?_ | refine aops_sub rfl rfl rfl (Nat.le_of_ble_eq_true rfl) rfl rfl rfl (by omega) (by omega) ?_ | refine aops_list tabOk rfl rfl rfl (Nat.le_of_ble_eq_true rfl) rfl rfl rfl rfl rfl rfl rfl rfl rfl ?_ | refine aops_pure tabOk rfl rfl (Nat.le_of_ble_eq_true rfl) rfl ?_ | refine aops_alloc tabOk rfl rfl rfl (Nat.le_of_ble_eq_true rfl) rfl rfl rfl rfl rfl rfl ?_ | refine aops_loadm tabOk rfl rfl rfl (Nat.le_of_ble_eq_true rfl) rfl rfl rfl rfl ?_ | refine aops_storem tabOk rfl rfl rfl rfl rfl rfl rfl rfl rfl rfl rfl ?_ | refine aops_index tabOk rfl rfl rfl (Nat.le_of_ble_eq_true rfl) rfl rfl rfl rfl (by first | assumption | omega) ?_ | refine aops_index0 tabOk rfl rfl rfl (Nat.le_of_ble_eq_true rfl) rfl rfl rfl rfl (by first | rfl | omega) (by first | omega | simp) ?_ | refine aops_load1 tabOk rfl rfl rfl (Nat.le_of_ble_eq_true rfl) rfl rfl rfl (by assumption) ?_ | refine aops_load1 tabOk rfl rfl rfl (Nat.le_of_ble_eq_true rfl) rfl rfl rfl (ivs_get _ _ (by first | assumption | omega)) ?_ | refine aops_inc rfl rfl rfl (Nat.le_of_ble_eq_true rfl) rfl rfl (by omega) ?_ | ((fail_if_success (refine aops_lit (b := true) rfl rfl rfl ?_)); (fail_if_success (refine aops_lit (b := false) rfl rfl rfl ?_)); refine aops_guard rfl rfl rfl (fun hq => ?_) (fun hq => ?_) <;> first | subst hq | (first | (simp only [decide_eq_true_eq, decide_eq_false_iff_not, beq_iff_eq, beq_eq_false_iff_ne, bne_iff_ne, bne_eq_false_iff_eq, Bool.not_eq_true', Bool.not_eq_false'] at hq; first | (exfalso; omega) | skip) | skip)) | fail) | (refine awp_one ?_; first | refine awp_sreg ?_ | refine awp_seq ?_ | refine awp_region ?_ | refine awp_block ?_ | refine awp_ret ?_ | refine awp_exit ?_ | refine awp_skip ?_ | refine awp_cond (b := true) rfl (fun _ => ?_) (fun h => Bool.noConfusion h) | refine awp_cond (b := false) rfl (fun h => Bool.noConfusion h) (fun _ => ?_) | refine awp_scope ?_ | refine awp_label ?_ | refine awp_sdraw mixed (by kernel_rfl) ?_ | refine awp_region_draw mixed (by kernel_rfl) ?_ | (refine awp_cond rfl (fun hq => ?_) (fun hq => ?_) <;> first | subst hq | (first | (simp only [decide_eq_true_eq, decide_eq_false_iff_not, beq_iff_eq, beq_eq_false_iff_ne, bne_iff_ne, bne_eq_false_iff_eq, Bool.not_eq_true', Bool.not_eq_false'] at hq; first | (exfalso; omega) | skip) | skip)) | fail) | (refine then_one ?_; first | refine q_then ?_ | refine q_then_exit ?_ | refine q_then_ret ?_ | fail) | (refine block_one ?_; first | refine q_block ?_ | refine q_block_exit ?_ | refine q_block_pass (by decide) ?_ | refine q_block_ret ?_ | fail) | refine feet_one (feetOk_of (by kernel_rfl)) ?_ | fail)
  all_goals exact aexit_plain (by first | exact .inl rfl | exact .inr rfl) (results_1 rfl (resOk_tmp rfl)) rfl
set_option maxHeartbeats 4000000 in
set_option maxRecDepth 10000 in
theorem fieldL_a (l : ByteArray) (pc : List IV) : ACalls Try.prog 40 [.imm (.lit (.string l)), .imm (.ptr pc 0)] [] (.imm (.ptr [.lit (.int .i64 163), .lit (.int .i64 0), .lit (.string l), .lit (.string ⟨#[]⟩), .sl false 1 [.ptr pc 0]] 0)) [] := by
  refine acalls_plain Try.func40 rfl rfl (Nat.le_of_ble_eq_true rfl) rfl ?_
  repeat' (first | refine aops_nil ?_ | (refine aops_one ?_; first | refine aops_quiet tabOk rfl rfl rfl (Nat.le_of_ble_eq_true rfl) rfl ?_ | refine aops_skip rfl rfl (Nat.le_of_ble_eq_true rfl) ?_ | (refine aops_cmp rfl rfl rfl (Nat.le_of_ble_eq_true rfl) rfl rfl rfl (fun hq => ?_) (fun hq => ?_) <;> (first | (simp only [decide_eq_true_eq, decide_eq_false_iff_not, beq_iff_eq, beq_eq_false_iff_ne, bne_iff_ne, bne_eq_false_iff_eq, Bool.not_eq_true', Bool.not_eq_false'] at hq; first | (exfalso; omega) | skip) | skip)) | refine aops_inc rfl rfl rfl (Nat.le_of_ble_eq_true rfl) rfl rfl (by omega) ?_ | refine aops_add rfl rfl rfl (Nat.le_of_ble_eq_true rfl) rfl rfl rfl (by omega) (by omega) ?_ | refine aops_sub rfl rfl rfl (Nat.le_of_ble_eq_true rfl) rfl rfl rfl (by omega) (by omega) ?_ | refine aops_list tabOk rfl rfl rfl (Nat.le_of_ble_eq_true rfl) rfl rfl rfl rfl rfl rfl rfl rfl rfl ?_ | refine aops_pure tabOk rfl rfl (Nat.le_of_ble_eq_true rfl) rfl ?_ | refine aops_alloc tabOk rfl rfl rfl (Nat.le_of_ble_eq_true rfl) rfl rfl rfl rfl rfl rfl ?_ | refine aops_loadm tabOk rfl rfl rfl (Nat.le_of_ble_eq_true rfl) rfl rfl rfl rfl ?_ | refine aops_storem tabOk rfl rfl rfl rfl rfl rfl rfl rfl rfl rfl rfl ?_ | refine aops_index tabOk rfl rfl rfl (Nat.le_of_ble_eq_true rfl) rfl rfl rfl rfl (by first | assumption | omega) ?_ | refine aops_index0 tabOk rfl rfl rfl (Nat.le_of_ble_eq_true rfl) rfl rfl rfl rfl (by first | rfl | omega) (by first | omega | simp) ?_ | refine aops_load1 tabOk rfl rfl rfl (Nat.le_of_ble_eq_true rfl) rfl rfl rfl (by assumption) ?_ | refine aops_load1 tabOk rfl rfl rfl (Nat.le_of_ble_eq_true rfl) rfl rfl rfl (ivs_get _ _ (by first | assumption | omega)) ?_ | refine aops_inc rfl rfl rfl (Nat.le_of_ble_eq_true rfl) rfl rfl (by omega) ?_ | ((fail_if_success (refine aops_lit (b := true) rfl rfl rfl ?_)); (fail_if_success (refine aops_lit (b := false) rfl rfl rfl ?_)); refine aops_guard rfl rfl rfl (fun hq => ?_) (fun hq => ?_) <;> first | subst hq | (first | (simp only [decide_eq_true_eq, decide_eq_false_iff_not, beq_iff_eq, beq_eq_false_iff_ne, bne_iff_ne, bne_eq_false_iff_eq, Bool.not_eq_true', Bool.not_eq_false'] at hq; first | (exfalso; omega) | skip) | skip)) | fail) | (refine awp_one ?_; first | refine awp_sreg ?_ | refine awp_seq ?_ | refine awp_region ?_ | refine awp_block ?_ | refine awp_ret ?_ | refine awp_exit ?_ | refine awp_skip ?_ | refine awp_cond (b := true) rfl (fun _ => ?_) (fun h => Bool.noConfusion h) | refine awp_cond (b := false) rfl (fun h => Bool.noConfusion h) (fun _ => ?_) | refine awp_scope ?_ | refine awp_label ?_ | refine awp_sdraw mixed (by kernel_rfl) ?_ | refine awp_region_draw mixed (by kernel_rfl) ?_ | (refine awp_cond rfl (fun hq => ?_) (fun hq => ?_) <;> first | subst hq | (first | (simp only [decide_eq_true_eq, decide_eq_false_iff_not, beq_iff_eq, beq_eq_false_iff_ne, bne_iff_ne, bne_eq_false_iff_eq, Bool.not_eq_true', Bool.not_eq_false'] at hq; first | (exfalso; omega) | skip) | skip)) | fail) | (refine then_one ?_; first | refine q_then ?_ | refine q_then_exit ?_ | refine q_then_ret ?_ | fail) | (refine block_one ?_; first | refine q_block ?_ | refine q_block_exit ?_ | refine q_block_pass (by decide) ?_ | refine q_block_ret ?_ | fail) | refine feet_one (feetOk_of (by kernel_rfl)) ?_ | fail)
  all_goals exact aexit_plain (by first | exact .inl rfl | exact .inr rfl) (results_1 rfl (resOk_tmp rfl)) rfl
set_option maxHeartbeats 4000000 in
set_option maxRecDepth 10000 in
theorem exL_a (n : Int) (pc : List IV) : ACalls Try.prog 43 [.imm (.lit (.int .i64 n)), .imm (.ptr pc 0)] [] (.imm (.ptr [.lit (.int .i64 164), .lit (.int .i64 n), .lit (.string ⟨#[]⟩), .lit (.string ⟨#[]⟩), .sl false 1 [.ptr pc 0]] 0)) [] := by
  refine acalls_plain Try.func43 rfl rfl (Nat.le_of_ble_eq_true rfl) rfl ?_
  repeat' (first | refine aops_nil ?_ | (refine aops_one ?_; first | refine aops_quiet tabOk rfl rfl rfl (Nat.le_of_ble_eq_true rfl) rfl ?_ | refine aops_skip rfl rfl (Nat.le_of_ble_eq_true rfl) ?_ | (refine aops_cmp rfl rfl rfl (Nat.le_of_ble_eq_true rfl) rfl rfl rfl (fun hq => ?_) (fun hq => ?_) <;> (first | (simp only [decide_eq_true_eq, decide_eq_false_iff_not, beq_iff_eq, beq_eq_false_iff_ne, bne_iff_ne, bne_eq_false_iff_eq, Bool.not_eq_true', Bool.not_eq_false'] at hq; first | (exfalso; omega) | skip) | skip)) | refine aops_inc rfl rfl rfl (Nat.le_of_ble_eq_true rfl) rfl rfl (by omega) ?_ | refine aops_add rfl rfl rfl (Nat.le_of_ble_eq_true rfl) rfl rfl rfl (by omega) (by omega) ?_ | refine aops_sub rfl rfl rfl (Nat.le_of_ble_eq_true rfl) rfl rfl rfl (by omega) (by omega) ?_ | refine aops_list tabOk rfl rfl rfl (Nat.le_of_ble_eq_true rfl) rfl rfl rfl rfl rfl rfl rfl rfl rfl ?_ | refine aops_pure tabOk rfl rfl (Nat.le_of_ble_eq_true rfl) rfl ?_ | refine aops_alloc tabOk rfl rfl rfl (Nat.le_of_ble_eq_true rfl) rfl rfl rfl rfl rfl rfl ?_ | refine aops_loadm tabOk rfl rfl rfl (Nat.le_of_ble_eq_true rfl) rfl rfl rfl rfl ?_ | refine aops_storem tabOk rfl rfl rfl rfl rfl rfl rfl rfl rfl rfl rfl ?_ | refine aops_index tabOk rfl rfl rfl (Nat.le_of_ble_eq_true rfl) rfl rfl rfl rfl (by first | assumption | omega) ?_ | refine aops_index0 tabOk rfl rfl rfl (Nat.le_of_ble_eq_true rfl) rfl rfl rfl rfl (by first | rfl | omega) (by first | omega | simp) ?_ | refine aops_load1 tabOk rfl rfl rfl (Nat.le_of_ble_eq_true rfl) rfl rfl rfl (by assumption) ?_ | refine aops_load1 tabOk rfl rfl rfl (Nat.le_of_ble_eq_true rfl) rfl rfl rfl (ivs_get _ _ (by first | assumption | omega)) ?_ | refine aops_inc rfl rfl rfl (Nat.le_of_ble_eq_true rfl) rfl rfl (by omega) ?_ | ((fail_if_success (refine aops_lit (b := true) rfl rfl rfl ?_)); (fail_if_success (refine aops_lit (b := false) rfl rfl rfl ?_)); refine aops_guard rfl rfl rfl (fun hq => ?_) (fun hq => ?_) <;> first | subst hq | (first | (simp only [decide_eq_true_eq, decide_eq_false_iff_not, beq_iff_eq, beq_eq_false_iff_ne, bne_iff_ne, bne_eq_false_iff_eq, Bool.not_eq_true', Bool.not_eq_false'] at hq; first | (exfalso; omega) | skip) | skip)) | fail) | (refine awp_one ?_; first | refine awp_sreg ?_ | refine awp_seq ?_ | refine awp_region ?_ | refine awp_block ?_ | refine awp_ret ?_ | refine awp_exit ?_ | refine awp_skip ?_ | refine awp_cond (b := true) rfl (fun _ => ?_) (fun h => Bool.noConfusion h) | refine awp_cond (b := false) rfl (fun h => Bool.noConfusion h) (fun _ => ?_) | refine awp_scope ?_ | refine awp_label ?_ | refine awp_sdraw mixed (by kernel_rfl) ?_ | refine awp_region_draw mixed (by kernel_rfl) ?_ | (refine awp_cond rfl (fun hq => ?_) (fun hq => ?_) <;> first | subst hq | (first | (simp only [decide_eq_true_eq, decide_eq_false_iff_not, beq_iff_eq, beq_eq_false_iff_ne, bne_iff_ne, bne_eq_false_iff_eq, Bool.not_eq_true', Bool.not_eq_false'] at hq; first | (exfalso; omega) | skip) | skip)) | fail) | (refine then_one ?_; first | refine q_then ?_ | refine q_then_exit ?_ | refine q_then_ret ?_ | fail) | (refine block_one ?_; first | refine q_block ?_ | refine q_block_exit ?_ | refine q_block_pass (by decide) ?_ | refine q_block_ret ?_ | fail) | refine feet_one (feetOk_of (by kernel_rfl)) ?_ | fail)
  all_goals exact aexit_plain (by first | exact .inl rfl | exact .inr rfl) (results_1 rfl (resOk_tmp rfl)) rfl
set_option maxHeartbeats 8000000 in
set_option maxRecDepth 10000 in
theorem works21_a : ACalls Try.prog 18 [] [] (.imm (.lit (.bool true))) [] := by
  have c1 := Match_good mSig (mEx 1 mTo) (by decide) (by decide) (by rw [ex_w]) (by rw [ex_w]; decide) (by rw [ex_w]; intro c hc; rw [List.mem_singleton.1 hc]; decide) (by rw [ex_w]; exact ex_o) (by rw [ex_w]; exact congrArg Prod.snd ex_f) (by rw [ex_w, ex_f]; decide) (by rw [ex_w, ex_f]; exact ex_s)
  rw [ex_w] at c1
  dsimp only at c1
  rw [ex_f] at c1
  have c2 := rSame_a mNum mNum (.inr (by decide)) (.inr (by decide)) (by decide) (by decide)
  rw [(sameP_iff mNum mNum).2 rfl] at c2
  have c3 := mSub_a mSig mOut (by decide) (by decide)
  rw [ex_s] at c3
  refine acalls_plain Try.func18 rfl rfl (Nat.le_of_ble_eq_true rfl) rfl ?_
  repeat' (first | refine aops_nil ?_ | (refine aops_one ?_; first | refine aops_quiet tabOk rfl rfl rfl (Nat.le_of_ble_eq_true rfl) rfl ?_ | refine aops_skip rfl rfl (Nat.le_of_ble_eq_true rfl) ?_ | (refine aops_cmp rfl rfl rfl (Nat.le_of_ble_eq_true rfl) rfl rfl rfl (fun hq => ?_) (fun hq => ?_) <;> (first | (simp only [decide_eq_true_eq, decide_eq_false_iff_not, beq_iff_eq, beq_eq_false_iff_ne, bne_iff_ne, bne_eq_false_iff_eq, Bool.not_eq_true', Bool.not_eq_false'] at hq; first | (exfalso; omega) | skip) | skip))| refine aops_call rfl rfl (Nat.le_of_ble_eq_true rfl) rfl rfl rfl rfl ((of_a _ _)) ?_ | refine aops_call rfl rfl (Nat.le_of_ble_eq_true rfl) rfl rfl rfl rfl ((fieldL_a _ _)) ?_ | refine aops_call rfl rfl (Nat.le_of_ble_eq_true rfl) rfl rfl rfl rfl ((exL_a _ _)) ?_ | refine aops_call rfl rfl (Nat.le_of_ble_eq_true rfl) rfl rfl rfl rfl (c1) ?_ | refine aops_call rfl rfl (Nat.le_of_ble_eq_true rfl) rfl rfl rfl rfl (c2) ?_ | refine aops_call rfl rfl (Nat.le_of_ble_eq_true rfl) rfl rfl rfl rfl (c3) ?_ | refine aops_inc rfl rfl rfl (Nat.le_of_ble_eq_true rfl) rfl rfl (by omega) ?_ | refine aops_add rfl rfl rfl (Nat.le_of_ble_eq_true rfl) rfl rfl rfl (by omega) (by omega) ?_ | refine aops_sub rfl rfl rfl (Nat.le_of_ble_eq_true rfl) rfl rfl rfl (by omega) (by omega) ?_ | refine aops_list tabOk rfl rfl rfl (Nat.le_of_ble_eq_true rfl) rfl rfl rfl rfl rfl rfl rfl rfl rfl ?_ | refine aops_pure tabOk rfl rfl (Nat.le_of_ble_eq_true rfl) rfl ?_ | refine aops_alloc tabOk rfl rfl rfl (Nat.le_of_ble_eq_true rfl) rfl rfl rfl rfl rfl rfl ?_ | refine aops_loadm tabOk rfl rfl rfl (Nat.le_of_ble_eq_true rfl) rfl rfl rfl rfl ?_ | refine aops_storem tabOk rfl rfl rfl rfl rfl rfl rfl rfl rfl rfl rfl ?_ | refine aops_index tabOk rfl rfl rfl (Nat.le_of_ble_eq_true rfl) rfl rfl rfl rfl (by first | assumption | omega) ?_ | refine aops_index0 tabOk rfl rfl rfl (Nat.le_of_ble_eq_true rfl) rfl rfl rfl rfl (by first | rfl | omega) (by first | omega | simp) ?_ | refine aops_load1 tabOk rfl rfl rfl (Nat.le_of_ble_eq_true rfl) rfl rfl rfl (by assumption) ?_ | refine aops_load1 tabOk rfl rfl rfl (Nat.le_of_ble_eq_true rfl) rfl rfl rfl (ivs_get _ _ (by first | assumption | omega)) ?_ | refine aops_inc rfl rfl rfl (Nat.le_of_ble_eq_true rfl) rfl rfl (by omega) ?_ | ((fail_if_success (refine aops_lit (b := true) rfl rfl rfl ?_)); (fail_if_success (refine aops_lit (b := false) rfl rfl rfl ?_)); refine aops_guard rfl rfl rfl (fun hq => ?_) (fun hq => ?_) <;> first | subst hq | (first | (simp only [decide_eq_true_eq, decide_eq_false_iff_not, beq_iff_eq, beq_eq_false_iff_ne, bne_iff_ne, bne_eq_false_iff_eq, Bool.not_eq_true', Bool.not_eq_false'] at hq; first | (exfalso; omega) | skip) | skip)) | fail) | (refine awp_one ?_; first | refine awp_sreg ?_ | refine awp_seq ?_ | refine awp_region ?_ | refine awp_block ?_ | refine awp_ret ?_ | refine awp_exit ?_ | refine awp_skip ?_ | refine awp_cond (b := true) rfl (fun _ => ?_) (fun h => Bool.noConfusion h) | refine awp_cond (b := false) rfl (fun h => Bool.noConfusion h) (fun _ => ?_) | refine awp_scope ?_ | refine awp_label ?_ | refine awp_sdraw mixed (by kernel_rfl) ?_ | refine awp_region_draw mixed (by kernel_rfl) ?_ | (refine awp_cond rfl (fun hq => ?_) (fun hq => ?_) <;> first | subst hq | (first | (simp only [decide_eq_true_eq, decide_eq_false_iff_not, beq_iff_eq, beq_eq_false_iff_ne, bne_iff_ne, bne_eq_false_iff_eq, Bool.not_eq_true', Bool.not_eq_false'] at hq; first | (exfalso; omega) | skip) | skip)) | fail) | (refine then_one ?_; first | refine q_then ?_ | refine q_then_exit ?_ | refine q_then_ret ?_ | fail) | (refine block_one ?_; first | refine q_block ?_ | refine q_block_exit ?_ | refine q_block_pass (by decide) ?_ | refine q_block_ret ?_ | fail) | refine feet_one (feetOk_of (by kernel_rfl)) ?_ | fail)
  all_goals first
    | exact aexit_plain (by first | exact .inl rfl | exact .inr rfl) (results_1 rfl (resOk_tmp rfl)) rfl
    | exact absurd rfl (by assumption)
theorem mSub_zero {a b : Tree} (h : mSubP a b = 0) : isSigP a = true ∧ isSigP b = true ∧ a.whole = true ∧ b.whole = true ∧ subP b a = true ∧ checkP sformP a = 0 ∧ checkP sformP b = 0 := by
  unfold mSubP at h
  split at h
  · rename_i hc; exact absurd h hc
  · rename_i hca
    split at h
    · rename_i hc; exact absurd h hc
    · rename_i hcb
      have hca : checkP sformP a = 0 := by omega
      have hcb : checkP sformP b = 0 := by omega
      split at h
      · rename_i hp
        rw [Bool.and_eq_true] at hp
        split at h
        · rename_i hs
          exact ⟨plain_sig hca hp.1, plain_sig hcb hp.2, (checkP_whole hca).1, (checkP_whole hcb).1, hs, hca, hcb⟩
        · cases h
      · cases h
theorem mSub_of {a b : Tree} (hca : checkP sformP a = 0) (hcb : checkP sformP b = 0) (ha : isSigP a = true) (hb : isSigP b = true) (h : subP b a = true) : mSubP a b = 0 := by
  unfold mSubP
  rw [if_neg (by simpa using hca), if_neg (by simpa using hcb), sig_plain ha, sig_plain hb, if_pos (Bool.and_self true), if_pos h]
set_option maxHeartbeats 16000000 in
set_option maxRecDepth 10000 in
theorem MatchOrder_a (l m r : List CellD) (hl : ∀ c ∈ l, c.f = false) (hm : ∀ c ∈ m, c.f = false) (hr : ∀ c ∈ r, c.f = false) : ACalls Try.prog 5 [.imm (.agg [.sl false l.length (cellIVs l)]), .imm (.agg [.sl false m.length (cellIVs m)]), .imm (.agg [.sl false r.length (cellIVs r)])] [] (.imm (.lit (.bool true))) [] := by
  obtain ⟨a, a1, _, a3, d1⟩ := few10_s l hl
  obtain ⟨b, b1, _, _, d2⟩ := few10_s m hm
  obtain ⟨c, c1, _, _, d3⟩ := few10_s r hr
  have e1 := sCheck_any a (by omega)
  have e2 := mSub_a a a (by omega) (by omega)
  have e3 := mSub_a a b (by omega) (by omega)
  have e4 := mSub_a b c (by omega) (by omega)
  have e5 := mSub_a a c (by omega) (by omega)
  have h1 : checkP sformP a = 0 → a.kind ≠ 164 → a.kind ≠ 165 → mSubP a a = 0 := fun h1 h2 h3 => by
    have hs := plain_sig h1 (by unfold plainP; rw [decide_eq_true h2, decide_eq_true h3]; rfl)
    exact mSub_of h1 h1 hs hs (subP_refl a hs)
  have h2 : mSubP a b = 0 → mSubP b c = 0 → mSubP a c = 0 := fun h1 h2 => by
    obtain ⟨p1, p2, p3, p4, p5, p6, p7⟩ := mSub_zero h1
    obtain ⟨q1, q2, q3, q4, q5, q6, q7⟩ := mSub_zero h2
    exact mSub_of p6 q7 p1 q2 (subP_trans c a b p1 p2 q2 p3 p4 p5 q5)
  have h0 : checkP sformP a = 0 → a.whole = true := fun h => (checkP_whole h).1
  generalize mSubP a a = S1 at *
  generalize mSubP a b = S2 at *
  generalize mSubP b c = S3 at *
  generalize mSubP a c = S4 at *
  generalize checkP sformP a = C at *
  by_cases hc : C = 0
  · obtain ⟨k, n, x, y, kids, rfl⟩ := whole_node (h0 hc)
    have h1 : k ≠ 164 → k ≠ 165 → S1 = 0 := fun g1 g2 => h1 hc g1 g2
    clear h0
    refine acalls_plain Try.func5 rfl rfl (Nat.le_of_ble_eq_true rfl) rfl ?_
    repeat' (first | refine aops_nil ?_ | (refine aops_one ?_; first | refine aops_quiet tabOk rfl rfl rfl (Nat.le_of_ble_eq_true rfl) rfl ?_ | refine aops_skip rfl rfl (Nat.le_of_ble_eq_true rfl) ?_ | (refine aops_cmp rfl rfl rfl (Nat.le_of_ble_eq_true rfl) rfl rfl rfl (fun hq => ?_) (fun hq => ?_) <;> (first | (simp only [decide_eq_true_eq, decide_eq_false_iff_not, beq_iff_eq, beq_eq_false_iff_ne, bne_iff_ne, bne_eq_false_iff_eq, Bool.not_eq_true', Bool.not_eq_false'] at hq; first | (exfalso; omega) | skip) | skip))| refine aops_call rfl rfl (Nat.le_of_ble_eq_true rfl) rfl rfl rfl rfl (d1) ?_ | refine aops_call rfl rfl (Nat.le_of_ble_eq_true rfl) rfl rfl rfl rfl (d2) ?_ | refine aops_call rfl rfl (Nat.le_of_ble_eq_true rfl) rfl rfl rfl rfl (d3) ?_ | refine aops_call rfl rfl (Nat.le_of_ble_eq_true rfl) rfl rfl rfl rfl (e1) ?_ | refine aops_call rfl rfl (Nat.le_of_ble_eq_true rfl) rfl rfl rfl rfl (e2) ?_ | refine aops_call rfl rfl (Nat.le_of_ble_eq_true rfl) rfl rfl rfl rfl (e3) ?_ | refine aops_call rfl rfl (Nat.le_of_ble_eq_true rfl) rfl rfl rfl rfl (e4) ?_ | refine aops_call rfl rfl (Nat.le_of_ble_eq_true rfl) rfl rfl rfl rfl (e5) ?_ | refine aops_call rfl rfl (Nat.le_of_ble_eq_true rfl) rfl rfl rfl rfl (works21_a) ?_ | refine aops_inc rfl rfl rfl (Nat.le_of_ble_eq_true rfl) rfl rfl (by omega) ?_ | refine aops_add rfl rfl rfl (Nat.le_of_ble_eq_true rfl) rfl rfl rfl (by omega) (by omega) ?_ | refine aops_sub rfl rfl rfl (Nat.le_of_ble_eq_true rfl) rfl rfl rfl (by omega) (by omega) ?_ | refine aops_list tabOk rfl rfl rfl (Nat.le_of_ble_eq_true rfl) rfl rfl rfl rfl rfl rfl rfl rfl rfl ?_ | refine aops_pure tabOk rfl rfl (Nat.le_of_ble_eq_true rfl) rfl ?_ | refine aops_alloc tabOk rfl rfl rfl (Nat.le_of_ble_eq_true rfl) rfl rfl rfl rfl rfl rfl ?_ | refine aops_loadm tabOk rfl rfl rfl (Nat.le_of_ble_eq_true rfl) rfl rfl rfl rfl ?_ | refine aops_storem tabOk rfl rfl rfl rfl rfl rfl rfl rfl rfl rfl rfl ?_ | refine aops_index tabOk rfl rfl rfl (Nat.le_of_ble_eq_true rfl) rfl rfl rfl rfl (by first | assumption | omega) ?_ | refine aops_index0 tabOk rfl rfl rfl (Nat.le_of_ble_eq_true rfl) rfl rfl rfl rfl (by first | rfl | omega) (by first | omega | simp) ?_ | refine aops_load1 tabOk rfl rfl rfl (Nat.le_of_ble_eq_true rfl) rfl rfl rfl (by assumption) ?_ | refine aops_load1 tabOk rfl rfl rfl (Nat.le_of_ble_eq_true rfl) rfl rfl rfl (ivs_get _ _ (by first | assumption | omega)) ?_ | refine aops_inc rfl rfl rfl (Nat.le_of_ble_eq_true rfl) rfl rfl (by omega) ?_ | ((fail_if_success (refine aops_lit (b := true) rfl rfl rfl ?_)); (fail_if_success (refine aops_lit (b := false) rfl rfl rfl ?_)); refine aops_guard rfl rfl rfl (fun hq => ?_) (fun hq => ?_) <;> first | subst hq | (first | (simp only [decide_eq_true_eq, decide_eq_false_iff_not, beq_iff_eq, beq_eq_false_iff_ne, bne_iff_ne, bne_eq_false_iff_eq, Bool.not_eq_true', Bool.not_eq_false'] at hq; first | (exfalso; omega) | skip) | skip)) | fail) | (refine awp_one ?_; first | refine awp_sreg ?_ | refine awp_seq ?_ | refine awp_region ?_ | refine awp_block ?_ | refine awp_ret ?_ | refine awp_exit ?_ | refine awp_skip ?_ | refine awp_cond (b := true) rfl (fun _ => ?_) (fun h => Bool.noConfusion h) | refine awp_cond (b := false) rfl (fun h => Bool.noConfusion h) (fun _ => ?_) | refine awp_scope ?_ | refine awp_label ?_ | refine awp_sdraw mixed (by kernel_rfl) ?_ | refine awp_region_draw mixed (by kernel_rfl) ?_ | (refine awp_cond rfl (fun hq => ?_) (fun hq => ?_) <;> first | subst hq | (first | (simp only [decide_eq_true_eq, decide_eq_false_iff_not, beq_iff_eq, beq_eq_false_iff_ne, bne_iff_ne, bne_eq_false_iff_eq, Bool.not_eq_true', Bool.not_eq_false'] at hq; first | (exfalso; omega) | skip) | skip)) | fail) | (refine then_one ?_; first | refine q_then ?_ | refine q_then_exit ?_ | refine q_then_ret ?_ | fail) | (refine block_one ?_; first | refine q_block ?_ | refine q_block_exit ?_ | refine q_block_pass (by decide) ?_ | refine q_block_ret ?_ | fail) | refine feet_one (feetOk_of (by kernel_rfl)) ?_ | fail)
    all_goals first
      | exact aexit_plain (by first | exact .inl rfl | exact .inr rfl) (results_1 rfl (resOk_tmp rfl)) rfl
      | exact absurd rfl (by assumption)
      | exact absurd (h1 (by assumption) (by assumption)) (by assumption)
      | exact absurd (h2 (by assumption) (by assumption)) (by assumption)
      | (exfalso; omega)
  · clear h0 h1
    refine acalls_plain Try.func5 rfl rfl (Nat.le_of_ble_eq_true rfl) rfl ?_
    repeat' (first | refine aops_nil ?_ | (refine aops_one ?_; first | refine aops_quiet tabOk rfl rfl rfl (Nat.le_of_ble_eq_true rfl) rfl ?_ | refine aops_skip rfl rfl (Nat.le_of_ble_eq_true rfl) ?_ | (refine aops_cmp rfl rfl rfl (Nat.le_of_ble_eq_true rfl) rfl rfl rfl (fun hq => ?_) (fun hq => ?_) <;> (first | (simp only [decide_eq_true_eq, decide_eq_false_iff_not, beq_iff_eq, beq_eq_false_iff_ne, bne_iff_ne, bne_eq_false_iff_eq, Bool.not_eq_true', Bool.not_eq_false'] at hq; first | (exfalso; omega) | skip) | skip))| refine aops_call rfl rfl (Nat.le_of_ble_eq_true rfl) rfl rfl rfl rfl (d1) ?_ | refine aops_call rfl rfl (Nat.le_of_ble_eq_true rfl) rfl rfl rfl rfl (d2) ?_ | refine aops_call rfl rfl (Nat.le_of_ble_eq_true rfl) rfl rfl rfl rfl (d3) ?_ | refine aops_call rfl rfl (Nat.le_of_ble_eq_true rfl) rfl rfl rfl rfl (e1) ?_ | refine aops_call rfl rfl (Nat.le_of_ble_eq_true rfl) rfl rfl rfl rfl (e2) ?_ | refine aops_call rfl rfl (Nat.le_of_ble_eq_true rfl) rfl rfl rfl rfl (e3) ?_ | refine aops_call rfl rfl (Nat.le_of_ble_eq_true rfl) rfl rfl rfl rfl (e4) ?_ | refine aops_call rfl rfl (Nat.le_of_ble_eq_true rfl) rfl rfl rfl rfl (e5) ?_ | refine aops_call rfl rfl (Nat.le_of_ble_eq_true rfl) rfl rfl rfl rfl (works21_a) ?_ | refine aops_inc rfl rfl rfl (Nat.le_of_ble_eq_true rfl) rfl rfl (by omega) ?_ | refine aops_add rfl rfl rfl (Nat.le_of_ble_eq_true rfl) rfl rfl rfl (by omega) (by omega) ?_ | refine aops_sub rfl rfl rfl (Nat.le_of_ble_eq_true rfl) rfl rfl rfl (by omega) (by omega) ?_ | refine aops_list tabOk rfl rfl rfl (Nat.le_of_ble_eq_true rfl) rfl rfl rfl rfl rfl rfl rfl rfl rfl ?_ | refine aops_pure tabOk rfl rfl (Nat.le_of_ble_eq_true rfl) rfl ?_ | refine aops_alloc tabOk rfl rfl rfl (Nat.le_of_ble_eq_true rfl) rfl rfl rfl rfl rfl rfl ?_ | refine aops_loadm tabOk rfl rfl rfl (Nat.le_of_ble_eq_true rfl) rfl rfl rfl rfl ?_ | refine aops_storem tabOk rfl rfl rfl rfl rfl rfl rfl rfl rfl rfl rfl ?_ | refine aops_index tabOk rfl rfl rfl (Nat.le_of_ble_eq_true rfl) rfl rfl rfl rfl (by first | assumption | omega) ?_ | refine aops_index0 tabOk rfl rfl rfl (Nat.le_of_ble_eq_true rfl) rfl rfl rfl rfl (by first | rfl | omega) (by first | omega | simp) ?_ | refine aops_load1 tabOk rfl rfl rfl (Nat.le_of_ble_eq_true rfl) rfl rfl rfl (by assumption) ?_ | refine aops_load1 tabOk rfl rfl rfl (Nat.le_of_ble_eq_true rfl) rfl rfl rfl (ivs_get _ _ (by first | assumption | omega)) ?_ | refine aops_inc rfl rfl rfl (Nat.le_of_ble_eq_true rfl) rfl rfl (by omega) ?_ | ((fail_if_success (refine aops_lit (b := true) rfl rfl rfl ?_)); (fail_if_success (refine aops_lit (b := false) rfl rfl rfl ?_)); refine aops_guard rfl rfl rfl (fun hq => ?_) (fun hq => ?_) <;> first | subst hq | (first | (simp only [decide_eq_true_eq, decide_eq_false_iff_not, beq_iff_eq, beq_eq_false_iff_ne, bne_iff_ne, bne_eq_false_iff_eq, Bool.not_eq_true', Bool.not_eq_false'] at hq; first | (exfalso; omega) | skip) | skip)) | fail) | (refine awp_one ?_; first | refine awp_sreg ?_ | refine awp_seq ?_ | refine awp_region ?_ | refine awp_block ?_ | refine awp_ret ?_ | refine awp_exit ?_ | refine awp_skip ?_ | refine awp_cond (b := true) rfl (fun _ => ?_) (fun h => Bool.noConfusion h) | refine awp_cond (b := false) rfl (fun h => Bool.noConfusion h) (fun _ => ?_) | refine awp_scope ?_ | refine awp_label ?_ | refine awp_sdraw mixed (by kernel_rfl) ?_ | refine awp_region_draw mixed (by kernel_rfl) ?_ | (refine awp_cond rfl (fun hq => ?_) (fun hq => ?_) <;> first | subst hq | (first | (simp only [decide_eq_true_eq, decide_eq_false_iff_not, beq_iff_eq, beq_eq_false_iff_ne, bne_iff_ne, bne_eq_false_iff_eq, Bool.not_eq_true', Bool.not_eq_false'] at hq; first | (exfalso; omega) | skip) | skip)) | fail) | (refine then_one ?_; first | refine q_then ?_ | refine q_then_exit ?_ | refine q_then_ret ?_ | fail) | (refine block_one ?_; first | refine q_block ?_ | refine q_block_exit ?_ | refine q_block_pass (by decide) ?_ | refine q_block_ret ?_ | fail) | refine feet_one (feetOk_of (by kernel_rfl)) ?_ | fail)
    all_goals first
      | exact aexit_plain (by first | exact .inl rfl | exact .inr rfl) (results_1 rfl (resOk_tmp rfl)) rfl
      | exact absurd rfl (by assumption)
      | exact absurd (h2 (by assumption) (by assumption)) (by assumption)
      | exact absurd (by assumption) hc
      | (exfalso; omega)
theorem MatchOrder_law (xs : List IV) (h : FitsAll [tyTree, tyTree, tyTree] xs) : ACalls Try.prog 5 (xs.map .imm) [] (.imm (.lit (.bool true))) [] := by
  cases h with
  | cons h1 h =>
    cases h with
    | cons h2 h =>
      cases h with
      | cons h3 h =>
        cases h
        obtain ⟨l, rfl, hl⟩ := fits_tree h1
        obtain ⟨m, rfl, hm⟩ := fits_tree h2
        obtain ⟨r, rfl, hr⟩ := fits_tree h3
        exact MatchOrder_a l m r hl hm hr
end Go.Proofs.Ytlbemgokilhdnaa.Ab
