/- Words, walks and laws under the claim's statement: what it uses of them. No condition of its own. -/
import Derived.Test.YtlbemgokilhdnaaPtL1
namespace Go.Proofs.Ytlbemgokilhdnaa.Ab
set_option linter.unusedVariables false
set_option linter.unusedSimpArgs false
open Go.RowKit
attribute [local irreducible] AWP AOps AExit AThen ABlock ANoGoto FeetOk
theorem sizes_take_succ (l : List Tree) (j : Nat) (h : j < l.length) : Tree.sizes (l.take (j + 1)) = Tree.sizes (l.take j) + l[j].size := by
  have app : ∀ a b : List Tree, Tree.sizes (a ++ b) = Tree.sizes a + Tree.sizes b := by
    intro a b
    induction a with
    | nil => simp [Tree.sizes]
    | cons x a ih => rw [List.cons_append, Tree.sizes, Tree.sizes, ih]; omega
  rw [List.take_succ_eq_append_getElem h, app]
  simp [Tree.sizes]
theorem sizes_take_le (l : List Tree) (j : Nat) : Tree.sizes (l.take j) ≤ Tree.sizes l := by
  induction l generalizing j with
  | nil => simp
  | cons x l ih =>
    cases j with
    | zero => simp [Tree.sizes]
    | succ j => rw [List.take_succ_cons, Tree.sizes, Tree.sizes]; have := ih j; omega
set_option maxHeartbeats 8000000 in
set_option maxRecDepth 10000 in
theorem within_a (t : Tree) : t.whole = true → ∀ left : Nat, t.size ≤ left → left ≤ 1000000 → ACalls Try.prog 96 [.imm t.iv, .imm (.lit (.int .i64 (left : Int)))] [] (.imm (.tup [.lit (.int .i64 ((left - t.size : Nat) : Int)), .lit (.int .i64 0)])) [] := by
  induction t using Tree.sind with
  | h t ih =>
    intro h left hs hle
    obtain ⟨k, n, a, b, kids, rfl⟩ := whole_node h
    have hsz : (Tree.node k n a b kids).size = 1 + Tree.sizes kids := rfl
    have hl : kids.length ≤ Tree.sizes kids := length_sizes kids h
    refine acalls_plain Try.func96 rfl rfl (Nat.le_of_ble_eq_true rfl) rfl ?_
    repeat' (first | refine aops_nil ?_ | (refine aops_one ?_; first | refine aops_quiet tabOk rfl rfl rfl (Nat.le_of_ble_eq_true rfl) rfl ?_ | refine aops_skip rfl rfl (Nat.le_of_ble_eq_true rfl) ?_ | (refine aops_cmp rfl rfl rfl (Nat.le_of_ble_eq_true rfl) rfl rfl rfl (fun hq => ?_) (fun hq => ?_) <;> (first | (simp only [decide_eq_true_eq, decide_eq_false_iff_not, beq_iff_eq, beq_eq_false_iff_ne, bne_iff_ne, bne_eq_false_iff_eq, Bool.not_eq_true', Bool.not_eq_false'] at hq; first | (exfalso; omega) | skip) | skip))| refine aops_sub (z := ((left - 1 : Nat) : Int)) rfl rfl rfl (Nat.le_of_ble_eq_true rfl) rfl rfl (by omega) (by omega) (by omega) ?_ | refine aops_inc rfl rfl rfl (Nat.le_of_ble_eq_true rfl) rfl rfl (by omega) ?_ | refine aops_add rfl rfl rfl (Nat.le_of_ble_eq_true rfl) rfl rfl rfl (by omega) (by omega) ?_ | refine aops_sub rfl rfl rfl (Nat.le_of_ble_eq_true rfl) rfl rfl rfl (by omega) (by omega) ?_ | refine aops_list tabOk rfl rfl rfl (Nat.le_of_ble_eq_true rfl) rfl rfl rfl rfl rfl rfl rfl rfl rfl ?_ | refine aops_pure tabOk rfl rfl (Nat.le_of_ble_eq_true rfl) rfl ?_ | refine aops_alloc tabOk rfl rfl rfl (Nat.le_of_ble_eq_true rfl) rfl rfl rfl rfl rfl rfl ?_ | refine aops_loadm tabOk rfl rfl rfl (Nat.le_of_ble_eq_true rfl) rfl rfl rfl rfl ?_ | refine aops_storem tabOk rfl rfl rfl rfl rfl rfl rfl rfl rfl rfl rfl ?_ | refine aops_index tabOk rfl rfl rfl (Nat.le_of_ble_eq_true rfl) rfl rfl rfl rfl (by first | assumption | omega) ?_ | refine aops_index0 tabOk rfl rfl rfl (Nat.le_of_ble_eq_true rfl) rfl rfl rfl rfl (by first | rfl | omega) (by first | omega | simp) ?_ | refine aops_load1 tabOk rfl rfl rfl (Nat.le_of_ble_eq_true rfl) rfl rfl rfl (by assumption) ?_ | refine aops_load1 tabOk rfl rfl rfl (Nat.le_of_ble_eq_true rfl) rfl rfl rfl (ivs_get _ _ (by first | assumption | omega)) ?_ | refine aops_inc rfl rfl rfl (Nat.le_of_ble_eq_true rfl) rfl rfl (by omega) ?_ | ((fail_if_success (refine aops_lit (b := true) rfl rfl rfl ?_)); (fail_if_success (refine aops_lit (b := false) rfl rfl rfl ?_)); refine aops_guard rfl rfl rfl (fun hq => ?_) (fun hq => ?_) <;> first | subst hq | (first | (simp only [decide_eq_true_eq, decide_eq_false_iff_not, beq_iff_eq, beq_eq_false_iff_ne, bne_iff_ne, bne_eq_false_iff_eq, Bool.not_eq_true', Bool.not_eq_false'] at hq; first | (exfalso; omega) | skip) | skip)) | fail) | (refine awp_one ?_; first | refine awp_sreg ?_ | refine awp_seq ?_ | refine awp_region ?_ | refine awp_block ?_ | refine awp_ret ?_ | refine awp_exit ?_ | refine awp_skip ?_ | refine awp_cond (b := true) rfl (fun _ => ?_) (fun h => Bool.noConfusion h) | refine awp_cond (b := false) rfl (fun h => Bool.noConfusion h) (fun _ => ?_) | refine awp_scope ?_ | refine awp_label ?_ | refine awp_sdraw mixed (by kernel_rfl) ?_ | refine awp_region_draw mixed (by kernel_rfl) ?_ | (refine awp_cond rfl (fun hq => ?_) (fun hq => ?_) <;> first | subst hq | (first | (simp only [decide_eq_true_eq, decide_eq_false_iff_not, beq_iff_eq, beq_eq_false_iff_ne, bne_iff_ne, bne_eq_false_iff_eq, Bool.not_eq_true', Bool.not_eq_false'] at hq; first | (exfalso; omega) | skip) | skip)) | fail) | (refine then_one ?_; first | refine q_then ?_ | refine q_then_exit ?_ | refine q_then_ret ?_ | fail) | (refine block_one ?_; first | refine q_block ?_ | refine q_block_exit ?_ | refine q_block_pass (by decide) ?_ | refine q_block_ret ?_ | fail) | refine feet_one (feetOk_of (by kernel_rfl)) ?_ | fail)
    all_goals first | (exfalso; omega) | skip
    refine awp_loop (ι := {j : Nat // j ≤ kids.length}) (fun j => S.f ⟨[(6, .imm (.lit (.int .i64 (j.1 : Int)))), (1, .imm (.lit (.int .i64 ((left - 1 - Tree.sizes (kids.take j.1) : Nat) : Int)))), (0, .imm (Tree.iv (.node k n a b kids)))], []⟩) (fun j => kids.length - j.1) ⟨0, Nat.zero_le _⟩ (le_of (by repeat' first | exact trivial | refine ⟨rfl, ?_⟩) (by repeat' first | exact trivial | refine ⟨rfl, ?_⟩)) ?_
    rintro ⟨j, hj⟩
    dsimp only
    by_cases hlt : j < kids.length
    · have hst := sizes_take_succ kids j hlt
      have htl := sizes_take_le kids (j + 1)
      have hmem := List.getElem_mem hlt
      have hiv := ivs_get kids j hlt
      have c1 := ih kids[j] (size_kid hmem) (wholes_mem h hmem) (left - 1 - Tree.sizes (kids.take j)) (by omega) (by omega)
      have e : left - 1 - Tree.sizes (kids.take j) - kids[j].size = left - 1 - Tree.sizes (kids.take (j + 1)) := by omega
      rw [e] at c1
      obtain ⟨k1, n1, a1, b1, ks1, e1⟩ := whole_node (wholes_mem h hmem)
      rw [e1] at hiv c1
      repeat' (first | refine aops_nil ?_ | (refine aops_one ?_; first | refine aops_quiet tabOk rfl rfl rfl (Nat.le_of_ble_eq_true rfl) rfl ?_ | refine aops_skip rfl rfl (Nat.le_of_ble_eq_true rfl) ?_ | (refine aops_cmp rfl rfl rfl (Nat.le_of_ble_eq_true rfl) rfl rfl rfl (fun hq => ?_) (fun hq => ?_) <;> (first | (simp only [decide_eq_true_eq, decide_eq_false_iff_not, beq_iff_eq, beq_eq_false_iff_ne, bne_iff_ne, bne_eq_false_iff_eq, Bool.not_eq_true', Bool.not_eq_false'] at hq; first | (exfalso; omega) | skip) | skip))| refine aops_load1 tabOk rfl rfl rfl (Nat.le_of_ble_eq_true rfl) rfl rfl rfl hiv ?_ | refine aops_call rfl rfl (Nat.le_of_ble_eq_true rfl) rfl rfl rfl rfl (c1) ?_ | refine aops_inc rfl rfl rfl (Nat.le_of_ble_eq_true rfl) rfl rfl (by omega) ?_ | refine aops_add rfl rfl rfl (Nat.le_of_ble_eq_true rfl) rfl rfl rfl (by omega) (by omega) ?_ | refine aops_sub rfl rfl rfl (Nat.le_of_ble_eq_true rfl) rfl rfl rfl (by omega) (by omega) ?_ | refine aops_list tabOk rfl rfl rfl (Nat.le_of_ble_eq_true rfl) rfl rfl rfl rfl rfl rfl rfl rfl rfl ?_ | refine aops_pure tabOk rfl rfl (Nat.le_of_ble_eq_true rfl) rfl ?_ | refine aops_alloc tabOk rfl rfl rfl (Nat.le_of_ble_eq_true rfl) rfl rfl rfl rfl rfl rfl ?_ | refine aops_loadm tabOk rfl rfl rfl (Nat.le_of_ble_eq_true rfl) rfl rfl rfl rfl ?_ | refine aops_storem tabOk rfl rfl rfl rfl rfl rfl rfl rfl rfl rfl rfl ?_ | refine aops_index tabOk rfl rfl rfl (Nat.le_of_ble_eq_true rfl) rfl rfl rfl rfl (by first | assumption | omega) ?_ | refine aops_index0 tabOk rfl rfl rfl (Nat.le_of_ble_eq_true rfl) rfl rfl rfl rfl (by first | rfl | omega) (by first | omega | simp) ?_ | refine aops_load1 tabOk rfl rfl rfl (Nat.le_of_ble_eq_true rfl) rfl rfl rfl (by assumption) ?_ | refine aops_load1 tabOk rfl rfl rfl (Nat.le_of_ble_eq_true rfl) rfl rfl rfl (ivs_get _ _ (by first | assumption | omega)) ?_ | refine aops_inc rfl rfl rfl (Nat.le_of_ble_eq_true rfl) rfl rfl (by omega) ?_ | ((fail_if_success (refine aops_lit (b := true) rfl rfl rfl ?_)); (fail_if_success (refine aops_lit (b := false) rfl rfl rfl ?_)); refine aops_guard rfl rfl rfl (fun hq => ?_) (fun hq => ?_) <;> first | subst hq | (first | (simp only [decide_eq_true_eq, decide_eq_false_iff_not, beq_iff_eq, beq_eq_false_iff_ne, bne_iff_ne, bne_eq_false_iff_eq, Bool.not_eq_true', Bool.not_eq_false'] at hq; first | (exfalso; omega) | skip) | skip)) | fail) | (refine awp_one ?_; first | refine awp_sreg ?_ | refine awp_seq ?_ | refine awp_region ?_ | refine awp_block ?_ | refine awp_ret ?_ | refine awp_exit ?_ | refine awp_skip ?_ | refine awp_cond (b := true) rfl (fun _ => ?_) (fun h => Bool.noConfusion h) | refine awp_cond (b := false) rfl (fun h => Bool.noConfusion h) (fun _ => ?_) | refine awp_scope ?_ | refine awp_label ?_ | refine awp_sdraw mixed (by kernel_rfl) ?_ | refine awp_region_draw mixed (by kernel_rfl) ?_ | (refine awp_cond rfl (fun hq => ?_) (fun hq => ?_) <;> first | subst hq | (first | (simp only [decide_eq_true_eq, decide_eq_false_iff_not, beq_iff_eq, beq_eq_false_iff_ne, bne_iff_ne, bne_eq_false_iff_eq, Bool.not_eq_true', Bool.not_eq_false'] at hq; first | (exfalso; omega) | skip) | skip)) | fail) | (refine then_one ?_; first | refine q_then ?_ | refine q_then_exit ?_ | refine q_then_ret ?_ | fail) | (refine block_one ?_; first | refine q_block ?_ | refine q_block_exit ?_ | refine q_block_pass (by decide) ?_ | refine q_block_ret ?_ | fail) | refine feet_one (feetOk_of (by kernel_rfl)) ?_ | fail)
      all_goals first
        | (exfalso; omega)
        | exact absurd rfl (by assumption)
        | exact ⟨⟨j + 1, hlt⟩, (by show kids.length - (j + 1) < kids.length - j; omega), (le_of (by repeat' first | exact trivial | refine ⟨rfl, ?_⟩) (by repeat' first | exact trivial | refine ⟨rfl, ?_⟩))⟩
    · have ej : j = kids.length := by omega
      subst ej
      rw [List.take_length]
      have e : left - (Tree.node k n a b kids).size = left - 1 - Tree.sizes kids := by omega
      rw [e]
      repeat' (first | refine aops_nil ?_ | (refine aops_one ?_; first | refine aops_quiet tabOk rfl rfl rfl (Nat.le_of_ble_eq_true rfl) rfl ?_ | refine aops_skip rfl rfl (Nat.le_of_ble_eq_true rfl) ?_ | (refine aops_cmp rfl rfl rfl (Nat.le_of_ble_eq_true rfl) rfl rfl rfl (fun hq => ?_) (fun hq => ?_) <;> (first | (simp only [decide_eq_true_eq, decide_eq_false_iff_not, beq_iff_eq, beq_eq_false_iff_ne, bne_iff_ne, bne_eq_false_iff_eq, Bool.not_eq_true', Bool.not_eq_false'] at hq; first | (exfalso; omega) | skip) | skip)) | refine aops_inc rfl rfl rfl (Nat.le_of_ble_eq_true rfl) rfl rfl (by omega) ?_ | refine aops_add rfl rfl rfl (Nat.le_of_ble_eq_true rfl) rfl rfl rfl (by omega) (by omega) ?_ | refine aops_sub rfl rfl rfl (Nat.le_of_ble_eq_true rfl) rfl rfl rfl (by omega) (by omega) ?_ | refine aops_list tabOk rfl rfl rfl (Nat.le_of_ble_eq_true rfl) rfl rfl rfl rfl rfl rfl rfl rfl rfl ?_ | refine aops_pure tabOk rfl rfl (Nat.le_of_ble_eq_true rfl) rfl ?_ | refine aops_alloc tabOk rfl rfl rfl (Nat.le_of_ble_eq_true rfl) rfl rfl rfl rfl rfl rfl ?_ | refine aops_loadm tabOk rfl rfl rfl (Nat.le_of_ble_eq_true rfl) rfl rfl rfl rfl ?_ | refine aops_storem tabOk rfl rfl rfl rfl rfl rfl rfl rfl rfl rfl rfl ?_ | refine aops_index tabOk rfl rfl rfl (Nat.le_of_ble_eq_true rfl) rfl rfl rfl rfl (by first | assumption | omega) ?_ | refine aops_index0 tabOk rfl rfl rfl (Nat.le_of_ble_eq_true rfl) rfl rfl rfl rfl (by first | rfl | omega) (by first | omega | simp) ?_ | refine aops_load1 tabOk rfl rfl rfl (Nat.le_of_ble_eq_true rfl) rfl rfl rfl (by assumption) ?_ | refine aops_load1 tabOk rfl rfl rfl (Nat.le_of_ble_eq_true rfl) rfl rfl rfl (ivs_get _ _ (by first | assumption | omega)) ?_ | refine aops_inc rfl rfl rfl (Nat.le_of_ble_eq_true rfl) rfl rfl (by omega) ?_ | ((fail_if_success (refine aops_lit (b := true) rfl rfl rfl ?_)); (fail_if_success (refine aops_lit (b := false) rfl rfl rfl ?_)); refine aops_guard rfl rfl rfl (fun hq => ?_) (fun hq => ?_) <;> first | subst hq | (first | (simp only [decide_eq_true_eq, decide_eq_false_iff_not, beq_iff_eq, beq_eq_false_iff_ne, bne_iff_ne, bne_eq_false_iff_eq, Bool.not_eq_true', Bool.not_eq_false'] at hq; first | (exfalso; omega) | skip) | skip)) | fail) | (refine awp_one ?_; first | refine awp_sreg ?_ | refine awp_seq ?_ | refine awp_region ?_ | refine awp_block ?_ | refine awp_ret ?_ | refine awp_exit ?_ | refine awp_skip ?_ | refine awp_cond (b := true) rfl (fun _ => ?_) (fun h => Bool.noConfusion h) | refine awp_cond (b := false) rfl (fun h => Bool.noConfusion h) (fun _ => ?_) | refine awp_scope ?_ | refine awp_label ?_ | refine awp_sdraw mixed (by kernel_rfl) ?_ | refine awp_region_draw mixed (by kernel_rfl) ?_ | (refine awp_cond rfl (fun hq => ?_) (fun hq => ?_) <;> first | subst hq | (first | (simp only [decide_eq_true_eq, decide_eq_false_iff_not, beq_iff_eq, beq_eq_false_iff_ne, bne_iff_ne, bne_eq_false_iff_eq, Bool.not_eq_true', Bool.not_eq_false'] at hq; first | (exfalso; omega) | skip) | skip)) | fail) | (refine then_one ?_; first | refine q_then ?_ | refine q_then_exit ?_ | refine q_then_ret ?_ | fail) | (refine block_one ?_; first | refine q_block ?_ | refine q_block_exit ?_ | refine q_block_pass (by decide) ?_ | refine q_block_ret ?_ | fail) | refine feet_one (feetOk_of (by kernel_rfl)) ?_ | fail)
      all_goals first
        | (exfalso; omega)
        | (refine aexit_eq (by first | exact .inl rfl | exact .inr rfl) (results_2 rfl (resOk_tmp rfl) (resOk_tmp rfl)) rfl ?_; rfl)
set_option maxHeartbeats 4000000 in
set_option maxRecDepth 10000 in
theorem within_nil (left : Int) : ACalls Try.prog 96 [.imm (Tree.iv .nil), .imm (.lit (.int .i64 left))] [] (.imm (.tup [.lit (.int .i64 left), .lit (.int .i64 1)])) [] := by
  refine acalls_plain Try.func96 rfl rfl (Nat.le_of_ble_eq_true rfl) rfl ?_
  repeat' (first | refine aops_nil ?_ | (refine aops_one ?_; first | refine aops_quiet tabOk rfl rfl rfl (Nat.le_of_ble_eq_true rfl) rfl ?_ | refine aops_skip rfl rfl (Nat.le_of_ble_eq_true rfl) ?_ | (refine aops_cmp rfl rfl rfl (Nat.le_of_ble_eq_true rfl) rfl rfl rfl (fun hq => ?_) (fun hq => ?_) <;> (first | (simp only [decide_eq_true_eq, decide_eq_false_iff_not, beq_iff_eq, beq_eq_false_iff_ne, bne_iff_ne, bne_eq_false_iff_eq, Bool.not_eq_true', Bool.not_eq_false'] at hq; first | (exfalso; omega) | skip) | skip)) | refine aops_inc rfl rfl rfl (Nat.le_of_ble_eq_true rfl) rfl rfl (by omega) ?_ | refine aops_add rfl rfl rfl (Nat.le_of_ble_eq_true rfl) rfl rfl rfl (by omega) (by omega) ?_ | refine aops_sub rfl rfl rfl (Nat.le_of_ble_eq_true rfl) rfl rfl rfl (by omega) (by omega) ?_ | refine aops_list tabOk rfl rfl rfl (Nat.le_of_ble_eq_true rfl) rfl rfl rfl rfl rfl rfl rfl rfl rfl ?_ | refine aops_pure tabOk rfl rfl (Nat.le_of_ble_eq_true rfl) rfl ?_ | refine aops_alloc tabOk rfl rfl rfl (Nat.le_of_ble_eq_true rfl) rfl rfl rfl rfl rfl rfl ?_ | refine aops_loadm tabOk rfl rfl rfl (Nat.le_of_ble_eq_true rfl) rfl rfl rfl rfl ?_ | refine aops_storem tabOk rfl rfl rfl rfl rfl rfl rfl rfl rfl rfl rfl ?_ | refine aops_index tabOk rfl rfl rfl (Nat.le_of_ble_eq_true rfl) rfl rfl rfl rfl (by first | assumption | omega) ?_ | refine aops_index0 tabOk rfl rfl rfl (Nat.le_of_ble_eq_true rfl) rfl rfl rfl rfl (by first | rfl | omega) (by first | omega | simp) ?_ | refine aops_load1 tabOk rfl rfl rfl (Nat.le_of_ble_eq_true rfl) rfl rfl rfl (by assumption) ?_ | refine aops_load1 tabOk rfl rfl rfl (Nat.le_of_ble_eq_true rfl) rfl rfl rfl (ivs_get _ _ (by first | assumption | omega)) ?_ | refine aops_inc rfl rfl rfl (Nat.le_of_ble_eq_true rfl) rfl rfl (by omega) ?_ | ((fail_if_success (refine aops_lit (b := true) rfl rfl rfl ?_)); (fail_if_success (refine aops_lit (b := false) rfl rfl rfl ?_)); refine aops_guard rfl rfl rfl (fun hq => ?_) (fun hq => ?_) <;> first | subst hq | (first | (simp only [decide_eq_true_eq, decide_eq_false_iff_not, beq_iff_eq, beq_eq_false_iff_ne, bne_iff_ne, bne_eq_false_iff_eq, Bool.not_eq_true', Bool.not_eq_false'] at hq; first | (exfalso; omega) | skip) | skip)) | fail) | (refine awp_one ?_; first | refine awp_sreg ?_ | refine awp_seq ?_ | refine awp_region ?_ | refine awp_block ?_ | refine awp_ret ?_ | refine awp_exit ?_ | refine awp_skip ?_ | refine awp_cond (b := true) rfl (fun _ => ?_) (fun h => Bool.noConfusion h) | refine awp_cond (b := false) rfl (fun h => Bool.noConfusion h) (fun _ => ?_) | refine awp_scope ?_ | refine awp_label ?_ | refine awp_sdraw mixed (by kernel_rfl) ?_ | refine awp_region_draw mixed (by kernel_rfl) ?_ | (refine awp_cond rfl (fun hq => ?_) (fun hq => ?_) <;> first | subst hq | (first | (simp only [decide_eq_true_eq, decide_eq_false_iff_not, beq_iff_eq, beq_eq_false_iff_ne, bne_iff_ne, bne_eq_false_iff_eq, Bool.not_eq_true', Bool.not_eq_false'] at hq; first | (exfalso; omega) | skip) | skip)) | fail) | (refine then_one ?_; first | refine q_then ?_ | refine q_then_exit ?_ | refine q_then_ret ?_ | fail) | (refine block_one ?_; first | refine q_block ?_ | refine q_block_exit ?_ | refine q_block_pass (by decide) ?_ | refine q_block_ret ?_ | fail) | refine feet_one (feetOk_of (by kernel_rfl)) ?_ | fail)
  all_goals (refine aexit_eq (by first | exact .inl rfl | exact .inr rfl) (results_2 rfl (resOk_tmp rfl) (resOk_tmp rfl)) rfl ?_; rfl)
set_option maxHeartbeats 4000000 in
set_option maxRecDepth 10000 in
theorem r10Check_nil : ACalls Try.prog 60 [.imm (Tree.iv .nil)] [] (.imm (.lit (.int .i64 1))) [] := by
  refine acalls_plain Try.func60 rfl rfl (Nat.le_of_ble_eq_true rfl) rfl ?_
  repeat' (first | refine aops_nil ?_ | (refine aops_one ?_; first | refine aops_quiet tabOk rfl rfl rfl (Nat.le_of_ble_eq_true rfl) rfl ?_ | refine aops_skip rfl rfl (Nat.le_of_ble_eq_true rfl) ?_ | (refine aops_cmp rfl rfl rfl (Nat.le_of_ble_eq_true rfl) rfl rfl rfl (fun hq => ?_) (fun hq => ?_) <;> (first | (simp only [decide_eq_true_eq, decide_eq_false_iff_not, beq_iff_eq, beq_eq_false_iff_ne, bne_iff_ne, bne_eq_false_iff_eq, Bool.not_eq_true', Bool.not_eq_false'] at hq; first | (exfalso; omega) | skip) | skip))| refine aops_call rfl rfl (Nat.le_of_ble_eq_true rfl) rfl rfl rfl rfl (within_nil 65536) ?_ | refine aops_inc rfl rfl rfl (Nat.le_of_ble_eq_true rfl) rfl rfl (by omega) ?_ | refine aops_add rfl rfl rfl (Nat.le_of_ble_eq_true rfl) rfl rfl rfl (by omega) (by omega) ?_ | refine aops_sub rfl rfl rfl (Nat.le_of_ble_eq_true rfl) rfl rfl rfl (by omega) (by omega) ?_ | refine aops_list tabOk rfl rfl rfl (Nat.le_of_ble_eq_true rfl) rfl rfl rfl rfl rfl rfl rfl rfl rfl ?_ | refine aops_pure tabOk rfl rfl (Nat.le_of_ble_eq_true rfl) rfl ?_ | refine aops_alloc tabOk rfl rfl rfl (Nat.le_of_ble_eq_true rfl) rfl rfl rfl rfl rfl rfl ?_ | refine aops_loadm tabOk rfl rfl rfl (Nat.le_of_ble_eq_true rfl) rfl rfl rfl rfl ?_ | refine aops_storem tabOk rfl rfl rfl rfl rfl rfl rfl rfl rfl rfl rfl ?_ | refine aops_index tabOk rfl rfl rfl (Nat.le_of_ble_eq_true rfl) rfl rfl rfl rfl (by first | assumption | omega) ?_ | refine aops_index0 tabOk rfl rfl rfl (Nat.le_of_ble_eq_true rfl) rfl rfl rfl rfl (by first | rfl | omega) (by first | omega | simp) ?_ | refine aops_load1 tabOk rfl rfl rfl (Nat.le_of_ble_eq_true rfl) rfl rfl rfl (by assumption) ?_ | refine aops_load1 tabOk rfl rfl rfl (Nat.le_of_ble_eq_true rfl) rfl rfl rfl (ivs_get _ _ (by first | assumption | omega)) ?_ | refine aops_inc rfl rfl rfl (Nat.le_of_ble_eq_true rfl) rfl rfl (by omega) ?_ | ((fail_if_success (refine aops_lit (b := true) rfl rfl rfl ?_)); (fail_if_success (refine aops_lit (b := false) rfl rfl rfl ?_)); refine aops_guard rfl rfl rfl (fun hq => ?_) (fun hq => ?_) <;> first | subst hq | (first | (simp only [decide_eq_true_eq, decide_eq_false_iff_not, beq_iff_eq, beq_eq_false_iff_ne, bne_iff_ne, bne_eq_false_iff_eq, Bool.not_eq_true', Bool.not_eq_false'] at hq; first | (exfalso; omega) | skip) | skip)) | fail) | (refine awp_one ?_; first | refine awp_sreg ?_ | refine awp_seq ?_ | refine awp_region ?_ | refine awp_block ?_ | refine awp_ret ?_ | refine awp_exit ?_ | refine awp_skip ?_ | refine awp_cond (b := true) rfl (fun _ => ?_) (fun h => Bool.noConfusion h) | refine awp_cond (b := false) rfl (fun h => Bool.noConfusion h) (fun _ => ?_) | refine awp_scope ?_ | refine awp_label ?_ | refine awp_sdraw mixed (by kernel_rfl) ?_ | refine awp_region_draw mixed (by kernel_rfl) ?_ | (refine awp_cond rfl (fun hq => ?_) (fun hq => ?_) <;> first | subst hq | (first | (simp only [decide_eq_true_eq, decide_eq_false_iff_not, beq_iff_eq, beq_eq_false_iff_ne, bne_iff_ne, bne_eq_false_iff_eq, Bool.not_eq_true', Bool.not_eq_false'] at hq; first | (exfalso; omega) | skip) | skip)) | fail) | (refine then_one ?_; first | refine q_then ?_ | refine q_then_exit ?_ | refine q_then_ret ?_ | fail) | (refine block_one ?_; first | refine q_block ?_ | refine q_block_exit ?_ | refine q_block_pass (by decide) ?_ | refine q_block_ret ?_ | fail) | refine feet_one (feetOk_of (by kernel_rfl)) ?_ | fail)
  all_goals first
    | exact aexit_plain (by first | exact .inl rfl | exact .inr rfl) (results_1 rfl (resOk_tmp rfl)) rfl
    | exact absurd rfl (by assumption)
set_option maxHeartbeats 4000000 in
set_option maxRecDepth 10000 in
theorem r10Check_a (t : Tree) (h : t.whole = true) (hs : t.size ≤ 65536) : ACalls Try.prog 60 [.imm t.iv] [] (.imm (.lit (.int .i64 (if isConP t = true then 0 else 16)))) [] := by
  have c1 := within_a t h 65536 hs (by omega)
  have c2 := rCon_a t h (by omega)
  cases hc : isConP t with
  | true =>
    rw [hc] at c2
    rw [if_pos rfl]
    refine acalls_plain Try.func60 rfl rfl (Nat.le_of_ble_eq_true rfl) rfl ?_
    repeat' (first | refine aops_nil ?_ | (refine aops_one ?_; first | refine aops_quiet tabOk rfl rfl rfl (Nat.le_of_ble_eq_true rfl) rfl ?_ | refine aops_skip rfl rfl (Nat.le_of_ble_eq_true rfl) ?_ | (refine aops_cmp rfl rfl rfl (Nat.le_of_ble_eq_true rfl) rfl rfl rfl (fun hq => ?_) (fun hq => ?_) <;> (first | (simp only [decide_eq_true_eq, decide_eq_false_iff_not, beq_iff_eq, beq_eq_false_iff_ne, bne_iff_ne, bne_eq_false_iff_eq, Bool.not_eq_true', Bool.not_eq_false'] at hq; first | (exfalso; omega) | skip) | skip))| refine aops_call rfl rfl (Nat.le_of_ble_eq_true rfl) rfl rfl rfl rfl (c1) ?_ | refine aops_call rfl rfl (Nat.le_of_ble_eq_true rfl) rfl rfl rfl rfl (c2) ?_ | refine aops_inc rfl rfl rfl (Nat.le_of_ble_eq_true rfl) rfl rfl (by omega) ?_ | refine aops_add rfl rfl rfl (Nat.le_of_ble_eq_true rfl) rfl rfl rfl (by omega) (by omega) ?_ | refine aops_sub rfl rfl rfl (Nat.le_of_ble_eq_true rfl) rfl rfl rfl (by omega) (by omega) ?_ | refine aops_list tabOk rfl rfl rfl (Nat.le_of_ble_eq_true rfl) rfl rfl rfl rfl rfl rfl rfl rfl rfl ?_ | refine aops_pure tabOk rfl rfl (Nat.le_of_ble_eq_true rfl) rfl ?_ | refine aops_alloc tabOk rfl rfl rfl (Nat.le_of_ble_eq_true rfl) rfl rfl rfl rfl rfl rfl ?_ | refine aops_loadm tabOk rfl rfl rfl (Nat.le_of_ble_eq_true rfl) rfl rfl rfl rfl ?_ | refine aops_storem tabOk rfl rfl rfl rfl rfl rfl rfl rfl rfl rfl rfl ?_ | refine aops_index tabOk rfl rfl rfl (Nat.le_of_ble_eq_true rfl) rfl rfl rfl rfl (by first | assumption | omega) ?_ | refine aops_index0 tabOk rfl rfl rfl (Nat.le_of_ble_eq_true rfl) rfl rfl rfl rfl (by first | rfl | omega) (by first | omega | simp) ?_ | refine aops_load1 tabOk rfl rfl rfl (Nat.le_of_ble_eq_true rfl) rfl rfl rfl (by assumption) ?_ | refine aops_load1 tabOk rfl rfl rfl (Nat.le_of_ble_eq_true rfl) rfl rfl rfl (ivs_get _ _ (by first | assumption | omega)) ?_ | refine aops_inc rfl rfl rfl (Nat.le_of_ble_eq_true rfl) rfl rfl (by omega) ?_ | ((fail_if_success (refine aops_lit (b := true) rfl rfl rfl ?_)); (fail_if_success (refine aops_lit (b := false) rfl rfl rfl ?_)); refine aops_guard rfl rfl rfl (fun hq => ?_) (fun hq => ?_) <;> first | subst hq | (first | (simp only [decide_eq_true_eq, decide_eq_false_iff_not, beq_iff_eq, beq_eq_false_iff_ne, bne_iff_ne, bne_eq_false_iff_eq, Bool.not_eq_true', Bool.not_eq_false'] at hq; first | (exfalso; omega) | skip) | skip)) | fail) | (refine awp_one ?_; first | refine awp_sreg ?_ | refine awp_seq ?_ | refine awp_region ?_ | refine awp_block ?_ | refine awp_ret ?_ | refine awp_exit ?_ | refine awp_skip ?_ | refine awp_cond (b := true) rfl (fun _ => ?_) (fun h => Bool.noConfusion h) | refine awp_cond (b := false) rfl (fun h => Bool.noConfusion h) (fun _ => ?_) | refine awp_scope ?_ | refine awp_label ?_ | refine awp_sdraw mixed (by kernel_rfl) ?_ | refine awp_region_draw mixed (by kernel_rfl) ?_ | (refine awp_cond rfl (fun hq => ?_) (fun hq => ?_) <;> first | subst hq | (first | (simp only [decide_eq_true_eq, decide_eq_false_iff_not, beq_iff_eq, beq_eq_false_iff_ne, bne_iff_ne, bne_eq_false_iff_eq, Bool.not_eq_true', Bool.not_eq_false'] at hq; first | (exfalso; omega) | skip) | skip)) | fail) | (refine then_one ?_; first | refine q_then ?_ | refine q_then_exit ?_ | refine q_then_ret ?_ | fail) | (refine block_one ?_; first | refine q_block ?_ | refine q_block_exit ?_ | refine q_block_pass (by decide) ?_ | refine q_block_ret ?_ | fail) | refine feet_one (feetOk_of (by kernel_rfl)) ?_ | fail)
    all_goals first
      | exact aexit_plain (by first | exact .inl rfl | exact .inr rfl) (results_1 rfl (resOk_tmp rfl)) rfl
      | exact absurd rfl (by assumption)
  | false =>
    rw [hc] at c2
    rw [if_neg (by simp)]
    refine acalls_plain Try.func60 rfl rfl (Nat.le_of_ble_eq_true rfl) rfl ?_
    repeat' (first | refine aops_nil ?_ | (refine aops_one ?_; first | refine aops_quiet tabOk rfl rfl rfl (Nat.le_of_ble_eq_true rfl) rfl ?_ | refine aops_skip rfl rfl (Nat.le_of_ble_eq_true rfl) ?_ | (refine aops_cmp rfl rfl rfl (Nat.le_of_ble_eq_true rfl) rfl rfl rfl (fun hq => ?_) (fun hq => ?_) <;> (first | (simp only [decide_eq_true_eq, decide_eq_false_iff_not, beq_iff_eq, beq_eq_false_iff_ne, bne_iff_ne, bne_eq_false_iff_eq, Bool.not_eq_true', Bool.not_eq_false'] at hq; first | (exfalso; omega) | skip) | skip))| refine aops_call rfl rfl (Nat.le_of_ble_eq_true rfl) rfl rfl rfl rfl (c1) ?_ | refine aops_call rfl rfl (Nat.le_of_ble_eq_true rfl) rfl rfl rfl rfl (c2) ?_ | refine aops_inc rfl rfl rfl (Nat.le_of_ble_eq_true rfl) rfl rfl (by omega) ?_ | refine aops_add rfl rfl rfl (Nat.le_of_ble_eq_true rfl) rfl rfl rfl (by omega) (by omega) ?_ | refine aops_sub rfl rfl rfl (Nat.le_of_ble_eq_true rfl) rfl rfl rfl (by omega) (by omega) ?_ | refine aops_list tabOk rfl rfl rfl (Nat.le_of_ble_eq_true rfl) rfl rfl rfl rfl rfl rfl rfl rfl rfl ?_ | refine aops_pure tabOk rfl rfl (Nat.le_of_ble_eq_true rfl) rfl ?_ | refine aops_alloc tabOk rfl rfl rfl (Nat.le_of_ble_eq_true rfl) rfl rfl rfl rfl rfl rfl ?_ | refine aops_loadm tabOk rfl rfl rfl (Nat.le_of_ble_eq_true rfl) rfl rfl rfl rfl ?_ | refine aops_storem tabOk rfl rfl rfl rfl rfl rfl rfl rfl rfl rfl rfl ?_ | refine aops_index tabOk rfl rfl rfl (Nat.le_of_ble_eq_true rfl) rfl rfl rfl rfl (by first | assumption | omega) ?_ | refine aops_index0 tabOk rfl rfl rfl (Nat.le_of_ble_eq_true rfl) rfl rfl rfl rfl (by first | rfl | omega) (by first | omega | simp) ?_ | refine aops_load1 tabOk rfl rfl rfl (Nat.le_of_ble_eq_true rfl) rfl rfl rfl (by assumption) ?_ | refine aops_load1 tabOk rfl rfl rfl (Nat.le_of_ble_eq_true rfl) rfl rfl rfl (ivs_get _ _ (by first | assumption | omega)) ?_ | refine aops_inc rfl rfl rfl (Nat.le_of_ble_eq_true rfl) rfl rfl (by omega) ?_ | ((fail_if_success (refine aops_lit (b := true) rfl rfl rfl ?_)); (fail_if_success (refine aops_lit (b := false) rfl rfl rfl ?_)); refine aops_guard rfl rfl rfl (fun hq => ?_) (fun hq => ?_) <;> first | subst hq | (first | (simp only [decide_eq_true_eq, decide_eq_false_iff_not, beq_iff_eq, beq_eq_false_iff_ne, bne_iff_ne, bne_eq_false_iff_eq, Bool.not_eq_true', Bool.not_eq_false'] at hq; first | (exfalso; omega) | skip) | skip)) | fail) | (refine awp_one ?_; first | refine awp_sreg ?_ | refine awp_seq ?_ | refine awp_region ?_ | refine awp_block ?_ | refine awp_ret ?_ | refine awp_exit ?_ | refine awp_skip ?_ | refine awp_cond (b := true) rfl (fun _ => ?_) (fun h => Bool.noConfusion h) | refine awp_cond (b := false) rfl (fun h => Bool.noConfusion h) (fun _ => ?_) | refine awp_scope ?_ | refine awp_label ?_ | refine awp_sdraw mixed (by kernel_rfl) ?_ | refine awp_region_draw mixed (by kernel_rfl) ?_ | (refine awp_cond rfl (fun hq => ?_) (fun hq => ?_) <;> first | subst hq | (first | (simp only [decide_eq_true_eq, decide_eq_false_iff_not, beq_iff_eq, beq_eq_false_iff_ne, bne_iff_ne, bne_eq_false_iff_eq, Bool.not_eq_true', Bool.not_eq_false'] at hq; first | (exfalso; omega) | skip) | skip)) | fail) | (refine then_one ?_; first | refine q_then ?_ | refine q_then_exit ?_ | refine q_then_ret ?_ | fail) | (refine block_one ?_; first | refine q_block ?_ | refine q_block_exit ?_ | refine q_block_pass (by decide) ?_ | refine q_block_ret ?_ | fail) | refine feet_one (feetOk_of (by kernel_rfl)) ?_ | fail)
    all_goals first
      | exact aexit_plain (by first | exact .inl rfl | exact .inr rfl) (results_1 rfl (resOk_tmp rfl)) rfl
      | exact absurd rfl (by assumption)
structure RowD where
  k : Int
  w : ByteArray
  f : Int
  t : Int
  lb : Bool
  ks : ByteArray
def rowIV (r : RowD) : List IV := [.lit (.int .i64 r.k), .lit (.string r.w), .lit (.int .i64 r.f), .lit (.int .i64 r.t), .lit (.bool r.lb), .lit (.string r.ks)]
def rowIVs : List RowD → List IV
  | [] => []
  | r :: l => rowIV r ++ rowIVs l
def rowsL : List RowD := [
  ⟨130, ⟨#[]⟩, 0, 65536, false, ⟨#[]⟩⟩, ⟨131, ⟨#[]⟩, -1073741824, 1073741824, false, ⟨#[]⟩⟩, ⟨132, ⟨#[]⟩, 0, 1, false, ⟨#[]⟩⟩, ⟨133, ⟨#[]⟩, 0, 0, false, ⟨#[]⟩⟩,
  ⟨134, ⟨#[108, 97, 109]⟩, 0, 0, false, ⟨#[99, 88]⟩⟩, ⟨135, ⟨#[97, 112, 112]⟩, 0, 0, false, ⟨#[120, 120]⟩⟩, ⟨136, ⟨#[114, 101, 99]⟩, 0, 0, false, ⟨#[102]⟩⟩, ⟨138, ⟨#[112, 114, 111, 106]⟩, 0, 0, true, ⟨#[120]⟩⟩,
  ⟨139, ⟨#[116, 108, 97, 109]⟩, 0, 0, false, ⟨#[107, 84]⟩⟩, ⟨140, ⟨#[116, 97, 112, 112]⟩, 0, 0, false, ⟨#[120, 99]⟩⟩, ⟨141, ⟨#[112, 97, 99, 107]⟩, 0, 0, false, ⟨#[99, 120, 99]⟩⟩, ⟨142, ⟨#[117, 110, 112, 97, 99, 107]⟩, 0, 0, false, ⟨#[120, 66]⟩⟩,
  ⟨143, ⟨#[108, 101, 116]⟩, 0, 0, false, ⟨#[120, 88]⟩⟩, ⟨144, ⟨#[105, 102]⟩, 0, 0, false, ⟨#[120, 120, 120]⟩⟩, ⟨145, ⟨#[111, 112]⟩, 1, 5, false, ⟨#[120, 120]⟩⟩, ⟨146, ⟨#[105, 110]⟩, 0, 0, true, ⟨#[99, 120]⟩⟩,
  ⟨147, ⟨#[99, 97, 115, 101]⟩, 0, 0, false, ⟨#[120, 97]⟩⟩, ⟨148, ⟨#[102, 111, 108, 100]⟩, 0, 0, false, ⟨#[120, 99, 97]⟩⟩]
set_option maxHeartbeats 8000000 in
set_option maxRecDepth 10000 in
theorem rows_a : ACalls Try.prog 122 [] [] (.imm (.sl true 18 (rowIVs rowsL))) [] := by
  refine acalls_plain Try.func122 rfl rfl (Nat.le_of_ble_eq_true rfl) rfl ?_
  repeat' (first | refine aops_nil ?_ | (refine aops_one ?_; first | refine aops_quiet tabOk rfl rfl rfl (Nat.le_of_ble_eq_true rfl) rfl ?_ | refine aops_skip rfl rfl (Nat.le_of_ble_eq_true rfl) ?_ | (refine aops_cmp rfl rfl rfl (Nat.le_of_ble_eq_true rfl) rfl rfl rfl (fun hq => ?_) (fun hq => ?_) <;> (first | (simp only [decide_eq_true_eq, decide_eq_false_iff_not, beq_iff_eq, beq_eq_false_iff_ne, bne_iff_ne, bne_eq_false_iff_eq, Bool.not_eq_true', Bool.not_eq_false'] at hq; first | (exfalso; omega) | skip) | skip))| refine aops_neg (z := -1073741824) rfl rfl rfl (Nat.le_of_ble_eq_true rfl) rfl (by decide) (by decide) (by decide) ?_ | refine aops_inc rfl rfl rfl (Nat.le_of_ble_eq_true rfl) rfl rfl (by omega) ?_ | refine aops_add rfl rfl rfl (Nat.le_of_ble_eq_true rfl) rfl rfl rfl (by omega) (by omega) ?_ | refine aops_sub rfl rfl rfl (Nat.le_of_ble_eq_true rfl) rfl rfl rfl (by omega) (by omega) ?_ | refine aops_list tabOk rfl rfl rfl (Nat.le_of_ble_eq_true rfl) rfl rfl rfl rfl rfl rfl rfl rfl rfl ?_ | refine aops_pure tabOk rfl rfl (Nat.le_of_ble_eq_true rfl) rfl ?_ | refine aops_alloc tabOk rfl rfl rfl (Nat.le_of_ble_eq_true rfl) rfl rfl rfl rfl rfl rfl ?_ | refine aops_loadm tabOk rfl rfl rfl (Nat.le_of_ble_eq_true rfl) rfl rfl rfl rfl ?_ | refine aops_storem tabOk rfl rfl rfl rfl rfl rfl rfl rfl rfl rfl rfl ?_ | refine aops_index tabOk rfl rfl rfl (Nat.le_of_ble_eq_true rfl) rfl rfl rfl rfl (by first | assumption | omega) ?_ | refine aops_index0 tabOk rfl rfl rfl (Nat.le_of_ble_eq_true rfl) rfl rfl rfl rfl (by first | rfl | omega) (by first | omega | simp) ?_ | refine aops_load1 tabOk rfl rfl rfl (Nat.le_of_ble_eq_true rfl) rfl rfl rfl (by assumption) ?_ | refine aops_load1 tabOk rfl rfl rfl (Nat.le_of_ble_eq_true rfl) rfl rfl rfl (ivs_get _ _ (by first | assumption | omega)) ?_ | refine aops_inc rfl rfl rfl (Nat.le_of_ble_eq_true rfl) rfl rfl (by omega) ?_ | ((fail_if_success (refine aops_lit (b := true) rfl rfl rfl ?_)); (fail_if_success (refine aops_lit (b := false) rfl rfl rfl ?_)); refine aops_guard rfl rfl rfl (fun hq => ?_) (fun hq => ?_) <;> first | subst hq | (first | (simp only [decide_eq_true_eq, decide_eq_false_iff_not, beq_iff_eq, beq_eq_false_iff_ne, bne_iff_ne, bne_eq_false_iff_eq, Bool.not_eq_true', Bool.not_eq_false'] at hq; first | (exfalso; omega) | skip) | skip)) | fail) | (refine awp_one ?_; first | refine awp_sreg ?_ | refine awp_seq ?_ | refine awp_region ?_ | refine awp_block ?_ | refine awp_ret ?_ | refine awp_exit ?_ | refine awp_skip ?_ | refine awp_cond (b := true) rfl (fun _ => ?_) (fun h => Bool.noConfusion h) | refine awp_cond (b := false) rfl (fun h => Bool.noConfusion h) (fun _ => ?_) | refine awp_scope ?_ | refine awp_label ?_ | refine awp_sdraw mixed (by kernel_rfl) ?_ | refine awp_region_draw mixed (by kernel_rfl) ?_ | (refine awp_cond rfl (fun hq => ?_) (fun hq => ?_) <;> first | subst hq | (first | (simp only [decide_eq_true_eq, decide_eq_false_iff_not, beq_iff_eq, beq_eq_false_iff_ne, bne_iff_ne, bne_eq_false_iff_eq, Bool.not_eq_true', Bool.not_eq_false'] at hq; first | (exfalso; omega) | skip) | skip)) | fail) | (refine then_one ?_; first | refine q_then ?_ | refine q_then_exit ?_ | refine q_then_ret ?_ | fail) | (refine block_one ?_; first | refine q_block ?_ | refine q_block_exit ?_ | refine q_block_pass (by decide) ?_ | refine q_block_ret ?_ | fail) | refine feet_one (feetOk_of (by kernel_rfl)) ?_ | fail)
  all_goals (refine aexit_eq (by first | exact .inl rfl | exact .inr rfl) (results_1 rfl (resOk_tmp rfl)) rfl ?_; rfl)
theorem rowIVs_get : ∀ (l : List RowD) (j : Nat) (h : j < l.length), ((rowIVs l).drop (j * 6)).take 6 = rowIV l[j]
  | r :: l, 0, h => by rw [Nat.zero_mul, List.drop_zero, rowIVs, List.take_append_of_le_length (by simp [rowIV])]; rfl
  | r :: l, j + 1, h => by
    have e : (j + 1) * 6 = 6 + j * 6 := by omega
    have e6 : (rowIV r).length = 6 := rfl
    rw [e, ← List.drop_drop, rowIVs]
    conv => lhs; rw [← e6, List.drop_left]
    rw [e6, rowIVs_get l j (by simpa using h)]
    rfl
theorem rowIVs_at (l : List RowD) (j i : Nat) (h : j < l.length) (hi : i < 6) : (rowIVs l)[j * 6 + i]? = (rowIV l[j])[i]? := by
  rw [← rowIVs_get l j h, List.getElem?_take, if_pos hi, List.getElem?_drop]
def zeroRow : RowD := ⟨0, ⟨#[]⟩, 0, 0, false, ⟨#[]⟩⟩
def formP (k : Int) : RowD × Bool := match rowsL.find? (fun r => r.k == k) with
  | some r => (r, true)
  | none => (zeroRow, false)
theorem find_step {l : List RowD} {p : RowD → Bool} {j : Nat} (h : j < l.length) (h1 : ∀ q (hq : q < l.length), q < j → p l[q] = false) (h2 : p l[j] = true) : l.find? p = some l[j] := by
  rw [List.find?_eq_some_iff_getElem]
  exact ⟨h2, j, h, rfl, fun q hq => by have := h1 q (by omega) hq; simpa using this⟩
theorem find_none {l : List RowD} {p : RowD → Bool} (h1 : ∀ q (hq : q < l.length), p l[q] = false) : l.find? p = none := by
  rw [List.find?_eq_none]
  intro x hx
  obtain ⟨i, hi, rfl⟩ := List.getElem_of_mem hx
  rw [h1 i hi]; simp
set_option maxHeartbeats 8000000 in
set_option maxRecDepth 10000 in
theorem form_a (k : Int) : ACalls Try.prog 98 [.imm (.lit (.int .i64 k))] [] (.imm (.tup [.agg (rowIV (formP k).1), .lit (.bool (formP k).2)])) [] := by
  have c1 := rows_a
  have hlen : rowsL.length = 18 := rfl
  have hyes : ∀ j (hj : j < rowsL.length), (∀ q (hq : q < rowsL.length), q < j → (rowsL[q].k == k) = false) → (rowsL[j].k == k) = true → formP k = (rowsL[j], true) := fun j hj h1 h2 => by
    unfold formP; rw [find_step (p := fun r => r.k == k) hj h1 h2]
  have hno : (∀ q (hq : q < rowsL.length), (rowsL[q].k == k) = false) → formP k = (zeroRow, false) := fun h => by
    unfold formP; rw [find_none (p := fun r => r.k == k) h]
  rw [← hlen] at c1
  generalize formP k = R at *
  generalize rowsL = l at *
  refine acalls_plain Try.func98 rfl rfl (Nat.le_of_ble_eq_true rfl) rfl ?_
  repeat' (first | refine aops_nil ?_ | (refine aops_one ?_; first | refine aops_quiet tabOk rfl rfl rfl (Nat.le_of_ble_eq_true rfl) rfl ?_ | refine aops_skip rfl rfl (Nat.le_of_ble_eq_true rfl) ?_ | (refine aops_cmp rfl rfl rfl (Nat.le_of_ble_eq_true rfl) rfl rfl rfl (fun hq => ?_) (fun hq => ?_) <;> (first | (simp only [decide_eq_true_eq, decide_eq_false_iff_not, beq_iff_eq, beq_eq_false_iff_ne, bne_iff_ne, bne_eq_false_iff_eq, Bool.not_eq_true', Bool.not_eq_false'] at hq; first | (exfalso; omega) | skip) | skip))| refine aops_call rfl rfl (Nat.le_of_ble_eq_true rfl) rfl rfl rfl rfl (c1) ?_ | refine aops_inc rfl rfl rfl (Nat.le_of_ble_eq_true rfl) rfl rfl (by omega) ?_ | refine aops_add rfl rfl rfl (Nat.le_of_ble_eq_true rfl) rfl rfl rfl (by omega) (by omega) ?_ | refine aops_sub rfl rfl rfl (Nat.le_of_ble_eq_true rfl) rfl rfl rfl (by omega) (by omega) ?_ | refine aops_list tabOk rfl rfl rfl (Nat.le_of_ble_eq_true rfl) rfl rfl rfl rfl rfl rfl rfl rfl rfl ?_ | refine aops_pure tabOk rfl rfl (Nat.le_of_ble_eq_true rfl) rfl ?_ | refine aops_alloc tabOk rfl rfl rfl (Nat.le_of_ble_eq_true rfl) rfl rfl rfl rfl rfl rfl ?_ | refine aops_loadm tabOk rfl rfl rfl (Nat.le_of_ble_eq_true rfl) rfl rfl rfl rfl ?_ | refine aops_storem tabOk rfl rfl rfl rfl rfl rfl rfl rfl rfl rfl rfl ?_ | refine aops_index tabOk rfl rfl rfl (Nat.le_of_ble_eq_true rfl) rfl rfl rfl rfl (by first | assumption | omega) ?_ | refine aops_index0 tabOk rfl rfl rfl (Nat.le_of_ble_eq_true rfl) rfl rfl rfl rfl (by first | rfl | omega) (by first | omega | simp) ?_ | refine aops_load1 tabOk rfl rfl rfl (Nat.le_of_ble_eq_true rfl) rfl rfl rfl (by assumption) ?_ | refine aops_load1 tabOk rfl rfl rfl (Nat.le_of_ble_eq_true rfl) rfl rfl rfl (ivs_get _ _ (by first | assumption | omega)) ?_ | refine aops_inc rfl rfl rfl (Nat.le_of_ble_eq_true rfl) rfl rfl (by omega) ?_ | ((fail_if_success (refine aops_lit (b := true) rfl rfl rfl ?_)); (fail_if_success (refine aops_lit (b := false) rfl rfl rfl ?_)); refine aops_guard rfl rfl rfl (fun hq => ?_) (fun hq => ?_) <;> first | subst hq | (first | (simp only [decide_eq_true_eq, decide_eq_false_iff_not, beq_iff_eq, beq_eq_false_iff_ne, bne_iff_ne, bne_eq_false_iff_eq, Bool.not_eq_true', Bool.not_eq_false'] at hq; first | (exfalso; omega) | skip) | skip)) | fail) | (refine awp_one ?_; first | refine awp_sreg ?_ | refine awp_seq ?_ | refine awp_region ?_ | refine awp_block ?_ | refine awp_ret ?_ | refine awp_exit ?_ | refine awp_skip ?_ | refine awp_cond (b := true) rfl (fun _ => ?_) (fun h => Bool.noConfusion h) | refine awp_cond (b := false) rfl (fun h => Bool.noConfusion h) (fun _ => ?_) | refine awp_scope ?_ | refine awp_label ?_ | refine awp_sdraw mixed (by kernel_rfl) ?_ | refine awp_region_draw mixed (by kernel_rfl) ?_ | (refine awp_cond rfl (fun hq => ?_) (fun hq => ?_) <;> first | subst hq | (first | (simp only [decide_eq_true_eq, decide_eq_false_iff_not, beq_iff_eq, beq_eq_false_iff_ne, bne_iff_ne, bne_eq_false_iff_eq, Bool.not_eq_true', Bool.not_eq_false'] at hq; first | (exfalso; omega) | skip) | skip)) | fail) | (refine then_one ?_; first | refine q_then ?_ | refine q_then_exit ?_ | refine q_then_ret ?_ | fail) | (refine block_one ?_; first | refine q_block ?_ | refine q_block_exit ?_ | refine q_block_pass (by decide) ?_ | refine q_block_ret ?_ | fail) | refine feet_one (feetOk_of (by kernel_rfl)) ?_ | fail)
  refine awp_loop (ι := {j : Nat // j ≤ l.length ∧ ∀ q (hq : q < l.length), q < j → (l[q].k == k) = false}) (fun j => S.f ⟨[(5, .imm (.lit (.int .i64 (j.1 : Int)))), (4, .imm (.sl true l.length (rowIVs l))), (2, .obj 2 0), (0, .imm (.lit (.int .i64 k)))], [(2, .cells [.imm (.lit (.int .i64 0)), .imm (.lit (.string ⟨#[]⟩)), .imm (.lit (.int .i64 0)), .imm (.lit (.int .i64 0)), .imm (.lit (.bool false)), .imm (.lit (.string ⟨#[]⟩))])]⟩) (fun j => l.length - j.1) ⟨0, Nat.zero_le _, fun q h h2 => by omega⟩ (le_of (by repeat' first | exact trivial | refine ⟨rfl, ?_⟩) (by repeat' first | exact trivial | refine ⟨rfl, ?_⟩)) ?_
  rintro ⟨j, hj, hpr⟩
  dsimp only
  by_cases hlt : j < l.length
  · have hk0 : (rowIVs l)[j * 6 + 0]? = some (.lit (.int .i64 l[j].k)) := by rw [rowIVs_at l j 0 hlt (by omega)]; rfl
    have hrow := rowIVs_get l j hlt
    cases hk : (l[j].k == k) with
    | true =>
      have e := hyes j hlt hpr hk
      subst e
      have hk := beq_iff_eq.1 hk
      repeat' (first | refine aops_nil ?_ | (refine aops_one ?_; first | refine aops_quiet tabOk rfl rfl rfl (Nat.le_of_ble_eq_true rfl) rfl ?_ | refine aops_skip rfl rfl (Nat.le_of_ble_eq_true rfl) ?_ | (refine aops_cmp rfl rfl rfl (Nat.le_of_ble_eq_true rfl) rfl rfl rfl (fun hq => ?_) (fun hq => ?_) <;> (first | (simp only [decide_eq_true_eq, decide_eq_false_iff_not, beq_iff_eq, beq_eq_false_iff_ne, bne_iff_ne, bne_eq_false_iff_eq, Bool.not_eq_true', Bool.not_eq_false'] at hq; first | (exfalso; omega) | skip) | skip))| refine aops_load1 tabOk rfl rfl rfl (Nat.le_of_ble_eq_true rfl) rfl rfl rfl hk0 ?_ | refine aops_loadr tabOk rfl rfl rfl (Nat.le_of_ble_eq_true rfl) rfl rfl rfl hrow rfl ?_ | refine aops_inc rfl rfl rfl (Nat.le_of_ble_eq_true rfl) rfl rfl (by omega) ?_ | refine aops_add rfl rfl rfl (Nat.le_of_ble_eq_true rfl) rfl rfl rfl (by omega) (by omega) ?_ | refine aops_sub rfl rfl rfl (Nat.le_of_ble_eq_true rfl) rfl rfl rfl (by omega) (by omega) ?_ | refine aops_list tabOk rfl rfl rfl (Nat.le_of_ble_eq_true rfl) rfl rfl rfl rfl rfl rfl rfl rfl rfl ?_ | refine aops_pure tabOk rfl rfl (Nat.le_of_ble_eq_true rfl) rfl ?_ | refine aops_alloc tabOk rfl rfl rfl (Nat.le_of_ble_eq_true rfl) rfl rfl rfl rfl rfl rfl ?_ | refine aops_loadm tabOk rfl rfl rfl (Nat.le_of_ble_eq_true rfl) rfl rfl rfl rfl ?_ | refine aops_storem tabOk rfl rfl rfl rfl rfl rfl rfl rfl rfl rfl rfl ?_ | refine aops_index tabOk rfl rfl rfl (Nat.le_of_ble_eq_true rfl) rfl rfl rfl rfl (by first | assumption | omega) ?_ | refine aops_index0 tabOk rfl rfl rfl (Nat.le_of_ble_eq_true rfl) rfl rfl rfl rfl (by first | rfl | omega) (by first | omega | simp) ?_ | refine aops_load1 tabOk rfl rfl rfl (Nat.le_of_ble_eq_true rfl) rfl rfl rfl (by assumption) ?_ | refine aops_load1 tabOk rfl rfl rfl (Nat.le_of_ble_eq_true rfl) rfl rfl rfl (ivs_get _ _ (by first | assumption | omega)) ?_ | refine aops_inc rfl rfl rfl (Nat.le_of_ble_eq_true rfl) rfl rfl (by omega) ?_ | ((fail_if_success (refine aops_lit (b := true) rfl rfl rfl ?_)); (fail_if_success (refine aops_lit (b := false) rfl rfl rfl ?_)); refine aops_guard rfl rfl rfl (fun hq => ?_) (fun hq => ?_) <;> first | subst hq | (first | (simp only [decide_eq_true_eq, decide_eq_false_iff_not, beq_iff_eq, beq_eq_false_iff_ne, bne_iff_ne, bne_eq_false_iff_eq, Bool.not_eq_true', Bool.not_eq_false'] at hq; first | (exfalso; omega) | skip) | skip)) | fail) | (refine awp_one ?_; first | refine awp_sreg ?_ | refine awp_seq ?_ | refine awp_region ?_ | refine awp_block ?_ | refine awp_ret ?_ | refine awp_exit ?_ | refine awp_skip ?_ | refine awp_cond (b := true) rfl (fun _ => ?_) (fun h => Bool.noConfusion h) | refine awp_cond (b := false) rfl (fun h => Bool.noConfusion h) (fun _ => ?_) | refine awp_scope ?_ | refine awp_label ?_ | refine awp_sdraw mixed (by kernel_rfl) ?_ | refine awp_region_draw mixed (by kernel_rfl) ?_ | (refine awp_cond rfl (fun hq => ?_) (fun hq => ?_) <;> first | subst hq | (first | (simp only [decide_eq_true_eq, decide_eq_false_iff_not, beq_iff_eq, beq_eq_false_iff_ne, bne_iff_ne, bne_eq_false_iff_eq, Bool.not_eq_true', Bool.not_eq_false'] at hq; first | (exfalso; omega) | skip) | skip)) | fail) | (refine then_one ?_; first | refine q_then ?_ | refine q_then_exit ?_ | refine q_then_ret ?_ | fail) | (refine block_one ?_; first | refine q_block ?_ | refine q_block_exit ?_ | refine q_block_pass (by decide) ?_ | refine q_block_ret ?_ | fail) | refine feet_one (feetOk_of (by kernel_rfl)) ?_ | fail)
      all_goals first
        | (exfalso; omega)
        | exact absurd hk (by assumption)
        | (refine aexit_eq (by first | exact .inl rfl | exact .inr rfl) (results_2 rfl (resOk_cells rfl rfl (tabOk _ _ rfl).1 rfl rfl) (resOk_tmp rfl)) rfl ?_; rfl)
    | false =>
      have hpr2 : ∀ q (hq : q < l.length), q < j + 1 → (l[q].k == k) = false := fun q hq h2 => by
        rcases Nat.lt_or_ge q j with h3 | h3
        · exact hpr q hq h3
        · have e : q = j := by omega
          subst e
          exact hk
      have hk := beq_eq_false_iff_ne.1 hk
      repeat' (first | refine aops_nil ?_ | (refine aops_one ?_; first | refine aops_quiet tabOk rfl rfl rfl (Nat.le_of_ble_eq_true rfl) rfl ?_ | refine aops_skip rfl rfl (Nat.le_of_ble_eq_true rfl) ?_ | (refine aops_cmp rfl rfl rfl (Nat.le_of_ble_eq_true rfl) rfl rfl rfl (fun hq => ?_) (fun hq => ?_) <;> (first | (simp only [decide_eq_true_eq, decide_eq_false_iff_not, beq_iff_eq, beq_eq_false_iff_ne, bne_iff_ne, bne_eq_false_iff_eq, Bool.not_eq_true', Bool.not_eq_false'] at hq; first | (exfalso; omega) | skip) | skip))| refine aops_load1 tabOk rfl rfl rfl (Nat.le_of_ble_eq_true rfl) rfl rfl rfl hk0 ?_ | refine aops_inc rfl rfl rfl (Nat.le_of_ble_eq_true rfl) rfl rfl (by omega) ?_ | refine aops_add rfl rfl rfl (Nat.le_of_ble_eq_true rfl) rfl rfl rfl (by omega) (by omega) ?_ | refine aops_sub rfl rfl rfl (Nat.le_of_ble_eq_true rfl) rfl rfl rfl (by omega) (by omega) ?_ | refine aops_list tabOk rfl rfl rfl (Nat.le_of_ble_eq_true rfl) rfl rfl rfl rfl rfl rfl rfl rfl rfl ?_ | refine aops_pure tabOk rfl rfl (Nat.le_of_ble_eq_true rfl) rfl ?_ | refine aops_alloc tabOk rfl rfl rfl (Nat.le_of_ble_eq_true rfl) rfl rfl rfl rfl rfl rfl ?_ | refine aops_loadm tabOk rfl rfl rfl (Nat.le_of_ble_eq_true rfl) rfl rfl rfl rfl ?_ | refine aops_storem tabOk rfl rfl rfl rfl rfl rfl rfl rfl rfl rfl rfl ?_ | refine aops_index tabOk rfl rfl rfl (Nat.le_of_ble_eq_true rfl) rfl rfl rfl rfl (by first | assumption | omega) ?_ | refine aops_index0 tabOk rfl rfl rfl (Nat.le_of_ble_eq_true rfl) rfl rfl rfl rfl (by first | rfl | omega) (by first | omega | simp) ?_ | refine aops_load1 tabOk rfl rfl rfl (Nat.le_of_ble_eq_true rfl) rfl rfl rfl (by assumption) ?_ | refine aops_load1 tabOk rfl rfl rfl (Nat.le_of_ble_eq_true rfl) rfl rfl rfl (ivs_get _ _ (by first | assumption | omega)) ?_ | refine aops_inc rfl rfl rfl (Nat.le_of_ble_eq_true rfl) rfl rfl (by omega) ?_ | ((fail_if_success (refine aops_lit (b := true) rfl rfl rfl ?_)); (fail_if_success (refine aops_lit (b := false) rfl rfl rfl ?_)); refine aops_guard rfl rfl rfl (fun hq => ?_) (fun hq => ?_) <;> first | subst hq | (first | (simp only [decide_eq_true_eq, decide_eq_false_iff_not, beq_iff_eq, beq_eq_false_iff_ne, bne_iff_ne, bne_eq_false_iff_eq, Bool.not_eq_true', Bool.not_eq_false'] at hq; first | (exfalso; omega) | skip) | skip)) | fail) | (refine awp_one ?_; first | refine awp_sreg ?_ | refine awp_seq ?_ | refine awp_region ?_ | refine awp_block ?_ | refine awp_ret ?_ | refine awp_exit ?_ | refine awp_skip ?_ | refine awp_cond (b := true) rfl (fun _ => ?_) (fun h => Bool.noConfusion h) | refine awp_cond (b := false) rfl (fun h => Bool.noConfusion h) (fun _ => ?_) | refine awp_scope ?_ | refine awp_label ?_ | refine awp_sdraw mixed (by kernel_rfl) ?_ | refine awp_region_draw mixed (by kernel_rfl) ?_ | (refine awp_cond rfl (fun hq => ?_) (fun hq => ?_) <;> first | subst hq | (first | (simp only [decide_eq_true_eq, decide_eq_false_iff_not, beq_iff_eq, beq_eq_false_iff_ne, bne_iff_ne, bne_eq_false_iff_eq, Bool.not_eq_true', Bool.not_eq_false'] at hq; first | (exfalso; omega) | skip) | skip)) | fail) | (refine then_one ?_; first | refine q_then ?_ | refine q_then_exit ?_ | refine q_then_ret ?_ | fail) | (refine block_one ?_; first | refine q_block ?_ | refine q_block_exit ?_ | refine q_block_pass (by decide) ?_ | refine q_block_ret ?_ | fail) | refine feet_one (feetOk_of (by kernel_rfl)) ?_ | fail)
      all_goals first
        | (exfalso; omega)
        | exact absurd (by assumption) hk
        | exact ⟨⟨j + 1, hlt, hpr2⟩, (by show l.length - (j + 1) < l.length - j; omega), (le_of (by repeat' first | exact trivial | refine ⟨rfl, ?_⟩) (by repeat' first | exact trivial | refine ⟨rfl, ?_⟩))⟩
  · have e := hno (fun q hq => hpr q hq (by omega))
    subst e
    repeat' (first | refine aops_nil ?_ | (refine aops_one ?_; first | refine aops_quiet tabOk rfl rfl rfl (Nat.le_of_ble_eq_true rfl) rfl ?_ | refine aops_skip rfl rfl (Nat.le_of_ble_eq_true rfl) ?_ | (refine aops_cmp rfl rfl rfl (Nat.le_of_ble_eq_true rfl) rfl rfl rfl (fun hq => ?_) (fun hq => ?_) <;> (first | (simp only [decide_eq_true_eq, decide_eq_false_iff_not, beq_iff_eq, beq_eq_false_iff_ne, bne_iff_ne, bne_eq_false_iff_eq, Bool.not_eq_true', Bool.not_eq_false'] at hq; first | (exfalso; omega) | skip) | skip)) | refine aops_inc rfl rfl rfl (Nat.le_of_ble_eq_true rfl) rfl rfl (by omega) ?_ | refine aops_add rfl rfl rfl (Nat.le_of_ble_eq_true rfl) rfl rfl rfl (by omega) (by omega) ?_ | refine aops_sub rfl rfl rfl (Nat.le_of_ble_eq_true rfl) rfl rfl rfl (by omega) (by omega) ?_ | refine aops_list tabOk rfl rfl rfl (Nat.le_of_ble_eq_true rfl) rfl rfl rfl rfl rfl rfl rfl rfl rfl ?_ | refine aops_pure tabOk rfl rfl (Nat.le_of_ble_eq_true rfl) rfl ?_ | refine aops_alloc tabOk rfl rfl rfl (Nat.le_of_ble_eq_true rfl) rfl rfl rfl rfl rfl rfl ?_ | refine aops_loadm tabOk rfl rfl rfl (Nat.le_of_ble_eq_true rfl) rfl rfl rfl rfl ?_ | refine aops_storem tabOk rfl rfl rfl rfl rfl rfl rfl rfl rfl rfl rfl ?_ | refine aops_index tabOk rfl rfl rfl (Nat.le_of_ble_eq_true rfl) rfl rfl rfl rfl (by first | assumption | omega) ?_ | refine aops_index0 tabOk rfl rfl rfl (Nat.le_of_ble_eq_true rfl) rfl rfl rfl rfl (by first | rfl | omega) (by first | omega | simp) ?_ | refine aops_load1 tabOk rfl rfl rfl (Nat.le_of_ble_eq_true rfl) rfl rfl rfl (by assumption) ?_ | refine aops_load1 tabOk rfl rfl rfl (Nat.le_of_ble_eq_true rfl) rfl rfl rfl (ivs_get _ _ (by first | assumption | omega)) ?_ | refine aops_inc rfl rfl rfl (Nat.le_of_ble_eq_true rfl) rfl rfl (by omega) ?_ | ((fail_if_success (refine aops_lit (b := true) rfl rfl rfl ?_)); (fail_if_success (refine aops_lit (b := false) rfl rfl rfl ?_)); refine aops_guard rfl rfl rfl (fun hq => ?_) (fun hq => ?_) <;> first | subst hq | (first | (simp only [decide_eq_true_eq, decide_eq_false_iff_not, beq_iff_eq, beq_eq_false_iff_ne, bne_iff_ne, bne_eq_false_iff_eq, Bool.not_eq_true', Bool.not_eq_false'] at hq; first | (exfalso; omega) | skip) | skip)) | fail) | (refine awp_one ?_; first | refine awp_sreg ?_ | refine awp_seq ?_ | refine awp_region ?_ | refine awp_block ?_ | refine awp_ret ?_ | refine awp_exit ?_ | refine awp_skip ?_ | refine awp_cond (b := true) rfl (fun _ => ?_) (fun h => Bool.noConfusion h) | refine awp_cond (b := false) rfl (fun h => Bool.noConfusion h) (fun _ => ?_) | refine awp_scope ?_ | refine awp_label ?_ | refine awp_sdraw mixed (by kernel_rfl) ?_ | refine awp_region_draw mixed (by kernel_rfl) ?_ | (refine awp_cond rfl (fun hq => ?_) (fun hq => ?_) <;> first | subst hq | (first | (simp only [decide_eq_true_eq, decide_eq_false_iff_not, beq_iff_eq, beq_eq_false_iff_ne, bne_iff_ne, bne_eq_false_iff_eq, Bool.not_eq_true', Bool.not_eq_false'] at hq; first | (exfalso; omega) | skip) | skip)) | fail) | (refine then_one ?_; first | refine q_then ?_ | refine q_then_exit ?_ | refine q_then_ret ?_ | fail) | (refine block_one ?_; first | refine q_block ?_ | refine q_block_exit ?_ | refine q_block_pass (by decide) ?_ | refine q_block_ret ?_ | fail) | refine feet_one (feetOk_of (by kernel_rfl)) ?_ | fail)
    all_goals first
      | (exfalso; omega)
      | (refine aexit_eq (by first | exact .inl rfl | exact .inr rfl) (results_2 rfl (resOk_cells rfl rfl (tabOk _ _ rfl).1 rfl rfl) (resOk_tmp rfl)) rfl ?_; rfl)
set_option maxRecDepth 10000 in
theorem rlabel_a (s : ByteArray) : ACalls Try.prog 99 [.imm (.lit (.string s))] [] (.imm (.lit (.bool (labelP s)))) [] := by
  refine acalls_plain Try.func99 rfl rfl (Nat.le_of_ble_eq_true rfl) rfl ?_
  repeat' (first | refine aops_nil ?_ | (refine aops_one ?_; first | refine aops_quiet tabOk rfl rfl rfl (Nat.le_of_ble_eq_true rfl) rfl ?_ | refine aops_skip rfl rfl (Nat.le_of_ble_eq_true rfl) ?_ | (refine aops_cmp rfl rfl rfl (Nat.le_of_ble_eq_true rfl) rfl rfl rfl (fun hq => ?_) (fun hq => ?_) <;> (first | (simp only [decide_eq_true_eq, decide_eq_false_iff_not, beq_iff_eq, beq_eq_false_iff_ne, bne_iff_ne, bne_eq_false_iff_eq, Bool.not_eq_true', Bool.not_eq_false'] at hq; first | (exfalso; omega) | skip) | skip)) | refine aops_inc rfl rfl rfl (Nat.le_of_ble_eq_true rfl) rfl rfl (by omega) ?_ | refine aops_add rfl rfl rfl (Nat.le_of_ble_eq_true rfl) rfl rfl rfl (by omega) (by omega) ?_ | refine aops_sub rfl rfl rfl (Nat.le_of_ble_eq_true rfl) rfl rfl rfl (by omega) (by omega) ?_ | refine aops_list tabOk rfl rfl rfl (Nat.le_of_ble_eq_true rfl) rfl rfl rfl rfl rfl rfl rfl rfl rfl ?_ | refine aops_pure tabOk rfl rfl (Nat.le_of_ble_eq_true rfl) rfl ?_ | refine aops_alloc tabOk rfl rfl rfl (Nat.le_of_ble_eq_true rfl) rfl rfl rfl rfl rfl rfl ?_ | refine aops_loadm tabOk rfl rfl rfl (Nat.le_of_ble_eq_true rfl) rfl rfl rfl rfl ?_ | refine aops_storem tabOk rfl rfl rfl rfl rfl rfl rfl rfl rfl rfl rfl ?_ | refine aops_index tabOk rfl rfl rfl (Nat.le_of_ble_eq_true rfl) rfl rfl rfl rfl (by first | assumption | omega) ?_ | refine aops_index0 tabOk rfl rfl rfl (Nat.le_of_ble_eq_true rfl) rfl rfl rfl rfl (by first | rfl | omega) (by first | omega | simp) ?_ | refine aops_load1 tabOk rfl rfl rfl (Nat.le_of_ble_eq_true rfl) rfl rfl rfl (by assumption) ?_ | refine aops_load1 tabOk rfl rfl rfl (Nat.le_of_ble_eq_true rfl) rfl rfl rfl (ivs_get _ _ (by first | assumption | omega)) ?_ | refine aops_inc rfl rfl rfl (Nat.le_of_ble_eq_true rfl) rfl rfl (by omega) ?_ | ((fail_if_success (refine aops_lit (b := true) rfl rfl rfl ?_)); (fail_if_success (refine aops_lit (b := false) rfl rfl rfl ?_)); refine aops_guard rfl rfl rfl (fun hq => ?_) (fun hq => ?_) <;> first | subst hq | (first | (simp only [decide_eq_true_eq, decide_eq_false_iff_not, beq_iff_eq, beq_eq_false_iff_ne, bne_iff_ne, bne_eq_false_iff_eq, Bool.not_eq_true', Bool.not_eq_false'] at hq; first | (exfalso; omega) | skip) | skip)) | fail) | (refine awp_one ?_; first | refine awp_sreg ?_ | refine awp_seq ?_ | refine awp_region ?_ | refine awp_block ?_ | refine awp_ret ?_ | refine awp_exit ?_ | refine awp_skip ?_ | refine awp_cond (b := true) rfl (fun _ => ?_) (fun h => Bool.noConfusion h) | refine awp_cond (b := false) rfl (fun h => Bool.noConfusion h) (fun _ => ?_) | refine awp_scope ?_ | refine awp_label ?_ | refine awp_sdraw mixed (by kernel_rfl) ?_ | refine awp_region_draw mixed (by kernel_rfl) ?_ | (refine awp_cond rfl (fun hq => ?_) (fun hq => ?_) <;> first | subst hq | (first | (simp only [decide_eq_true_eq, decide_eq_false_iff_not, beq_iff_eq, beq_eq_false_iff_ne, bne_iff_ne, bne_eq_false_iff_eq, Bool.not_eq_true', Bool.not_eq_false'] at hq; first | (exfalso; omega) | skip) | skip)) | fail) | (refine then_one ?_; first | refine q_then ?_ | refine q_then_exit ?_ | refine q_then_ret ?_ | fail) | (refine block_one ?_; first | refine q_block ?_ | refine q_block_exit ?_ | refine q_block_pass (by decide) ?_ | refine q_block_ret ?_ | fail) | refine feet_one (feetOk_of (by kernel_rfl)) ?_ | fail)
  all_goals (refine aexit_eq (by first | exact .inl rfl | exact .inr rfl) (results_1 rfl (resOk_tmp rfl)) rfl ?_; refine bool_eq ?_; first | (simp_all [labelP]; done) | (simp_all [labelP]; omega))
end Go.Proofs.Ytlbemgokilhdnaa.Ab
namespace Go.Proofs.Ytlbemgokilhdnaa.Ab
set_option linter.unusedVariables false
set_option linter.unusedSimpArgs false
open Go.RowKit
attribute [local irreducible] AWP AOps AExit AThen ABlock ANoGoto FeetOk
def listB (l : List Tree) (kind : Int) : Bool := fieldsP l kind && pairsP (kind == 137) l && (kind == 137 || decide (0 < l.length))
theorem listB_iff (l : List Tree) (kind : Int) : listB l kind = true ↔ (∀ q (hq : q < l.length), okField kind l[q] = true) ∧ (∀ i j (hij : i < j) (hj : j < l.length), okPair (kind == 137) (l[i]'(by omega)).name l[j].name = true) ∧ (kind = 137 ∨ 0 < l.length) := by
  unfold listB
  rw [Bool.and_eq_true, Bool.and_eq_true, pairsP_iff, fieldsP_all, Bool.or_eq_true, beq_iff_eq, decide_eq_true_eq]
  constructor
  · rintro ⟨⟨h1, h2⟩, h3⟩
    exact ⟨fun q hq => List.all_eq_true.1 h1 _ (List.getElem_mem hq), h2, h3⟩
  · rintro ⟨h1, h2, h3⟩
    exact ⟨⟨all_of_idx h1, h2⟩, h3⟩
theorem okField_bad {l : List Tree} {kind : Int} {i : Nat} (h : i < l.length) (hb : okField kind l[i] = false) : listB l kind = false := by
  rw [Bool.eq_false_iff]
  intro hc
  have := ((listB_iff l kind).1 hc).1 i h
  rw [hb] at this
  cases this
theorem okPairL_bad {l : List Tree} {kind : Int} {i j : Nat} (hij : j < i) (h : i < l.length) (hb : okPair (kind == 137) (l[j]'(by omega)).name l[i].name = false) : listB l kind = false := by
  rw [Bool.eq_false_iff]
  intro hc
  have := ((listB_iff l kind).1 hc).2.1 j i hij h
  rw [hb] at this
  cases this
set_option maxHeartbeats 16000000 in
set_option maxRecDepth 10000 in
theorem list_a (l : List Tree) (kind : Int) (h : Tree.wholes l = true) (hl : l.length < 1000000000)
    (hc : ∀ t', t'.size < Tree.sizes l → t'.whole = true → ACalls Try.prog 61 [.imm t'.iv] [] (.imm (.lit (.bool (isTermP t')))) []) :
    ACalls Try.prog 123 [.imm (.sl false l.length (Tree.ivs l)), .imm (.lit (.int .i64 kind))] [] (.imm (.lit (.bool (listB l kind)))) [] := by
  refine acalls_plain Try.func123 rfl rfl (Nat.le_of_ble_eq_true rfl) rfl ?_
  repeat' (first | refine aops_nil ?_ | (refine aops_one ?_; first | refine aops_quiet tabOk rfl rfl rfl (Nat.le_of_ble_eq_true rfl) rfl ?_ | refine aops_skip rfl rfl (Nat.le_of_ble_eq_true rfl) ?_ | (refine aops_cmp rfl rfl rfl (Nat.le_of_ble_eq_true rfl) rfl rfl rfl (fun hq => ?_) (fun hq => ?_) <;> (first | (simp only [decide_eq_true_eq, decide_eq_false_iff_not, beq_iff_eq, beq_eq_false_iff_ne, bne_iff_ne, bne_eq_false_iff_eq, Bool.not_eq_true', Bool.not_eq_false'] at hq; first | (exfalso; omega) | skip) | skip)) | refine aops_inc rfl rfl rfl (Nat.le_of_ble_eq_true rfl) rfl rfl (by omega) ?_ | refine aops_add rfl rfl rfl (Nat.le_of_ble_eq_true rfl) rfl rfl rfl (by omega) (by omega) ?_ | refine aops_sub rfl rfl rfl (Nat.le_of_ble_eq_true rfl) rfl rfl rfl (by omega) (by omega) ?_ | refine aops_list tabOk rfl rfl rfl (Nat.le_of_ble_eq_true rfl) rfl rfl rfl rfl rfl rfl rfl rfl rfl ?_ | refine aops_pure tabOk rfl rfl (Nat.le_of_ble_eq_true rfl) rfl ?_ | refine aops_alloc tabOk rfl rfl rfl (Nat.le_of_ble_eq_true rfl) rfl rfl rfl rfl rfl rfl ?_ | refine aops_loadm tabOk rfl rfl rfl (Nat.le_of_ble_eq_true rfl) rfl rfl rfl rfl ?_ | refine aops_storem tabOk rfl rfl rfl rfl rfl rfl rfl rfl rfl rfl rfl ?_ | refine aops_index tabOk rfl rfl rfl (Nat.le_of_ble_eq_true rfl) rfl rfl rfl rfl (by first | assumption | omega) ?_ | refine aops_index0 tabOk rfl rfl rfl (Nat.le_of_ble_eq_true rfl) rfl rfl rfl rfl (by first | rfl | omega) (by first | omega | simp) ?_ | refine aops_load1 tabOk rfl rfl rfl (Nat.le_of_ble_eq_true rfl) rfl rfl rfl (by assumption) ?_ | refine aops_load1 tabOk rfl rfl rfl (Nat.le_of_ble_eq_true rfl) rfl rfl rfl (ivs_get _ _ (by first | assumption | omega)) ?_ | refine aops_inc rfl rfl rfl (Nat.le_of_ble_eq_true rfl) rfl rfl (by omega) ?_ | ((fail_if_success (refine aops_lit (b := true) rfl rfl rfl ?_)); (fail_if_success (refine aops_lit (b := false) rfl rfl rfl ?_)); refine aops_guard rfl rfl rfl (fun hq => ?_) (fun hq => ?_) <;> first | subst hq | (first | (simp only [decide_eq_true_eq, decide_eq_false_iff_not, beq_iff_eq, beq_eq_false_iff_ne, bne_iff_ne, bne_eq_false_iff_eq, Bool.not_eq_true', Bool.not_eq_false'] at hq; first | (exfalso; omega) | skip) | skip)) | fail) | (refine awp_one ?_; first | refine awp_sreg ?_ | refine awp_seq ?_ | refine awp_region ?_ | refine awp_block ?_ | refine awp_ret ?_ | refine awp_exit ?_ | refine awp_skip ?_ | refine awp_cond (b := true) rfl (fun _ => ?_) (fun h => Bool.noConfusion h) | refine awp_cond (b := false) rfl (fun h => Bool.noConfusion h) (fun _ => ?_) | refine awp_scope ?_ | refine awp_label ?_ | refine awp_sdraw mixed (by kernel_rfl) ?_ | refine awp_region_draw mixed (by kernel_rfl) ?_ | (refine awp_cond rfl (fun hq => ?_) (fun hq => ?_) <;> first | subst hq | (first | (simp only [decide_eq_true_eq, decide_eq_false_iff_not, beq_iff_eq, beq_eq_false_iff_ne, bne_iff_ne, bne_eq_false_iff_eq, Bool.not_eq_true', Bool.not_eq_false'] at hq; first | (exfalso; omega) | skip) | skip)) | fail) | (refine then_one ?_; first | refine q_then ?_ | refine q_then_exit ?_ | refine q_then_ret ?_ | fail) | (refine block_one ?_; first | refine q_block ?_ | refine q_block_exit ?_ | refine q_block_pass (by decide) ?_ | refine q_block_ret ?_ | fail) | refine feet_one (feetOk_of (by kernel_rfl)) ?_ | fail)
  refine awp_loop (ι := {i : Nat // i ≤ l.length ∧ (∀ q (hq : q < l.length), q < i → okField kind l[q] = true) ∧ ∀ j q (hjq : j < q) (hq : q < l.length), q < i → okPair (kind == 137) (l[j]'(by omega)).name l[q].name = true}) (fun i => S.f ⟨[(5, .imm (.lit (.int .i64 (i.1 : Int)))), (0, .imm (.sl false l.length (Tree.ivs l))), (1, .imm (.lit (.int .i64 kind)))], []⟩) (fun i => l.length - i.1) ⟨0, Nat.zero_le _, fun q h h2 => by omega, fun j q h h2 h3 => by omega⟩ (le_of (by repeat' first | exact trivial | refine ⟨rfl, ?_⟩) (by repeat' first | exact trivial | refine ⟨rfl, ?_⟩)) ?_
  rintro ⟨i, hi, hn, hp⟩
  dsimp only
  by_cases hil : i < l.length
  · obtain ⟨k1, n1, a1, b1, ks, e1, hiv, hwk⟩ := kid_at h hil
    have hbad := @okField_bad l kind i hil
    have hsz := sizes_mem (List.getElem_mem hil)
    rw [e1] at hbad hsz
    have hpl := rlabel_a a1
    cases hok : okField kind (.node k1 n1 a1 b1 ks) with
    | false =>
      rw [hbad hok]
      rw [okField] at hok
      generalize labelP a1 = lp at *
      rcases ks with _ | ⟨c, _ | ⟨d, r⟩⟩
      · cases lp <;>
        (repeat' (first | refine aops_nil ?_ | (refine aops_one ?_; first | refine aops_quiet tabOk rfl rfl rfl (Nat.le_of_ble_eq_true rfl) rfl ?_ | refine aops_skip rfl rfl (Nat.le_of_ble_eq_true rfl) ?_ | (refine aops_cmp rfl rfl rfl (Nat.le_of_ble_eq_true rfl) rfl rfl rfl (fun hq => ?_) (fun hq => ?_) <;> (first | (simp only [decide_eq_true_eq, decide_eq_false_iff_not, beq_iff_eq, beq_eq_false_iff_ne, bne_iff_ne, bne_eq_false_iff_eq, Bool.not_eq_true', Bool.not_eq_false'] at hq; first | (exfalso; omega) | skip) | skip))| refine aops_load1 tabOk rfl rfl rfl (Nat.le_of_ble_eq_true rfl) rfl rfl rfl hiv ?_ | refine aops_call rfl rfl (Nat.le_of_ble_eq_true rfl) rfl rfl rfl rfl (hpl) ?_ | refine aops_inc rfl rfl rfl (Nat.le_of_ble_eq_true rfl) rfl rfl (by omega) ?_ | refine aops_add rfl rfl rfl (Nat.le_of_ble_eq_true rfl) rfl rfl rfl (by omega) (by omega) ?_ | refine aops_sub rfl rfl rfl (Nat.le_of_ble_eq_true rfl) rfl rfl rfl (by omega) (by omega) ?_ | refine aops_list tabOk rfl rfl rfl (Nat.le_of_ble_eq_true rfl) rfl rfl rfl rfl rfl rfl rfl rfl rfl ?_ | refine aops_pure tabOk rfl rfl (Nat.le_of_ble_eq_true rfl) rfl ?_ | refine aops_alloc tabOk rfl rfl rfl (Nat.le_of_ble_eq_true rfl) rfl rfl rfl rfl rfl rfl ?_ | refine aops_loadm tabOk rfl rfl rfl (Nat.le_of_ble_eq_true rfl) rfl rfl rfl rfl ?_ | refine aops_storem tabOk rfl rfl rfl rfl rfl rfl rfl rfl rfl rfl rfl ?_ | refine aops_index tabOk rfl rfl rfl (Nat.le_of_ble_eq_true rfl) rfl rfl rfl rfl (by first | assumption | omega) ?_ | refine aops_index0 tabOk rfl rfl rfl (Nat.le_of_ble_eq_true rfl) rfl rfl rfl rfl (by first | rfl | omega) (by first | omega | simp) ?_ | refine aops_load1 tabOk rfl rfl rfl (Nat.le_of_ble_eq_true rfl) rfl rfl rfl (by assumption) ?_ | refine aops_load1 tabOk rfl rfl rfl (Nat.le_of_ble_eq_true rfl) rfl rfl rfl (ivs_get _ _ (by first | assumption | omega)) ?_ | refine aops_inc rfl rfl rfl (Nat.le_of_ble_eq_true rfl) rfl rfl (by omega) ?_ | ((fail_if_success (refine aops_lit (b := true) rfl rfl rfl ?_)); (fail_if_success (refine aops_lit (b := false) rfl rfl rfl ?_)); refine aops_guard rfl rfl rfl (fun hq => ?_) (fun hq => ?_) <;> first | subst hq | (first | (simp only [decide_eq_true_eq, decide_eq_false_iff_not, beq_iff_eq, beq_eq_false_iff_ne, bne_iff_ne, bne_eq_false_iff_eq, Bool.not_eq_true', Bool.not_eq_false'] at hq; first | (exfalso; omega) | skip) | skip)) | fail) | (refine awp_one ?_; first | refine awp_sreg ?_ | refine awp_seq ?_ | refine awp_region ?_ | refine awp_block ?_ | refine awp_ret ?_ | refine awp_exit ?_ | refine awp_skip ?_ | refine awp_cond (b := true) rfl (fun _ => ?_) (fun h => Bool.noConfusion h) | refine awp_cond (b := false) rfl (fun h => Bool.noConfusion h) (fun _ => ?_) | refine awp_scope ?_ | refine awp_label ?_ | refine awp_sdraw mixed (by kernel_rfl) ?_ | refine awp_region_draw mixed (by kernel_rfl) ?_ | (refine awp_cond rfl (fun hq => ?_) (fun hq => ?_) <;> first | subst hq | (first | (simp only [decide_eq_true_eq, decide_eq_false_iff_not, beq_iff_eq, beq_eq_false_iff_ne, bne_iff_ne, bne_eq_false_iff_eq, Bool.not_eq_true', Bool.not_eq_false'] at hq; first | (exfalso; omega) | skip) | skip)) | fail) | (refine then_one ?_; first | refine q_then ?_ | refine q_then_exit ?_ | refine q_then_ret ?_ | fail) | (refine block_one ?_; first | refine q_block ?_ | refine q_block_exit ?_ | refine q_block_pass (by decide) ?_ | refine q_block_ret ?_ | fail) | refine feet_one (feetOk_of (by kernel_rfl)) ?_ | fail)
         all_goals first
           | exact aexit_plain (by first | exact .inl rfl | exact .inr rfl) (results_1 rfl (resOk_tmp rfl)) rfl
           | (exfalso; omega)
           | (exfalso; simp_all [isT_t, eqB, emptyB]; done))
      · have hcc := hc c (by simp [Tree.size, Tree.sizes] at hsz ⊢; omega) (wholes_mem hwk (by simp))
        rw [isT_t] at hok
        generalize isTermP c = cp at *
        cases lp <;> cases cp <;>
        (repeat' (first | refine aops_nil ?_ | (refine aops_one ?_; first | refine aops_quiet tabOk rfl rfl rfl (Nat.le_of_ble_eq_true rfl) rfl ?_ | refine aops_skip rfl rfl (Nat.le_of_ble_eq_true rfl) ?_ | (refine aops_cmp rfl rfl rfl (Nat.le_of_ble_eq_true rfl) rfl rfl rfl (fun hq => ?_) (fun hq => ?_) <;> (first | (simp only [decide_eq_true_eq, decide_eq_false_iff_not, beq_iff_eq, beq_eq_false_iff_ne, bne_iff_ne, bne_eq_false_iff_eq, Bool.not_eq_true', Bool.not_eq_false'] at hq; first | (exfalso; omega) | skip) | skip))| refine aops_load1 tabOk rfl rfl rfl (Nat.le_of_ble_eq_true rfl) rfl rfl rfl hiv ?_ | refine aops_call rfl rfl (Nat.le_of_ble_eq_true rfl) rfl rfl rfl rfl (hpl) ?_ | refine aops_call rfl rfl (Nat.le_of_ble_eq_true rfl) rfl rfl rfl rfl (hcc) ?_ | refine aops_inc rfl rfl rfl (Nat.le_of_ble_eq_true rfl) rfl rfl (by omega) ?_ | refine aops_add rfl rfl rfl (Nat.le_of_ble_eq_true rfl) rfl rfl rfl (by omega) (by omega) ?_ | refine aops_sub rfl rfl rfl (Nat.le_of_ble_eq_true rfl) rfl rfl rfl (by omega) (by omega) ?_ | refine aops_list tabOk rfl rfl rfl (Nat.le_of_ble_eq_true rfl) rfl rfl rfl rfl rfl rfl rfl rfl rfl ?_ | refine aops_pure tabOk rfl rfl (Nat.le_of_ble_eq_true rfl) rfl ?_ | refine aops_alloc tabOk rfl rfl rfl (Nat.le_of_ble_eq_true rfl) rfl rfl rfl rfl rfl rfl ?_ | refine aops_loadm tabOk rfl rfl rfl (Nat.le_of_ble_eq_true rfl) rfl rfl rfl rfl ?_ | refine aops_storem tabOk rfl rfl rfl rfl rfl rfl rfl rfl rfl rfl rfl ?_ | refine aops_index tabOk rfl rfl rfl (Nat.le_of_ble_eq_true rfl) rfl rfl rfl rfl (by first | assumption | omega) ?_ | refine aops_index0 tabOk rfl rfl rfl (Nat.le_of_ble_eq_true rfl) rfl rfl rfl rfl (by first | rfl | omega) (by first | omega | simp) ?_ | refine aops_load1 tabOk rfl rfl rfl (Nat.le_of_ble_eq_true rfl) rfl rfl rfl (by assumption) ?_ | refine aops_load1 tabOk rfl rfl rfl (Nat.le_of_ble_eq_true rfl) rfl rfl rfl (ivs_get _ _ (by first | assumption | omega)) ?_ | refine aops_inc rfl rfl rfl (Nat.le_of_ble_eq_true rfl) rfl rfl (by omega) ?_ | ((fail_if_success (refine aops_lit (b := true) rfl rfl rfl ?_)); (fail_if_success (refine aops_lit (b := false) rfl rfl rfl ?_)); refine aops_guard rfl rfl rfl (fun hq => ?_) (fun hq => ?_) <;> first | subst hq | (first | (simp only [decide_eq_true_eq, decide_eq_false_iff_not, beq_iff_eq, beq_eq_false_iff_ne, bne_iff_ne, bne_eq_false_iff_eq, Bool.not_eq_true', Bool.not_eq_false'] at hq; first | (exfalso; omega) | skip) | skip)) | fail) | (refine awp_one ?_; first | refine awp_sreg ?_ | refine awp_seq ?_ | refine awp_region ?_ | refine awp_block ?_ | refine awp_ret ?_ | refine awp_exit ?_ | refine awp_skip ?_ | refine awp_cond (b := true) rfl (fun _ => ?_) (fun h => Bool.noConfusion h) | refine awp_cond (b := false) rfl (fun h => Bool.noConfusion h) (fun _ => ?_) | refine awp_scope ?_ | refine awp_label ?_ | refine awp_sdraw mixed (by kernel_rfl) ?_ | refine awp_region_draw mixed (by kernel_rfl) ?_ | (refine awp_cond rfl (fun hq => ?_) (fun hq => ?_) <;> first | subst hq | (first | (simp only [decide_eq_true_eq, decide_eq_false_iff_not, beq_iff_eq, beq_eq_false_iff_ne, bne_iff_ne, bne_eq_false_iff_eq, Bool.not_eq_true', Bool.not_eq_false'] at hq; first | (exfalso; omega) | skip) | skip)) | fail) | (refine then_one ?_; first | refine q_then ?_ | refine q_then_exit ?_ | refine q_then_ret ?_ | fail) | (refine block_one ?_; first | refine q_block ?_ | refine q_block_exit ?_ | refine q_block_pass (by decide) ?_ | refine q_block_ret ?_ | fail) | refine feet_one (feetOk_of (by kernel_rfl)) ?_ | fail)
         all_goals first
           | exact aexit_plain (by first | exact .inl rfl | exact .inr rfl) (results_1 rfl (resOk_tmp rfl)) rfl
           | (exfalso; omega)
           | (exfalso; simp_all [eqB, emptyB]; done))
      · cases lp <;>
        (repeat' (first | refine aops_nil ?_ | (refine aops_one ?_; first | refine aops_quiet tabOk rfl rfl rfl (Nat.le_of_ble_eq_true rfl) rfl ?_ | refine aops_skip rfl rfl (Nat.le_of_ble_eq_true rfl) ?_ | (refine aops_cmp rfl rfl rfl (Nat.le_of_ble_eq_true rfl) rfl rfl rfl (fun hq => ?_) (fun hq => ?_) <;> (first | (simp only [decide_eq_true_eq, decide_eq_false_iff_not, beq_iff_eq, beq_eq_false_iff_ne, bne_iff_ne, bne_eq_false_iff_eq, Bool.not_eq_true', Bool.not_eq_false'] at hq; first | (exfalso; omega) | skip) | skip))| refine aops_load1 tabOk rfl rfl rfl (Nat.le_of_ble_eq_true rfl) rfl rfl rfl hiv ?_ | refine aops_call rfl rfl (Nat.le_of_ble_eq_true rfl) rfl rfl rfl rfl (hpl) ?_ | refine aops_inc rfl rfl rfl (Nat.le_of_ble_eq_true rfl) rfl rfl (by omega) ?_ | refine aops_add rfl rfl rfl (Nat.le_of_ble_eq_true rfl) rfl rfl rfl (by omega) (by omega) ?_ | refine aops_sub rfl rfl rfl (Nat.le_of_ble_eq_true rfl) rfl rfl rfl (by omega) (by omega) ?_ | refine aops_list tabOk rfl rfl rfl (Nat.le_of_ble_eq_true rfl) rfl rfl rfl rfl rfl rfl rfl rfl rfl ?_ | refine aops_pure tabOk rfl rfl (Nat.le_of_ble_eq_true rfl) rfl ?_ | refine aops_alloc tabOk rfl rfl rfl (Nat.le_of_ble_eq_true rfl) rfl rfl rfl rfl rfl rfl ?_ | refine aops_loadm tabOk rfl rfl rfl (Nat.le_of_ble_eq_true rfl) rfl rfl rfl rfl ?_ | refine aops_storem tabOk rfl rfl rfl rfl rfl rfl rfl rfl rfl rfl rfl ?_ | refine aops_index tabOk rfl rfl rfl (Nat.le_of_ble_eq_true rfl) rfl rfl rfl rfl (by first | assumption | omega) ?_ | refine aops_index0 tabOk rfl rfl rfl (Nat.le_of_ble_eq_true rfl) rfl rfl rfl rfl (by first | rfl | omega) (by first | omega | simp) ?_ | refine aops_load1 tabOk rfl rfl rfl (Nat.le_of_ble_eq_true rfl) rfl rfl rfl (by assumption) ?_ | refine aops_load1 tabOk rfl rfl rfl (Nat.le_of_ble_eq_true rfl) rfl rfl rfl (ivs_get _ _ (by first | assumption | omega)) ?_ | refine aops_inc rfl rfl rfl (Nat.le_of_ble_eq_true rfl) rfl rfl (by omega) ?_ | ((fail_if_success (refine aops_lit (b := true) rfl rfl rfl ?_)); (fail_if_success (refine aops_lit (b := false) rfl rfl rfl ?_)); refine aops_guard rfl rfl rfl (fun hq => ?_) (fun hq => ?_) <;> first | subst hq | (first | (simp only [decide_eq_true_eq, decide_eq_false_iff_not, beq_iff_eq, beq_eq_false_iff_ne, bne_iff_ne, bne_eq_false_iff_eq, Bool.not_eq_true', Bool.not_eq_false'] at hq; first | (exfalso; omega) | skip) | skip)) | fail) | (refine awp_one ?_; first | refine awp_sreg ?_ | refine awp_seq ?_ | refine awp_region ?_ | refine awp_block ?_ | refine awp_ret ?_ | refine awp_exit ?_ | refine awp_skip ?_ | refine awp_cond (b := true) rfl (fun _ => ?_) (fun h => Bool.noConfusion h) | refine awp_cond (b := false) rfl (fun h => Bool.noConfusion h) (fun _ => ?_) | refine awp_scope ?_ | refine awp_label ?_ | refine awp_sdraw mixed (by kernel_rfl) ?_ | refine awp_region_draw mixed (by kernel_rfl) ?_ | (refine awp_cond rfl (fun hq => ?_) (fun hq => ?_) <;> first | subst hq | (first | (simp only [decide_eq_true_eq, decide_eq_false_iff_not, beq_iff_eq, beq_eq_false_iff_ne, bne_iff_ne, bne_eq_false_iff_eq, Bool.not_eq_true', Bool.not_eq_false'] at hq; first | (exfalso; omega) | skip) | skip)) | fail) | (refine then_one ?_; first | refine q_then ?_ | refine q_then_exit ?_ | refine q_then_ret ?_ | fail) | (refine block_one ?_; first | refine q_block ?_ | refine q_block_exit ?_ | refine q_block_pass (by decide) ?_ | refine q_block_ret ?_ | fail) | refine feet_one (feetOk_of (by kernel_rfl)) ?_ | fail)
         all_goals first
           | exact aexit_plain (by first | exact .inl rfl | exact .inr rfl) (results_1 rfl (resOk_tmp rfl)) rfl
           | (exfalso; omega)
           | (exfalso; simp only [List.length_cons] at *; omega)
           | (exfalso; simp_all [isT_t, eqB, emptyB]; done))
    | true =>
      have hok0 := hok
      rw [okField] at hok
      simp only [Bool.and_eq_true] at hok
      obtain ⟨⟨⟨⟨q1, q2⟩, q3⟩, q5⟩, q4⟩ := hok
      have q1 := beq_iff_eq.1 q1
      subst q1
      have q2 := beq_iff_eq.1 q2
      subst q2
      unfold eqB at q3
      have q3 := beq_iff_eq.1 q3
      rw [q5] at hpl
      have hcc : ∃ c, ks = [c] ∧ isTermP c = true := by
        match ks, q4 with
        | [c], q4 => exact ⟨c, rfl, by simpa [isT_t] using q4⟩
      obtain ⟨c, rfl, hcp⟩ := hcc
      have hcc := hc c (by simp [Tree.size, Tree.sizes] at hsz ⊢; omega) (wholes_mem hwk (by simp))
      rw [hcp] at hcc
      have hn2 : ∀ q (hq : q < l.length), q < i + 1 → okField k1 l[q] = true := fun q hq h2 => by
        rcases Nat.lt_or_ge q i with h3 | h3
        · exact hn q hq h3
        · have e : q = i := by omega
          subst e
          rw [e1]; exact hok0
      repeat' (first | refine aops_nil ?_ | (refine aops_one ?_; first | refine aops_quiet tabOk rfl rfl rfl (Nat.le_of_ble_eq_true rfl) rfl ?_ | refine aops_skip rfl rfl (Nat.le_of_ble_eq_true rfl) ?_ | (refine aops_cmp rfl rfl rfl (Nat.le_of_ble_eq_true rfl) rfl rfl rfl (fun hq => ?_) (fun hq => ?_) <;> (first | (simp only [decide_eq_true_eq, decide_eq_false_iff_not, beq_iff_eq, beq_eq_false_iff_ne, bne_iff_ne, bne_eq_false_iff_eq, Bool.not_eq_true', Bool.not_eq_false'] at hq; first | (exfalso; omega) | skip) | skip))| refine aops_load1 tabOk rfl rfl rfl (Nat.le_of_ble_eq_true rfl) rfl rfl rfl hiv ?_ | refine aops_call rfl rfl (Nat.le_of_ble_eq_true rfl) rfl rfl rfl rfl (hpl) ?_ | refine aops_call rfl rfl (Nat.le_of_ble_eq_true rfl) rfl rfl rfl rfl (hcc) ?_ | refine aops_inc rfl rfl rfl (Nat.le_of_ble_eq_true rfl) rfl rfl (by omega) ?_ | refine aops_add rfl rfl rfl (Nat.le_of_ble_eq_true rfl) rfl rfl rfl (by omega) (by omega) ?_ | refine aops_sub rfl rfl rfl (Nat.le_of_ble_eq_true rfl) rfl rfl rfl (by omega) (by omega) ?_ | refine aops_list tabOk rfl rfl rfl (Nat.le_of_ble_eq_true rfl) rfl rfl rfl rfl rfl rfl rfl rfl rfl ?_ | refine aops_pure tabOk rfl rfl (Nat.le_of_ble_eq_true rfl) rfl ?_ | refine aops_alloc tabOk rfl rfl rfl (Nat.le_of_ble_eq_true rfl) rfl rfl rfl rfl rfl rfl ?_ | refine aops_loadm tabOk rfl rfl rfl (Nat.le_of_ble_eq_true rfl) rfl rfl rfl rfl ?_ | refine aops_storem tabOk rfl rfl rfl rfl rfl rfl rfl rfl rfl rfl rfl ?_ | refine aops_index tabOk rfl rfl rfl (Nat.le_of_ble_eq_true rfl) rfl rfl rfl rfl (by first | assumption | omega) ?_ | refine aops_index0 tabOk rfl rfl rfl (Nat.le_of_ble_eq_true rfl) rfl rfl rfl rfl (by first | rfl | omega) (by first | omega | simp) ?_ | refine aops_load1 tabOk rfl rfl rfl (Nat.le_of_ble_eq_true rfl) rfl rfl rfl (by assumption) ?_ | refine aops_load1 tabOk rfl rfl rfl (Nat.le_of_ble_eq_true rfl) rfl rfl rfl (ivs_get _ _ (by first | assumption | omega)) ?_ | refine aops_inc rfl rfl rfl (Nat.le_of_ble_eq_true rfl) rfl rfl (by omega) ?_ | ((fail_if_success (refine aops_lit (b := true) rfl rfl rfl ?_)); (fail_if_success (refine aops_lit (b := false) rfl rfl rfl ?_)); refine aops_guard rfl rfl rfl (fun hq => ?_) (fun hq => ?_) <;> first | subst hq | (first | (simp only [decide_eq_true_eq, decide_eq_false_iff_not, beq_iff_eq, beq_eq_false_iff_ne, bne_iff_ne, bne_eq_false_iff_eq, Bool.not_eq_true', Bool.not_eq_false'] at hq; first | (exfalso; omega) | skip) | skip)) | fail) | (refine awp_one ?_; first | refine awp_sreg ?_ | refine awp_seq ?_ | refine awp_region ?_ | refine awp_block ?_ | refine awp_ret ?_ | refine awp_exit ?_ | refine awp_skip ?_ | refine awp_cond (b := true) rfl (fun _ => ?_) (fun h => Bool.noConfusion h) | refine awp_cond (b := false) rfl (fun h => Bool.noConfusion h) (fun _ => ?_) | refine awp_scope ?_ | refine awp_label ?_ | refine awp_sdraw mixed (by kernel_rfl) ?_ | refine awp_region_draw mixed (by kernel_rfl) ?_ | (refine awp_cond rfl (fun hq => ?_) (fun hq => ?_) <;> first | subst hq | (first | (simp only [decide_eq_true_eq, decide_eq_false_iff_not, beq_iff_eq, beq_eq_false_iff_ne, bne_iff_ne, bne_eq_false_iff_eq, Bool.not_eq_true', Bool.not_eq_false'] at hq; first | (exfalso; omega) | skip) | skip)) | fail) | (refine then_one ?_; first | refine q_then ?_ | refine q_then_exit ?_ | refine q_then_ret ?_ | fail) | (refine block_one ?_; first | refine q_block ?_ | refine q_block_exit ?_ | refine q_block_pass (by decide) ?_ | refine q_block_ret ?_ | fail) | refine feet_one (feetOk_of (by kernel_rfl)) ?_ | fail)
      all_goals first | exact absurd rfl (by assumption) | exact absurd q3 (by assumption) | (exfalso; omega) | skip
      refine awp_loop (ι := {j : Nat // j ≤ i ∧ ∀ q (hq : q < j) (hqi : q < l.length), okPair (k1 == 137) l[q].name a1 = true}) (fun j => S.f ⟨[(7, .imm (.lit (.int .i64 (j.1 : Int)))), (6, .imm (Tree.iv (.node k1 0 a1 b1 [c]))), (5, .imm (.lit (.int .i64 (i : Int)))), (0, .imm (.sl false l.length (Tree.ivs l))), (1, .imm (.lit (.int .i64 k1)))], []⟩) (fun j => i - j.1) ⟨0, Nat.zero_le _, fun q h h2 => by omega⟩ (le_of (by repeat' first | exact trivial | refine ⟨rfl, ?_⟩) (by repeat' first | exact trivial | refine ⟨rfl, ?_⟩)) ?_
      rintro ⟨j, hj, hpj⟩
      dsimp only
      by_cases hji : j < i
      · obtain ⟨k2, n2, a2, b2, ks2, e2, hiv2, _⟩ := kid_at h (show j < l.length by omega)
        have hbp := @okPairL_bad l k1 i j hji hil
        have en : l[i].name = a1 := by rw [e1]; rfl
        have en2 : (l[j]'(by omega)).name = a2 := by rw [e2]; rfl
        rw [en, en2] at hbp
        cases hop : okPair (k1 == 137) a2 a1 with
        | false =>
          rw [hbp hop]
          (repeat' (first | refine aops_nil ?_ | (refine aops_one ?_; first | refine aops_quiet tabOk rfl rfl rfl (Nat.le_of_ble_eq_true rfl) rfl ?_ | refine aops_skip rfl rfl (Nat.le_of_ble_eq_true rfl) ?_ | (refine aops_cmp rfl rfl rfl (Nat.le_of_ble_eq_true rfl) rfl rfl rfl (fun hq => ?_) (fun hq => ?_) <;> (first | (simp only [decide_eq_true_eq, decide_eq_false_iff_not, beq_iff_eq, beq_eq_false_iff_ne, bne_iff_ne, bne_eq_false_iff_eq, Bool.not_eq_true', Bool.not_eq_false'] at hq; first | (exfalso; omega) | skip) | skip))| refine aops_load1 tabOk rfl rfl rfl (Nat.le_of_ble_eq_true rfl) rfl rfl rfl hiv2 ?_ | refine aops_inc rfl rfl rfl (Nat.le_of_ble_eq_true rfl) rfl rfl (by omega) ?_ | refine aops_add rfl rfl rfl (Nat.le_of_ble_eq_true rfl) rfl rfl rfl (by omega) (by omega) ?_ | refine aops_sub rfl rfl rfl (Nat.le_of_ble_eq_true rfl) rfl rfl rfl (by omega) (by omega) ?_ | refine aops_list tabOk rfl rfl rfl (Nat.le_of_ble_eq_true rfl) rfl rfl rfl rfl rfl rfl rfl rfl rfl ?_ | refine aops_pure tabOk rfl rfl (Nat.le_of_ble_eq_true rfl) rfl ?_ | refine aops_alloc tabOk rfl rfl rfl (Nat.le_of_ble_eq_true rfl) rfl rfl rfl rfl rfl rfl ?_ | refine aops_loadm tabOk rfl rfl rfl (Nat.le_of_ble_eq_true rfl) rfl rfl rfl rfl ?_ | refine aops_storem tabOk rfl rfl rfl rfl rfl rfl rfl rfl rfl rfl rfl ?_ | refine aops_index tabOk rfl rfl rfl (Nat.le_of_ble_eq_true rfl) rfl rfl rfl rfl (by first | assumption | omega) ?_ | refine aops_index0 tabOk rfl rfl rfl (Nat.le_of_ble_eq_true rfl) rfl rfl rfl rfl (by first | rfl | omega) (by first | omega | simp) ?_ | refine aops_load1 tabOk rfl rfl rfl (Nat.le_of_ble_eq_true rfl) rfl rfl rfl (by assumption) ?_ | refine aops_load1 tabOk rfl rfl rfl (Nat.le_of_ble_eq_true rfl) rfl rfl rfl (ivs_get _ _ (by first | assumption | omega)) ?_ | refine aops_inc rfl rfl rfl (Nat.le_of_ble_eq_true rfl) rfl rfl (by omega) ?_ | ((fail_if_success (refine aops_lit (b := true) rfl rfl rfl ?_)); (fail_if_success (refine aops_lit (b := false) rfl rfl rfl ?_)); refine aops_guard rfl rfl rfl (fun hq => ?_) (fun hq => ?_) <;> first | subst hq | (first | (simp only [decide_eq_true_eq, decide_eq_false_iff_not, beq_iff_eq, beq_eq_false_iff_ne, bne_iff_ne, bne_eq_false_iff_eq, Bool.not_eq_true', Bool.not_eq_false'] at hq; first | (exfalso; omega) | skip) | skip)) | fail) | (refine awp_one ?_; first | refine awp_sreg ?_ | refine awp_seq ?_ | refine awp_region ?_ | refine awp_block ?_ | refine awp_ret ?_ | refine awp_exit ?_ | refine awp_skip ?_ | refine awp_cond (b := true) rfl (fun _ => ?_) (fun h => Bool.noConfusion h) | refine awp_cond (b := false) rfl (fun h => Bool.noConfusion h) (fun _ => ?_) | refine awp_scope ?_ | refine awp_label ?_ | refine awp_sdraw mixed (by kernel_rfl) ?_ | refine awp_region_draw mixed (by kernel_rfl) ?_ | (refine awp_cond rfl (fun hq => ?_) (fun hq => ?_) <;> first | subst hq | (first | (simp only [decide_eq_true_eq, decide_eq_false_iff_not, beq_iff_eq, beq_eq_false_iff_ne, bne_iff_ne, bne_eq_false_iff_eq, Bool.not_eq_true', Bool.not_eq_false'] at hq; first | (exfalso; omega) | skip) | skip)) | fail) | (refine then_one ?_; first | refine q_then ?_ | refine q_then_exit ?_ | refine q_then_ret ?_ | fail) | (refine block_one ?_; first | refine q_block ?_ | refine q_block_exit ?_ | refine q_block_pass (by decide) ?_ | refine q_block_ret ?_ | fail) | refine feet_one (feetOk_of (by kernel_rfl)) ?_ | fail)
           all_goals first
             | exact aexit_plain (by first | exact .inl rfl | exact .inr rfl) (results_1 rfl (resOk_tmp rfl)) rfl
             | (exfalso; omega)
             | (exfalso; by_cases h137 : k1 = 137 <;> simp_all [okPair, gtB, ltB, eqB]; done))
        | true =>
          have hpj2 : ∀ q (hq : q < j + 1) (hqi : q < l.length), okPair (k1 == 137) l[q].name a1 = true := fun q hq hqi => by
            rcases Nat.lt_or_ge q j with h3 | h3
            · exact hpj q h3 hqi
            · have e : q = j := by omega
              subst e
              rw [en2]; exact hop
          (repeat' (first | refine aops_nil ?_ | (refine aops_one ?_; first | refine aops_quiet tabOk rfl rfl rfl (Nat.le_of_ble_eq_true rfl) rfl ?_ | refine aops_skip rfl rfl (Nat.le_of_ble_eq_true rfl) ?_ | (refine aops_cmp rfl rfl rfl (Nat.le_of_ble_eq_true rfl) rfl rfl rfl (fun hq => ?_) (fun hq => ?_) <;> (first | (simp only [decide_eq_true_eq, decide_eq_false_iff_not, beq_iff_eq, beq_eq_false_iff_ne, bne_iff_ne, bne_eq_false_iff_eq, Bool.not_eq_true', Bool.not_eq_false'] at hq; first | (exfalso; omega) | skip) | skip))| refine aops_load1 tabOk rfl rfl rfl (Nat.le_of_ble_eq_true rfl) rfl rfl rfl hiv2 ?_ | refine aops_inc rfl rfl rfl (Nat.le_of_ble_eq_true rfl) rfl rfl (by omega) ?_ | refine aops_add rfl rfl rfl (Nat.le_of_ble_eq_true rfl) rfl rfl rfl (by omega) (by omega) ?_ | refine aops_sub rfl rfl rfl (Nat.le_of_ble_eq_true rfl) rfl rfl rfl (by omega) (by omega) ?_ | refine aops_list tabOk rfl rfl rfl (Nat.le_of_ble_eq_true rfl) rfl rfl rfl rfl rfl rfl rfl rfl rfl ?_ | refine aops_pure tabOk rfl rfl (Nat.le_of_ble_eq_true rfl) rfl ?_ | refine aops_alloc tabOk rfl rfl rfl (Nat.le_of_ble_eq_true rfl) rfl rfl rfl rfl rfl rfl ?_ | refine aops_loadm tabOk rfl rfl rfl (Nat.le_of_ble_eq_true rfl) rfl rfl rfl rfl ?_ | refine aops_storem tabOk rfl rfl rfl rfl rfl rfl rfl rfl rfl rfl rfl ?_ | refine aops_index tabOk rfl rfl rfl (Nat.le_of_ble_eq_true rfl) rfl rfl rfl rfl (by first | assumption | omega) ?_ | refine aops_index0 tabOk rfl rfl rfl (Nat.le_of_ble_eq_true rfl) rfl rfl rfl rfl (by first | rfl | omega) (by first | omega | simp) ?_ | refine aops_load1 tabOk rfl rfl rfl (Nat.le_of_ble_eq_true rfl) rfl rfl rfl (by assumption) ?_ | refine aops_load1 tabOk rfl rfl rfl (Nat.le_of_ble_eq_true rfl) rfl rfl rfl (ivs_get _ _ (by first | assumption | omega)) ?_ | refine aops_inc rfl rfl rfl (Nat.le_of_ble_eq_true rfl) rfl rfl (by omega) ?_ | ((fail_if_success (refine aops_lit (b := true) rfl rfl rfl ?_)); (fail_if_success (refine aops_lit (b := false) rfl rfl rfl ?_)); refine aops_guard rfl rfl rfl (fun hq => ?_) (fun hq => ?_) <;> first | subst hq | (first | (simp only [decide_eq_true_eq, decide_eq_false_iff_not, beq_iff_eq, beq_eq_false_iff_ne, bne_iff_ne, bne_eq_false_iff_eq, Bool.not_eq_true', Bool.not_eq_false'] at hq; first | (exfalso; omega) | skip) | skip)) | fail) | (refine awp_one ?_; first | refine awp_sreg ?_ | refine awp_seq ?_ | refine awp_region ?_ | refine awp_block ?_ | refine awp_ret ?_ | refine awp_exit ?_ | refine awp_skip ?_ | refine awp_cond (b := true) rfl (fun _ => ?_) (fun h => Bool.noConfusion h) | refine awp_cond (b := false) rfl (fun h => Bool.noConfusion h) (fun _ => ?_) | refine awp_scope ?_ | refine awp_label ?_ | refine awp_sdraw mixed (by kernel_rfl) ?_ | refine awp_region_draw mixed (by kernel_rfl) ?_ | (refine awp_cond rfl (fun hq => ?_) (fun hq => ?_) <;> first | subst hq | (first | (simp only [decide_eq_true_eq, decide_eq_false_iff_not, beq_iff_eq, beq_eq_false_iff_ne, bne_iff_ne, bne_eq_false_iff_eq, Bool.not_eq_true', Bool.not_eq_false'] at hq; first | (exfalso; omega) | skip) | skip)) | fail) | (refine then_one ?_; first | refine q_then ?_ | refine q_then_exit ?_ | refine q_then_ret ?_ | fail) | (refine block_one ?_; first | refine q_block ?_ | refine q_block_exit ?_ | refine q_block_pass (by decide) ?_ | refine q_block_ret ?_ | fail) | refine feet_one (feetOk_of (by kernel_rfl)) ?_ | fail)
           all_goals first
             | exact ⟨⟨j + 1, hji, hpj2⟩, (by show i - (j + 1) < i - j; omega), (le_of (by repeat' first | exact trivial | refine ⟨rfl, ?_⟩) (by repeat' first | exact trivial | refine ⟨rfl, ?_⟩))⟩
             | (exfalso; omega)
             | (exfalso; by_cases h137 : k1 = 137 <;> simp_all [okPair, gtB, ltB, eqB]; done))
      · have ej : j = i := by omega
        subst ej
        have hp2 : ∀ j2 q (hjq : j2 < q) (hq : q < l.length), q < j + 1 → okPair (k1 == 137) (l[j2]'(by omega)).name l[q].name = true := fun j2 q hjq hq h2 => by
          rcases Nat.lt_or_ge q j with h3 | h3
          · exact hp j2 q hjq hq h3
          · have e : q = j := by omega
            subst e
            rw [e1]
            exact hpj j2 hjq (by omega)
        repeat' (first | refine aops_nil ?_ | (refine aops_one ?_; first | refine aops_quiet tabOk rfl rfl rfl (Nat.le_of_ble_eq_true rfl) rfl ?_ | refine aops_skip rfl rfl (Nat.le_of_ble_eq_true rfl) ?_ | (refine aops_cmp rfl rfl rfl (Nat.le_of_ble_eq_true rfl) rfl rfl rfl (fun hq => ?_) (fun hq => ?_) <;> (first | (simp only [decide_eq_true_eq, decide_eq_false_iff_not, beq_iff_eq, beq_eq_false_iff_ne, bne_iff_ne, bne_eq_false_iff_eq, Bool.not_eq_true', Bool.not_eq_false'] at hq; first | (exfalso; omega) | skip) | skip)) | refine aops_inc rfl rfl rfl (Nat.le_of_ble_eq_true rfl) rfl rfl (by omega) ?_ | refine aops_add rfl rfl rfl (Nat.le_of_ble_eq_true rfl) rfl rfl rfl (by omega) (by omega) ?_ | refine aops_sub rfl rfl rfl (Nat.le_of_ble_eq_true rfl) rfl rfl rfl (by omega) (by omega) ?_ | refine aops_list tabOk rfl rfl rfl (Nat.le_of_ble_eq_true rfl) rfl rfl rfl rfl rfl rfl rfl rfl rfl ?_ | refine aops_pure tabOk rfl rfl (Nat.le_of_ble_eq_true rfl) rfl ?_ | refine aops_alloc tabOk rfl rfl rfl (Nat.le_of_ble_eq_true rfl) rfl rfl rfl rfl rfl rfl ?_ | refine aops_loadm tabOk rfl rfl rfl (Nat.le_of_ble_eq_true rfl) rfl rfl rfl rfl ?_ | refine aops_storem tabOk rfl rfl rfl rfl rfl rfl rfl rfl rfl rfl rfl ?_ | refine aops_index tabOk rfl rfl rfl (Nat.le_of_ble_eq_true rfl) rfl rfl rfl rfl (by first | assumption | omega) ?_ | refine aops_index0 tabOk rfl rfl rfl (Nat.le_of_ble_eq_true rfl) rfl rfl rfl rfl (by first | rfl | omega) (by first | omega | simp) ?_ | refine aops_load1 tabOk rfl rfl rfl (Nat.le_of_ble_eq_true rfl) rfl rfl rfl (by assumption) ?_ | refine aops_load1 tabOk rfl rfl rfl (Nat.le_of_ble_eq_true rfl) rfl rfl rfl (ivs_get _ _ (by first | assumption | omega)) ?_ | refine aops_inc rfl rfl rfl (Nat.le_of_ble_eq_true rfl) rfl rfl (by omega) ?_ | ((fail_if_success (refine aops_lit (b := true) rfl rfl rfl ?_)); (fail_if_success (refine aops_lit (b := false) rfl rfl rfl ?_)); refine aops_guard rfl rfl rfl (fun hq => ?_) (fun hq => ?_) <;> first | subst hq | (first | (simp only [decide_eq_true_eq, decide_eq_false_iff_not, beq_iff_eq, beq_eq_false_iff_ne, bne_iff_ne, bne_eq_false_iff_eq, Bool.not_eq_true', Bool.not_eq_false'] at hq; first | (exfalso; omega) | skip) | skip)) | fail) | (refine awp_one ?_; first | refine awp_sreg ?_ | refine awp_seq ?_ | refine awp_region ?_ | refine awp_block ?_ | refine awp_ret ?_ | refine awp_exit ?_ | refine awp_skip ?_ | refine awp_cond (b := true) rfl (fun _ => ?_) (fun h => Bool.noConfusion h) | refine awp_cond (b := false) rfl (fun h => Bool.noConfusion h) (fun _ => ?_) | refine awp_scope ?_ | refine awp_label ?_ | refine awp_sdraw mixed (by kernel_rfl) ?_ | refine awp_region_draw mixed (by kernel_rfl) ?_ | (refine awp_cond rfl (fun hq => ?_) (fun hq => ?_) <;> first | subst hq | (first | (simp only [decide_eq_true_eq, decide_eq_false_iff_not, beq_iff_eq, beq_eq_false_iff_ne, bne_iff_ne, bne_eq_false_iff_eq, Bool.not_eq_true', Bool.not_eq_false'] at hq; first | (exfalso; omega) | skip) | skip)) | fail) | (refine then_one ?_; first | refine q_then ?_ | refine q_then_exit ?_ | refine q_then_ret ?_ | fail) | (refine block_one ?_; first | refine q_block ?_ | refine q_block_exit ?_ | refine q_block_pass (by decide) ?_ | refine q_block_ret ?_ | fail) | refine feet_one (feetOk_of (by kernel_rfl)) ?_ | fail)
        all_goals first
          | (exfalso; omega)
          | exact ⟨⟨j + 1, hil, hn2, hp2⟩, (by show l.length - (j + 1) < l.length - j; omega), (le_of (by repeat' first | exact trivial | refine ⟨rfl, ?_⟩) (by repeat' first | exact trivial | refine ⟨rfl, ?_⟩))⟩
  · have ei : i = l.length := by omega
    subst ei
    by_cases h137 : kind = 137
    · subst h137
      have hT : listB l 137 = true := (listB_iff l 137).2 ⟨fun q hq => hn q hq hq, fun j q hjq hq => hp j q hjq hq hq, .inl rfl⟩
      rw [hT]
      repeat' (first | refine aops_nil ?_ | (refine aops_one ?_; first | refine aops_quiet tabOk rfl rfl rfl (Nat.le_of_ble_eq_true rfl) rfl ?_ | refine aops_skip rfl rfl (Nat.le_of_ble_eq_true rfl) ?_ | (refine aops_cmp rfl rfl rfl (Nat.le_of_ble_eq_true rfl) rfl rfl rfl (fun hq => ?_) (fun hq => ?_) <;> (first | (simp only [decide_eq_true_eq, decide_eq_false_iff_not, beq_iff_eq, beq_eq_false_iff_ne, bne_iff_ne, bne_eq_false_iff_eq, Bool.not_eq_true', Bool.not_eq_false'] at hq; first | (exfalso; omega) | skip) | skip)) | refine aops_inc rfl rfl rfl (Nat.le_of_ble_eq_true rfl) rfl rfl (by omega) ?_ | refine aops_add rfl rfl rfl (Nat.le_of_ble_eq_true rfl) rfl rfl rfl (by omega) (by omega) ?_ | refine aops_sub rfl rfl rfl (Nat.le_of_ble_eq_true rfl) rfl rfl rfl (by omega) (by omega) ?_ | refine aops_list tabOk rfl rfl rfl (Nat.le_of_ble_eq_true rfl) rfl rfl rfl rfl rfl rfl rfl rfl rfl ?_ | refine aops_pure tabOk rfl rfl (Nat.le_of_ble_eq_true rfl) rfl ?_ | refine aops_alloc tabOk rfl rfl rfl (Nat.le_of_ble_eq_true rfl) rfl rfl rfl rfl rfl rfl ?_ | refine aops_loadm tabOk rfl rfl rfl (Nat.le_of_ble_eq_true rfl) rfl rfl rfl rfl ?_ | refine aops_storem tabOk rfl rfl rfl rfl rfl rfl rfl rfl rfl rfl rfl ?_ | refine aops_index tabOk rfl rfl rfl (Nat.le_of_ble_eq_true rfl) rfl rfl rfl rfl (by first | assumption | omega) ?_ | refine aops_index0 tabOk rfl rfl rfl (Nat.le_of_ble_eq_true rfl) rfl rfl rfl rfl (by first | rfl | omega) (by first | omega | simp) ?_ | refine aops_load1 tabOk rfl rfl rfl (Nat.le_of_ble_eq_true rfl) rfl rfl rfl (by assumption) ?_ | refine aops_load1 tabOk rfl rfl rfl (Nat.le_of_ble_eq_true rfl) rfl rfl rfl (ivs_get _ _ (by first | assumption | omega)) ?_ | refine aops_inc rfl rfl rfl (Nat.le_of_ble_eq_true rfl) rfl rfl (by omega) ?_ | ((fail_if_success (refine aops_lit (b := true) rfl rfl rfl ?_)); (fail_if_success (refine aops_lit (b := false) rfl rfl rfl ?_)); refine aops_guard rfl rfl rfl (fun hq => ?_) (fun hq => ?_) <;> first | subst hq | (first | (simp only [decide_eq_true_eq, decide_eq_false_iff_not, beq_iff_eq, beq_eq_false_iff_ne, bne_iff_ne, bne_eq_false_iff_eq, Bool.not_eq_true', Bool.not_eq_false'] at hq; first | (exfalso; omega) | skip) | skip)) | fail) | (refine awp_one ?_; first | refine awp_sreg ?_ | refine awp_seq ?_ | refine awp_region ?_ | refine awp_block ?_ | refine awp_ret ?_ | refine awp_exit ?_ | refine awp_skip ?_ | refine awp_cond (b := true) rfl (fun _ => ?_) (fun h => Bool.noConfusion h) | refine awp_cond (b := false) rfl (fun h => Bool.noConfusion h) (fun _ => ?_) | refine awp_scope ?_ | refine awp_label ?_ | refine awp_sdraw mixed (by kernel_rfl) ?_ | refine awp_region_draw mixed (by kernel_rfl) ?_ | (refine awp_cond rfl (fun hq => ?_) (fun hq => ?_) <;> first | subst hq | (first | (simp only [decide_eq_true_eq, decide_eq_false_iff_not, beq_iff_eq, beq_eq_false_iff_ne, bne_iff_ne, bne_eq_false_iff_eq, Bool.not_eq_true', Bool.not_eq_false'] at hq; first | (exfalso; omega) | skip) | skip)) | fail) | (refine then_one ?_; first | refine q_then ?_ | refine q_then_exit ?_ | refine q_then_ret ?_ | fail) | (refine block_one ?_; first | refine q_block ?_ | refine q_block_exit ?_ | refine q_block_pass (by decide) ?_ | refine q_block_ret ?_ | fail) | refine feet_one (feetOk_of (by kernel_rfl)) ?_ | fail)
      all_goals first
        | exact aexit_plain (by first | exact .inl rfl | exact .inr rfl) (results_1 rfl (resOk_tmp rfl)) rfl
        | exact absurd rfl (by assumption)
        | (exfalso; omega)
    · by_cases h0 : l.length = 0
      · have hT : listB l kind = false := by
          rw [Bool.eq_false_iff]
          intro hc2
          rcases ((listB_iff l kind).1 hc2).2.2 with h | h
          · exact h137 h
          · omega
        rw [hT]
        repeat' (first | refine aops_nil ?_ | (refine aops_one ?_; first | refine aops_quiet tabOk rfl rfl rfl (Nat.le_of_ble_eq_true rfl) rfl ?_ | refine aops_skip rfl rfl (Nat.le_of_ble_eq_true rfl) ?_ | (refine aops_cmp rfl rfl rfl (Nat.le_of_ble_eq_true rfl) rfl rfl rfl (fun hq => ?_) (fun hq => ?_) <;> (first | (simp only [decide_eq_true_eq, decide_eq_false_iff_not, beq_iff_eq, beq_eq_false_iff_ne, bne_iff_ne, bne_eq_false_iff_eq, Bool.not_eq_true', Bool.not_eq_false'] at hq; first | (exfalso; omega) | skip) | skip)) | refine aops_inc rfl rfl rfl (Nat.le_of_ble_eq_true rfl) rfl rfl (by omega) ?_ | refine aops_add rfl rfl rfl (Nat.le_of_ble_eq_true rfl) rfl rfl rfl (by omega) (by omega) ?_ | refine aops_sub rfl rfl rfl (Nat.le_of_ble_eq_true rfl) rfl rfl rfl (by omega) (by omega) ?_ | refine aops_list tabOk rfl rfl rfl (Nat.le_of_ble_eq_true rfl) rfl rfl rfl rfl rfl rfl rfl rfl rfl ?_ | refine aops_pure tabOk rfl rfl (Nat.le_of_ble_eq_true rfl) rfl ?_ | refine aops_alloc tabOk rfl rfl rfl (Nat.le_of_ble_eq_true rfl) rfl rfl rfl rfl rfl rfl ?_ | refine aops_loadm tabOk rfl rfl rfl (Nat.le_of_ble_eq_true rfl) rfl rfl rfl rfl ?_ | refine aops_storem tabOk rfl rfl rfl rfl rfl rfl rfl rfl rfl rfl rfl ?_ | refine aops_index tabOk rfl rfl rfl (Nat.le_of_ble_eq_true rfl) rfl rfl rfl rfl (by first | assumption | omega) ?_ | refine aops_index0 tabOk rfl rfl rfl (Nat.le_of_ble_eq_true rfl) rfl rfl rfl rfl (by first | rfl | omega) (by first | omega | simp) ?_ | refine aops_load1 tabOk rfl rfl rfl (Nat.le_of_ble_eq_true rfl) rfl rfl rfl (by assumption) ?_ | refine aops_load1 tabOk rfl rfl rfl (Nat.le_of_ble_eq_true rfl) rfl rfl rfl (ivs_get _ _ (by first | assumption | omega)) ?_ | refine aops_inc rfl rfl rfl (Nat.le_of_ble_eq_true rfl) rfl rfl (by omega) ?_ | ((fail_if_success (refine aops_lit (b := true) rfl rfl rfl ?_)); (fail_if_success (refine aops_lit (b := false) rfl rfl rfl ?_)); refine aops_guard rfl rfl rfl (fun hq => ?_) (fun hq => ?_) <;> first | subst hq | (first | (simp only [decide_eq_true_eq, decide_eq_false_iff_not, beq_iff_eq, beq_eq_false_iff_ne, bne_iff_ne, bne_eq_false_iff_eq, Bool.not_eq_true', Bool.not_eq_false'] at hq; first | (exfalso; omega) | skip) | skip)) | fail) | (refine awp_one ?_; first | refine awp_sreg ?_ | refine awp_seq ?_ | refine awp_region ?_ | refine awp_block ?_ | refine awp_ret ?_ | refine awp_exit ?_ | refine awp_skip ?_ | refine awp_cond (b := true) rfl (fun _ => ?_) (fun h => Bool.noConfusion h) | refine awp_cond (b := false) rfl (fun h => Bool.noConfusion h) (fun _ => ?_) | refine awp_scope ?_ | refine awp_label ?_ | refine awp_sdraw mixed (by kernel_rfl) ?_ | refine awp_region_draw mixed (by kernel_rfl) ?_ | (refine awp_cond rfl (fun hq => ?_) (fun hq => ?_) <;> first | subst hq | (first | (simp only [decide_eq_true_eq, decide_eq_false_iff_not, beq_iff_eq, beq_eq_false_iff_ne, bne_iff_ne, bne_eq_false_iff_eq, Bool.not_eq_true', Bool.not_eq_false'] at hq; first | (exfalso; omega) | skip) | skip)) | fail) | (refine then_one ?_; first | refine q_then ?_ | refine q_then_exit ?_ | refine q_then_ret ?_ | fail) | (refine block_one ?_; first | refine q_block ?_ | refine q_block_exit ?_ | refine q_block_pass (by decide) ?_ | refine q_block_ret ?_ | fail) | refine feet_one (feetOk_of (by kernel_rfl)) ?_ | fail)
        all_goals first
          | exact aexit_plain (by first | exact .inl rfl | exact .inr rfl) (results_1 rfl (resOk_tmp rfl)) rfl
          | exact absurd (by assumption) h137
          | (exfalso; omega)
      · have hT : listB l kind = true := (listB_iff l kind).2 ⟨fun q hq => hn q hq hq, fun j q hjq hq => hp j q hjq hq hq, .inr (by omega)⟩
        rw [hT]
        repeat' (first | refine aops_nil ?_ | (refine aops_one ?_; first | refine aops_quiet tabOk rfl rfl rfl (Nat.le_of_ble_eq_true rfl) rfl ?_ | refine aops_skip rfl rfl (Nat.le_of_ble_eq_true rfl) ?_ | (refine aops_cmp rfl rfl rfl (Nat.le_of_ble_eq_true rfl) rfl rfl rfl (fun hq => ?_) (fun hq => ?_) <;> (first | (simp only [decide_eq_true_eq, decide_eq_false_iff_not, beq_iff_eq, beq_eq_false_iff_ne, bne_iff_ne, bne_eq_false_iff_eq, Bool.not_eq_true', Bool.not_eq_false'] at hq; first | (exfalso; omega) | skip) | skip)) | refine aops_inc rfl rfl rfl (Nat.le_of_ble_eq_true rfl) rfl rfl (by omega) ?_ | refine aops_add rfl rfl rfl (Nat.le_of_ble_eq_true rfl) rfl rfl rfl (by omega) (by omega) ?_ | refine aops_sub rfl rfl rfl (Nat.le_of_ble_eq_true rfl) rfl rfl rfl (by omega) (by omega) ?_ | refine aops_list tabOk rfl rfl rfl (Nat.le_of_ble_eq_true rfl) rfl rfl rfl rfl rfl rfl rfl rfl rfl ?_ | refine aops_pure tabOk rfl rfl (Nat.le_of_ble_eq_true rfl) rfl ?_ | refine aops_alloc tabOk rfl rfl rfl (Nat.le_of_ble_eq_true rfl) rfl rfl rfl rfl rfl rfl ?_ | refine aops_loadm tabOk rfl rfl rfl (Nat.le_of_ble_eq_true rfl) rfl rfl rfl rfl ?_ | refine aops_storem tabOk rfl rfl rfl rfl rfl rfl rfl rfl rfl rfl rfl ?_ | refine aops_index tabOk rfl rfl rfl (Nat.le_of_ble_eq_true rfl) rfl rfl rfl rfl (by first | assumption | omega) ?_ | refine aops_index0 tabOk rfl rfl rfl (Nat.le_of_ble_eq_true rfl) rfl rfl rfl rfl (by first | rfl | omega) (by first | omega | simp) ?_ | refine aops_load1 tabOk rfl rfl rfl (Nat.le_of_ble_eq_true rfl) rfl rfl rfl (by assumption) ?_ | refine aops_load1 tabOk rfl rfl rfl (Nat.le_of_ble_eq_true rfl) rfl rfl rfl (ivs_get _ _ (by first | assumption | omega)) ?_ | refine aops_inc rfl rfl rfl (Nat.le_of_ble_eq_true rfl) rfl rfl (by omega) ?_ | ((fail_if_success (refine aops_lit (b := true) rfl rfl rfl ?_)); (fail_if_success (refine aops_lit (b := false) rfl rfl rfl ?_)); refine aops_guard rfl rfl rfl (fun hq => ?_) (fun hq => ?_) <;> first | subst hq | (first | (simp only [decide_eq_true_eq, decide_eq_false_iff_not, beq_iff_eq, beq_eq_false_iff_ne, bne_iff_ne, bne_eq_false_iff_eq, Bool.not_eq_true', Bool.not_eq_false'] at hq; first | (exfalso; omega) | skip) | skip)) | fail) | (refine awp_one ?_; first | refine awp_sreg ?_ | refine awp_seq ?_ | refine awp_region ?_ | refine awp_block ?_ | refine awp_ret ?_ | refine awp_exit ?_ | refine awp_skip ?_ | refine awp_cond (b := true) rfl (fun _ => ?_) (fun h => Bool.noConfusion h) | refine awp_cond (b := false) rfl (fun h => Bool.noConfusion h) (fun _ => ?_) | refine awp_scope ?_ | refine awp_label ?_ | refine awp_sdraw mixed (by kernel_rfl) ?_ | refine awp_region_draw mixed (by kernel_rfl) ?_ | (refine awp_cond rfl (fun hq => ?_) (fun hq => ?_) <;> first | subst hq | (first | (simp only [decide_eq_true_eq, decide_eq_false_iff_not, beq_iff_eq, beq_eq_false_iff_ne, bne_iff_ne, bne_eq_false_iff_eq, Bool.not_eq_true', Bool.not_eq_false'] at hq; first | (exfalso; omega) | skip) | skip)) | fail) | (refine then_one ?_; first | refine q_then ?_ | refine q_then_exit ?_ | refine q_then_ret ?_ | fail) | (refine block_one ?_; first | refine q_block ?_ | refine q_block_exit ?_ | refine q_block_pass (by decide) ?_ | refine q_block_ret ?_ | fail) | refine feet_one (feetOk_of (by kernel_rfl)) ?_ | fail)
        all_goals first
          | exact aexit_plain (by first | exact .inl rfl | exact .inr rfl) (results_1 rfl (resOk_tmp rfl)) rfl
          | exact absurd (by assumption) h137
          | (exfalso; omega)
end Go.Proofs.Ytlbemgokilhdnaa.Ab
namespace Go.Proofs.Ytlbemgokilhdnaa.Ab
set_option linter.unusedVariables false
set_option linter.unusedSimpArgs false
open Go.RowKit
attribute [local irreducible] AWP AOps AExit AThen ABlock ANoGoto FeetOk
def firstP (w : UInt8) (x : Tree) : Bool := if w = 99 then isConP x else if w = 107 then isKindP x else isTermP x
def partsP : List UInt8 → List Tree → Bool
  | [], l => l.isEmpty
  | w :: ws, l => if w = 102 ∧ ws = [] then listB l 137 else if w = 97 ∧ ws = [] then listB l 149 else match l with
    | [] => false
    | x :: r => firstP w x && partsP ws r
theorem partsP_nil (l : List Tree) : partsP [] l = l.isEmpty := by rw [partsP.eq_def]
theorem partsP_cons (w : UInt8) (ws : List UInt8) (l : List Tree) : partsP (w :: ws) l = if w = 102 ∧ ws = [] then listB l 137 else if w = 97 ∧ ws = [] then listB l 149 else match l with
    | [] => false
    | x :: r => firstP w x && partsP ws r := by rw [partsP.eq_def]
theorem baL (l : List UInt8) : (⟨l.toArray⟩ : ByteArray).toList = l := ByteArray.toList_mk l
theorem ivs_tail (x : Tree) (r : List Tree) : IV.sl false ((x :: r).length - 1) (((Tree.ivs (x :: r)).drop (1 * 1)).take (((x :: r).length - 1) * 1)) = .sl false r.length (Tree.ivs r) := by
  have := ivs_length r
  simp [Tree.ivs, this]
  exact List.take_of_length_le (by omega)
theorem ba_cut1 (w : UInt8) (ws : List UInt8) : (⟨(w :: ws).toArray⟩ : ByteArray).extract 1 (⟨(w :: ws).toArray⟩ : ByteArray).size = ⟨ws.toArray⟩ := by
  apply ByteArray.ext
  apply Array.ext'
  rw [ByteArray.data_extract, Array.toList_extract]
  simp [List.extract_eq_take_drop, ByteArray.size]
theorem byte_iff (w v : UInt8) : ((w.toNat : Int) = (v.toNat : Int)) ↔ w = v := by
  constructor
  · intro e
    apply UInt8.toNat_inj.1
    omega
  · intro e; rw [e]
set_option maxHeartbeats 16000000 in
set_option maxRecDepth 10000 in
theorem parts_a : ∀ (ws : List UInt8) (l : List Tree), Tree.wholes l = true → Tree.sizes l ≤ 1000000 → l.length < 1000000000 → ws.length ≤ 1000 →
    (∀ t', t'.size ≤ Tree.sizes l → t'.whole = true → ACalls Try.prog 61 [.imm t'.iv] [] (.imm (.lit (.bool (isTermP t')))) []) →
    ACalls Try.prog 100 [.imm (.sl false l.length (Tree.ivs l)), .imm (.lit (.string ⟨ws.toArray⟩))] [] (.imm (.lit (.bool (partsP ws l)))) []
  | [], l, h, hsz, hl, hw, hc => by
    rw [partsP_nil]
    cases l with
    | nil =>
      refine acalls_plain Try.func100 rfl rfl (Nat.le_of_ble_eq_true rfl) rfl ?_
      repeat' (first | refine aops_nil ?_ | (refine aops_one ?_; first | refine aops_quiet tabOk rfl rfl rfl (Nat.le_of_ble_eq_true rfl) rfl ?_ | refine aops_skip rfl rfl (Nat.le_of_ble_eq_true rfl) ?_ | (refine aops_cmp rfl rfl rfl (Nat.le_of_ble_eq_true rfl) rfl rfl rfl (fun hq => ?_) (fun hq => ?_) <;> (first | (simp only [decide_eq_true_eq, decide_eq_false_iff_not, beq_iff_eq, beq_eq_false_iff_ne, bne_iff_ne, bne_eq_false_iff_eq, Bool.not_eq_true', Bool.not_eq_false'] at hq; first | (exfalso; omega) | skip) | skip)) | refine aops_inc rfl rfl rfl (Nat.le_of_ble_eq_true rfl) rfl rfl (by omega) ?_ | refine aops_add rfl rfl rfl (Nat.le_of_ble_eq_true rfl) rfl rfl rfl (by omega) (by omega) ?_ | refine aops_sub rfl rfl rfl (Nat.le_of_ble_eq_true rfl) rfl rfl rfl (by omega) (by omega) ?_ | refine aops_list tabOk rfl rfl rfl (Nat.le_of_ble_eq_true rfl) rfl rfl rfl rfl rfl rfl rfl rfl rfl ?_ | refine aops_pure tabOk rfl rfl (Nat.le_of_ble_eq_true rfl) rfl ?_ | refine aops_alloc tabOk rfl rfl rfl (Nat.le_of_ble_eq_true rfl) rfl rfl rfl rfl rfl rfl ?_ | refine aops_loadm tabOk rfl rfl rfl (Nat.le_of_ble_eq_true rfl) rfl rfl rfl rfl ?_ | refine aops_storem tabOk rfl rfl rfl rfl rfl rfl rfl rfl rfl rfl rfl ?_ | refine aops_index tabOk rfl rfl rfl (Nat.le_of_ble_eq_true rfl) rfl rfl rfl rfl (by first | assumption | omega) ?_ | refine aops_index0 tabOk rfl rfl rfl (Nat.le_of_ble_eq_true rfl) rfl rfl rfl rfl (by first | rfl | omega) (by first | omega | simp) ?_ | refine aops_load1 tabOk rfl rfl rfl (Nat.le_of_ble_eq_true rfl) rfl rfl rfl (by assumption) ?_ | refine aops_load1 tabOk rfl rfl rfl (Nat.le_of_ble_eq_true rfl) rfl rfl rfl (ivs_get _ _ (by first | assumption | omega)) ?_ | refine aops_inc rfl rfl rfl (Nat.le_of_ble_eq_true rfl) rfl rfl (by omega) ?_ | ((fail_if_success (refine aops_lit (b := true) rfl rfl rfl ?_)); (fail_if_success (refine aops_lit (b := false) rfl rfl rfl ?_)); refine aops_guard rfl rfl rfl (fun hq => ?_) (fun hq => ?_) <;> first | subst hq | (first | (simp only [decide_eq_true_eq, decide_eq_false_iff_not, beq_iff_eq, beq_eq_false_iff_ne, bne_iff_ne, bne_eq_false_iff_eq, Bool.not_eq_true', Bool.not_eq_false'] at hq; first | (exfalso; omega) | skip) | skip)) | fail) | (refine awp_one ?_; first | refine awp_sreg ?_ | refine awp_seq ?_ | refine awp_region ?_ | refine awp_block ?_ | refine awp_ret ?_ | refine awp_exit ?_ | refine awp_skip ?_ | refine awp_cond (b := true) rfl (fun _ => ?_) (fun h => Bool.noConfusion h) | refine awp_cond (b := false) rfl (fun h => Bool.noConfusion h) (fun _ => ?_) | refine awp_scope ?_ | refine awp_label ?_ | refine awp_sdraw mixed (by kernel_rfl) ?_ | refine awp_region_draw mixed (by kernel_rfl) ?_ | (refine awp_cond rfl (fun hq => ?_) (fun hq => ?_) <;> first | subst hq | (first | (simp only [decide_eq_true_eq, decide_eq_false_iff_not, beq_iff_eq, beq_eq_false_iff_ne, bne_iff_ne, bne_eq_false_iff_eq, Bool.not_eq_true', Bool.not_eq_false'] at hq; first | (exfalso; omega) | skip) | skip)) | fail) | (refine then_one ?_; first | refine q_then ?_ | refine q_then_exit ?_ | refine q_then_ret ?_ | fail) | (refine block_one ?_; first | refine q_block ?_ | refine q_block_exit ?_ | refine q_block_pass (by decide) ?_ | refine q_block_ret ?_ | fail) | refine feet_one (feetOk_of (by kernel_rfl)) ?_ | fail)
      all_goals first
        | exact aexit_plain (by first | exact .inl rfl | exact .inr rfl) (results_1 rfl (resOk_tmp rfl)) rfl
        | exact absurd rfl (by assumption)
    | cons x r =>
      refine acalls_plain Try.func100 rfl rfl (Nat.le_of_ble_eq_true rfl) rfl ?_
      repeat' (first | refine aops_nil ?_ | (refine aops_one ?_; first | refine aops_quiet tabOk rfl rfl rfl (Nat.le_of_ble_eq_true rfl) rfl ?_ | refine aops_skip rfl rfl (Nat.le_of_ble_eq_true rfl) ?_ | (refine aops_cmp rfl rfl rfl (Nat.le_of_ble_eq_true rfl) rfl rfl rfl (fun hq => ?_) (fun hq => ?_) <;> (first | (simp only [decide_eq_true_eq, decide_eq_false_iff_not, beq_iff_eq, beq_eq_false_iff_ne, bne_iff_ne, bne_eq_false_iff_eq, Bool.not_eq_true', Bool.not_eq_false'] at hq; first | (exfalso; omega) | skip) | skip)) | refine aops_inc rfl rfl rfl (Nat.le_of_ble_eq_true rfl) rfl rfl (by omega) ?_ | refine aops_add rfl rfl rfl (Nat.le_of_ble_eq_true rfl) rfl rfl rfl (by omega) (by omega) ?_ | refine aops_sub rfl rfl rfl (Nat.le_of_ble_eq_true rfl) rfl rfl rfl (by omega) (by omega) ?_ | refine aops_list tabOk rfl rfl rfl (Nat.le_of_ble_eq_true rfl) rfl rfl rfl rfl rfl rfl rfl rfl rfl ?_ | refine aops_pure tabOk rfl rfl (Nat.le_of_ble_eq_true rfl) rfl ?_ | refine aops_alloc tabOk rfl rfl rfl (Nat.le_of_ble_eq_true rfl) rfl rfl rfl rfl rfl rfl ?_ | refine aops_loadm tabOk rfl rfl rfl (Nat.le_of_ble_eq_true rfl) rfl rfl rfl rfl ?_ | refine aops_storem tabOk rfl rfl rfl rfl rfl rfl rfl rfl rfl rfl rfl ?_ | refine aops_index tabOk rfl rfl rfl (Nat.le_of_ble_eq_true rfl) rfl rfl rfl rfl (by first | assumption | omega) ?_ | refine aops_index0 tabOk rfl rfl rfl (Nat.le_of_ble_eq_true rfl) rfl rfl rfl rfl (by first | rfl | omega) (by first | omega | simp) ?_ | refine aops_load1 tabOk rfl rfl rfl (Nat.le_of_ble_eq_true rfl) rfl rfl rfl (by assumption) ?_ | refine aops_load1 tabOk rfl rfl rfl (Nat.le_of_ble_eq_true rfl) rfl rfl rfl (ivs_get _ _ (by first | assumption | omega)) ?_ | refine aops_inc rfl rfl rfl (Nat.le_of_ble_eq_true rfl) rfl rfl (by omega) ?_ | ((fail_if_success (refine aops_lit (b := true) rfl rfl rfl ?_)); (fail_if_success (refine aops_lit (b := false) rfl rfl rfl ?_)); refine aops_guard rfl rfl rfl (fun hq => ?_) (fun hq => ?_) <;> first | subst hq | (first | (simp only [decide_eq_true_eq, decide_eq_false_iff_not, beq_iff_eq, beq_eq_false_iff_ne, bne_iff_ne, bne_eq_false_iff_eq, Bool.not_eq_true', Bool.not_eq_false'] at hq; first | (exfalso; omega) | skip) | skip)) | fail) | (refine awp_one ?_; first | refine awp_sreg ?_ | refine awp_seq ?_ | refine awp_region ?_ | refine awp_block ?_ | refine awp_ret ?_ | refine awp_exit ?_ | refine awp_skip ?_ | refine awp_cond (b := true) rfl (fun _ => ?_) (fun h => Bool.noConfusion h) | refine awp_cond (b := false) rfl (fun h => Bool.noConfusion h) (fun _ => ?_) | refine awp_scope ?_ | refine awp_label ?_ | refine awp_sdraw mixed (by kernel_rfl) ?_ | refine awp_region_draw mixed (by kernel_rfl) ?_ | (refine awp_cond rfl (fun hq => ?_) (fun hq => ?_) <;> first | subst hq | (first | (simp only [decide_eq_true_eq, decide_eq_false_iff_not, beq_iff_eq, beq_eq_false_iff_ne, bne_iff_ne, bne_eq_false_iff_eq, Bool.not_eq_true', Bool.not_eq_false'] at hq; first | (exfalso; omega) | skip) | skip)) | fail) | (refine then_one ?_; first | refine q_then ?_ | refine q_then_exit ?_ | refine q_then_ret ?_ | fail) | (refine block_one ?_; first | refine q_block ?_ | refine q_block_exit ?_ | refine q_block_pass (by decide) ?_ | refine q_block_ret ?_ | fail) | refine feet_one (feetOk_of (by kernel_rfl)) ?_ | fail)
      all_goals first
        | (refine aexit_eq (by first | exact .inl rfl | exact .inr rfl) (results_1 rfl (resOk_tmp rfl)) rfl ?_; refine bool_eq ?_; simp_all [List.length_cons]; done)
        | exact absurd rfl (by assumption)
        | (exfalso; simp only [List.length_cons] at *; omega)
  | w :: ws, l, h, hsz, hl, hw, hc => by
    have n1 : ¬ ((⟨(w :: ws).toArray⟩ : ByteArray).toList = (⟨#[]⟩ : ByteArray).toList) := fun e => by
      rw [baL] at e
      have e2 : (⟨#[]⟩ : ByteArray).toList = [] := baL []
      rw [e2] at e; cases e
    have n2 : (⟨(w :: ws).toArray⟩ : ByteArray).toList = (⟨#[102]⟩ : ByteArray).toList ↔ (w = 102 ∧ ws = []) := by
      have e2 : (⟨#[102]⟩ : ByteArray).toList = [102] := baL [102]
      rw [baL, e2]; simp
    have n3 : (⟨(w :: ws).toArray⟩ : ByteArray).toList = (⟨#[97]⟩ : ByteArray).toList ↔ (w = 97 ∧ ws = []) := by
      have e2 : (⟨#[97]⟩ : ByteArray).toList = [97] := baL [97]
      rw [baL, e2]; simp
    have hg : (⟨(w :: ws).toArray⟩ : ByteArray)[0]? = some w := rfl
    have hcut := ba_cut1 w ws
    have hbz : (⟨(w :: ws).toArray⟩ : ByteArray).size = ws.length + 1 := by simp [ByteArray.size]
    rw [partsP_cons]
    by_cases h102 : w = 102 ∧ ws = []
    · rw [if_pos h102]
      have cl := list_a l 137 h hl (fun t' h1 h2 => hc t' (by omega) h2)
      have n2 := n2.2 h102
      generalize (⟨(w :: ws).toArray⟩ : ByteArray) = S at *
      refine acalls_plain Try.func100 rfl rfl (Nat.le_of_ble_eq_true rfl) rfl ?_
      repeat' (first | refine aops_nil ?_ | (refine aops_one ?_; first | refine aops_quiet tabOk rfl rfl rfl (Nat.le_of_ble_eq_true rfl) rfl ?_ | refine aops_skip rfl rfl (Nat.le_of_ble_eq_true rfl) ?_ | (refine aops_cmp rfl rfl rfl (Nat.le_of_ble_eq_true rfl) rfl rfl rfl (fun hq => ?_) (fun hq => ?_) <;> (first | (simp only [decide_eq_true_eq, decide_eq_false_iff_not, beq_iff_eq, beq_eq_false_iff_ne, bne_iff_ne, bne_eq_false_iff_eq, Bool.not_eq_true', Bool.not_eq_false'] at hq; first | (exfalso; omega) | skip) | skip))| refine aops_call rfl rfl (Nat.le_of_ble_eq_true rfl) rfl rfl rfl rfl (cl) ?_ | refine aops_inc rfl rfl rfl (Nat.le_of_ble_eq_true rfl) rfl rfl (by omega) ?_ | refine aops_add rfl rfl rfl (Nat.le_of_ble_eq_true rfl) rfl rfl rfl (by omega) (by omega) ?_ | refine aops_sub rfl rfl rfl (Nat.le_of_ble_eq_true rfl) rfl rfl rfl (by omega) (by omega) ?_ | refine aops_list tabOk rfl rfl rfl (Nat.le_of_ble_eq_true rfl) rfl rfl rfl rfl rfl rfl rfl rfl rfl ?_ | refine aops_pure tabOk rfl rfl (Nat.le_of_ble_eq_true rfl) rfl ?_ | refine aops_alloc tabOk rfl rfl rfl (Nat.le_of_ble_eq_true rfl) rfl rfl rfl rfl rfl rfl ?_ | refine aops_loadm tabOk rfl rfl rfl (Nat.le_of_ble_eq_true rfl) rfl rfl rfl rfl ?_ | refine aops_storem tabOk rfl rfl rfl rfl rfl rfl rfl rfl rfl rfl rfl ?_ | refine aops_index tabOk rfl rfl rfl (Nat.le_of_ble_eq_true rfl) rfl rfl rfl rfl (by first | assumption | omega) ?_ | refine aops_index0 tabOk rfl rfl rfl (Nat.le_of_ble_eq_true rfl) rfl rfl rfl rfl (by first | rfl | omega) (by first | omega | simp) ?_ | refine aops_load1 tabOk rfl rfl rfl (Nat.le_of_ble_eq_true rfl) rfl rfl rfl (by assumption) ?_ | refine aops_load1 tabOk rfl rfl rfl (Nat.le_of_ble_eq_true rfl) rfl rfl rfl (ivs_get _ _ (by first | assumption | omega)) ?_ | refine aops_inc rfl rfl rfl (Nat.le_of_ble_eq_true rfl) rfl rfl (by omega) ?_ | ((fail_if_success (refine aops_lit (b := true) rfl rfl rfl ?_)); (fail_if_success (refine aops_lit (b := false) rfl rfl rfl ?_)); refine aops_guard rfl rfl rfl (fun hq => ?_) (fun hq => ?_) <;> first | subst hq | (first | (simp only [decide_eq_true_eq, decide_eq_false_iff_not, beq_iff_eq, beq_eq_false_iff_ne, bne_iff_ne, bne_eq_false_iff_eq, Bool.not_eq_true', Bool.not_eq_false'] at hq; first | (exfalso; omega) | skip) | skip)) | fail) | (refine awp_one ?_; first | refine awp_sreg ?_ | refine awp_seq ?_ | refine awp_region ?_ | refine awp_block ?_ | refine awp_ret ?_ | refine awp_exit ?_ | refine awp_skip ?_ | refine awp_cond (b := true) rfl (fun _ => ?_) (fun h => Bool.noConfusion h) | refine awp_cond (b := false) rfl (fun h => Bool.noConfusion h) (fun _ => ?_) | refine awp_scope ?_ | refine awp_label ?_ | refine awp_sdraw mixed (by kernel_rfl) ?_ | refine awp_region_draw mixed (by kernel_rfl) ?_ | (refine awp_cond rfl (fun hq => ?_) (fun hq => ?_) <;> first | subst hq | (first | (simp only [decide_eq_true_eq, decide_eq_false_iff_not, beq_iff_eq, beq_eq_false_iff_ne, bne_iff_ne, bne_eq_false_iff_eq, Bool.not_eq_true', Bool.not_eq_false'] at hq; first | (exfalso; omega) | skip) | skip)) | fail) | (refine then_one ?_; first | refine q_then ?_ | refine q_then_exit ?_ | refine q_then_ret ?_ | fail) | (refine block_one ?_; first | refine q_block ?_ | refine q_block_exit ?_ | refine q_block_pass (by decide) ?_ | refine q_block_ret ?_ | fail) | refine feet_one (feetOk_of (by kernel_rfl)) ?_ | fail)
      all_goals first
        | exact aexit_plain (by first | exact .inl rfl | exact .inr rfl) (results_1 rfl (resOk_tmp rfl)) rfl
        | exact absurd (by assumption) n1
        | exact absurd n2 (by assumption)
    · rw [if_neg h102]
      have n2 : ¬ _ := fun e => h102 (n2.1 e)
      by_cases h97 : w = 97 ∧ ws = []
      · rw [if_pos h97]
        have cl := list_a l 149 h hl (fun t' h1 h2 => hc t' (by omega) h2)
        have n3 := n3.2 h97
        generalize (⟨(w :: ws).toArray⟩ : ByteArray) = S at *
        refine acalls_plain Try.func100 rfl rfl (Nat.le_of_ble_eq_true rfl) rfl ?_
        repeat' (first | refine aops_nil ?_ | (refine aops_one ?_; first | refine aops_quiet tabOk rfl rfl rfl (Nat.le_of_ble_eq_true rfl) rfl ?_ | refine aops_skip rfl rfl (Nat.le_of_ble_eq_true rfl) ?_ | (refine aops_cmp rfl rfl rfl (Nat.le_of_ble_eq_true rfl) rfl rfl rfl (fun hq => ?_) (fun hq => ?_) <;> (first | (simp only [decide_eq_true_eq, decide_eq_false_iff_not, beq_iff_eq, beq_eq_false_iff_ne, bne_iff_ne, bne_eq_false_iff_eq, Bool.not_eq_true', Bool.not_eq_false'] at hq; first | (exfalso; omega) | skip) | skip))| refine aops_call rfl rfl (Nat.le_of_ble_eq_true rfl) rfl rfl rfl rfl (cl) ?_ | refine aops_inc rfl rfl rfl (Nat.le_of_ble_eq_true rfl) rfl rfl (by omega) ?_ | refine aops_add rfl rfl rfl (Nat.le_of_ble_eq_true rfl) rfl rfl rfl (by omega) (by omega) ?_ | refine aops_sub rfl rfl rfl (Nat.le_of_ble_eq_true rfl) rfl rfl rfl (by omega) (by omega) ?_ | refine aops_list tabOk rfl rfl rfl (Nat.le_of_ble_eq_true rfl) rfl rfl rfl rfl rfl rfl rfl rfl rfl ?_ | refine aops_pure tabOk rfl rfl (Nat.le_of_ble_eq_true rfl) rfl ?_ | refine aops_alloc tabOk rfl rfl rfl (Nat.le_of_ble_eq_true rfl) rfl rfl rfl rfl rfl rfl ?_ | refine aops_loadm tabOk rfl rfl rfl (Nat.le_of_ble_eq_true rfl) rfl rfl rfl rfl ?_ | refine aops_storem tabOk rfl rfl rfl rfl rfl rfl rfl rfl rfl rfl rfl ?_ | refine aops_index tabOk rfl rfl rfl (Nat.le_of_ble_eq_true rfl) rfl rfl rfl rfl (by first | assumption | omega) ?_ | refine aops_index0 tabOk rfl rfl rfl (Nat.le_of_ble_eq_true rfl) rfl rfl rfl rfl (by first | rfl | omega) (by first | omega | simp) ?_ | refine aops_load1 tabOk rfl rfl rfl (Nat.le_of_ble_eq_true rfl) rfl rfl rfl (by assumption) ?_ | refine aops_load1 tabOk rfl rfl rfl (Nat.le_of_ble_eq_true rfl) rfl rfl rfl (ivs_get _ _ (by first | assumption | omega)) ?_ | refine aops_inc rfl rfl rfl (Nat.le_of_ble_eq_true rfl) rfl rfl (by omega) ?_ | ((fail_if_success (refine aops_lit (b := true) rfl rfl rfl ?_)); (fail_if_success (refine aops_lit (b := false) rfl rfl rfl ?_)); refine aops_guard rfl rfl rfl (fun hq => ?_) (fun hq => ?_) <;> first | subst hq | (first | (simp only [decide_eq_true_eq, decide_eq_false_iff_not, beq_iff_eq, beq_eq_false_iff_ne, bne_iff_ne, bne_eq_false_iff_eq, Bool.not_eq_true', Bool.not_eq_false'] at hq; first | (exfalso; omega) | skip) | skip)) | fail) | (refine awp_one ?_; first | refine awp_sreg ?_ | refine awp_seq ?_ | refine awp_region ?_ | refine awp_block ?_ | refine awp_ret ?_ | refine awp_exit ?_ | refine awp_skip ?_ | refine awp_cond (b := true) rfl (fun _ => ?_) (fun h => Bool.noConfusion h) | refine awp_cond (b := false) rfl (fun h => Bool.noConfusion h) (fun _ => ?_) | refine awp_scope ?_ | refine awp_label ?_ | refine awp_sdraw mixed (by kernel_rfl) ?_ | refine awp_region_draw mixed (by kernel_rfl) ?_ | (refine awp_cond rfl (fun hq => ?_) (fun hq => ?_) <;> first | subst hq | (first | (simp only [decide_eq_true_eq, decide_eq_false_iff_not, beq_iff_eq, beq_eq_false_iff_ne, bne_iff_ne, bne_eq_false_iff_eq, Bool.not_eq_true', Bool.not_eq_false'] at hq; first | (exfalso; omega) | skip) | skip)) | fail) | (refine then_one ?_; first | refine q_then ?_ | refine q_then_exit ?_ | refine q_then_ret ?_ | fail) | (refine block_one ?_; first | refine q_block ?_ | refine q_block_exit ?_ | refine q_block_pass (by decide) ?_ | refine q_block_ret ?_ | fail) | refine feet_one (feetOk_of (by kernel_rfl)) ?_ | fail)
        all_goals first
          | exact aexit_plain (by first | exact .inl rfl | exact .inr rfl) (results_1 rfl (resOk_tmp rfl)) rfl
          | exact absurd (by assumption) n1
          | exact absurd (by assumption) n2
          | exact absurd n3 (by assumption)
      · rw [if_neg h97]
        have n3 : ¬ _ := fun e => h97 (n3.1 e)
        cases l with
        | nil =>
          generalize (⟨(w :: ws).toArray⟩ : ByteArray) = S at *
          refine acalls_plain Try.func100 rfl rfl (Nat.le_of_ble_eq_true rfl) rfl ?_
          repeat' (first | refine aops_nil ?_ | (refine aops_one ?_; first | refine aops_quiet tabOk rfl rfl rfl (Nat.le_of_ble_eq_true rfl) rfl ?_ | refine aops_skip rfl rfl (Nat.le_of_ble_eq_true rfl) ?_ | (refine aops_cmp rfl rfl rfl (Nat.le_of_ble_eq_true rfl) rfl rfl rfl (fun hq => ?_) (fun hq => ?_) <;> (first | (simp only [decide_eq_true_eq, decide_eq_false_iff_not, beq_iff_eq, beq_eq_false_iff_ne, bne_iff_ne, bne_eq_false_iff_eq, Bool.not_eq_true', Bool.not_eq_false'] at hq; first | (exfalso; omega) | skip) | skip)) | refine aops_inc rfl rfl rfl (Nat.le_of_ble_eq_true rfl) rfl rfl (by omega) ?_ | refine aops_add rfl rfl rfl (Nat.le_of_ble_eq_true rfl) rfl rfl rfl (by omega) (by omega) ?_ | refine aops_sub rfl rfl rfl (Nat.le_of_ble_eq_true rfl) rfl rfl rfl (by omega) (by omega) ?_ | refine aops_list tabOk rfl rfl rfl (Nat.le_of_ble_eq_true rfl) rfl rfl rfl rfl rfl rfl rfl rfl rfl ?_ | refine aops_pure tabOk rfl rfl (Nat.le_of_ble_eq_true rfl) rfl ?_ | refine aops_alloc tabOk rfl rfl rfl (Nat.le_of_ble_eq_true rfl) rfl rfl rfl rfl rfl rfl ?_ | refine aops_loadm tabOk rfl rfl rfl (Nat.le_of_ble_eq_true rfl) rfl rfl rfl rfl ?_ | refine aops_storem tabOk rfl rfl rfl rfl rfl rfl rfl rfl rfl rfl rfl ?_ | refine aops_index tabOk rfl rfl rfl (Nat.le_of_ble_eq_true rfl) rfl rfl rfl rfl (by first | assumption | omega) ?_ | refine aops_index0 tabOk rfl rfl rfl (Nat.le_of_ble_eq_true rfl) rfl rfl rfl rfl (by first | rfl | omega) (by first | omega | simp) ?_ | refine aops_load1 tabOk rfl rfl rfl (Nat.le_of_ble_eq_true rfl) rfl rfl rfl (by assumption) ?_ | refine aops_load1 tabOk rfl rfl rfl (Nat.le_of_ble_eq_true rfl) rfl rfl rfl (ivs_get _ _ (by first | assumption | omega)) ?_ | refine aops_inc rfl rfl rfl (Nat.le_of_ble_eq_true rfl) rfl rfl (by omega) ?_ | ((fail_if_success (refine aops_lit (b := true) rfl rfl rfl ?_)); (fail_if_success (refine aops_lit (b := false) rfl rfl rfl ?_)); refine aops_guard rfl rfl rfl (fun hq => ?_) (fun hq => ?_) <;> first | subst hq | (first | (simp only [decide_eq_true_eq, decide_eq_false_iff_not, beq_iff_eq, beq_eq_false_iff_ne, bne_iff_ne, bne_eq_false_iff_eq, Bool.not_eq_true', Bool.not_eq_false'] at hq; first | (exfalso; omega) | skip) | skip)) | fail) | (refine awp_one ?_; first | refine awp_sreg ?_ | refine awp_seq ?_ | refine awp_region ?_ | refine awp_block ?_ | refine awp_ret ?_ | refine awp_exit ?_ | refine awp_skip ?_ | refine awp_cond (b := true) rfl (fun _ => ?_) (fun h => Bool.noConfusion h) | refine awp_cond (b := false) rfl (fun h => Bool.noConfusion h) (fun _ => ?_) | refine awp_scope ?_ | refine awp_label ?_ | refine awp_sdraw mixed (by kernel_rfl) ?_ | refine awp_region_draw mixed (by kernel_rfl) ?_ | (refine awp_cond rfl (fun hq => ?_) (fun hq => ?_) <;> first | subst hq | (first | (simp only [decide_eq_true_eq, decide_eq_false_iff_not, beq_iff_eq, beq_eq_false_iff_ne, bne_iff_ne, bne_eq_false_iff_eq, Bool.not_eq_true', Bool.not_eq_false'] at hq; first | (exfalso; omega) | skip) | skip)) | fail) | (refine then_one ?_; first | refine q_then ?_ | refine q_then_exit ?_ | refine q_then_ret ?_ | fail) | (refine block_one ?_; first | refine q_block ?_ | refine q_block_exit ?_ | refine q_block_pass (by decide) ?_ | refine q_block_ret ?_ | fail) | refine feet_one (feetOk_of (by kernel_rfl)) ?_ | fail)
          all_goals first
            | exact aexit_plain (by first | exact .inl rfl | exact .inr rfl) (results_1 rfl (resOk_tmp rfl)) rfl
            | exact absurd (by assumption) n1
            | exact absurd (by assumption) n2
            | exact absurd (by assumption) n3
            | exact absurd rfl (by assumption)
        | cons x r =>
          have hx : x.whole = true := wholes_mem h List.mem_cons_self
          have hr : Tree.wholes r = true := by rw [Tree.wholes, Bool.and_eq_true] at h; exact h.2
          rw [Tree.sizes] at hsz hc
          have hrl : r.length < 1000000000 := by rw [List.length_cons] at hl; omega
          have ct := parts_a ws r hr (by omega) hrl (by rw [List.length_cons] at hw; omega) (fun t' h1 h2 => hc t' (by omega) h2)
          have c1 := rCon_a x hx (by omega)
          have c2 := rKind_a x hx
          have c3 := hc x (by omega) hx
          have htl := ivs_tail x r
          have h0 : (Tree.ivs (x :: r))[0 * 1]? = some x.iv := rfl
          obtain ⟨k1, n1', a1, b1, ks1, e1⟩ := whole_node hx
          have hxi : ∃ cs, x.iv = .ptr cs 0 := by rw [e1]; exact ⟨_, rfl⟩
          obtain ⟨pc, hpc⟩ := hxi
          have hw99 := byte_iff w 99
          have hw107 := byte_iff w 107
          dsimp only
          unfold firstP
          generalize (⟨(w :: ws).toArray⟩ : ByteArray) = S at *
          generalize (⟨ws.toArray⟩ : ByteArray) = S' at *
          generalize partsP ws r = Q at *
          have hlc : (x :: r).length = r.length + 1 := rfl
          by_cases h99 : w = 99
          · rw [if_pos h99]
            have g1 : (w.toNat : Int) = 99 := hw99.2 h99
            clear hw107 hw99
            generalize isConP x = B at *
            cases B <;>
            (refine acalls_plain Try.func100 rfl rfl (Nat.le_of_ble_eq_true rfl) rfl ?_
             repeat' (first | refine aops_nil ?_ | (refine aops_one ?_; first | refine aops_quiet tabOk rfl rfl rfl (Nat.le_of_ble_eq_true rfl) rfl ?_ | refine aops_skip rfl rfl (Nat.le_of_ble_eq_true rfl) ?_ | (refine aops_cmp rfl rfl rfl (Nat.le_of_ble_eq_true rfl) rfl rfl rfl (fun hq => ?_) (fun hq => ?_) <;> (first | (simp only [decide_eq_true_eq, decide_eq_false_iff_not, beq_iff_eq, beq_eq_false_iff_ne, bne_iff_ne, bne_eq_false_iff_eq, Bool.not_eq_true', Bool.not_eq_false'] at hq; first | (exfalso; omega) | skip) | skip))| refine aops_byte (j := 0) tabOk rfl rfl rfl (Nat.le_of_ble_eq_true rfl) rfl rfl rfl rfl hg ?_ | refine aops_index0 (j := 0) tabOk rfl rfl rfl (Nat.le_of_ble_eq_true rfl) rfl rfl rfl rfl (by omega) (by omega) ?_ | refine aops_load1 tabOk rfl rfl rfl (Nat.le_of_ble_eq_true rfl) rfl rfl rfl h0 ?_ | refine aops_call rfl rfl (Nat.le_of_ble_eq_true rfl) rfl rfl rfl rfl (c1) ?_ | refine aops_call rfl rfl (Nat.le_of_ble_eq_true rfl) rfl rfl rfl rfl (c2) ?_ | refine aops_call rfl rfl (Nat.le_of_ble_eq_true rfl) rfl rfl rfl rfl (c3) ?_ | refine aops_call rfl rfl (Nat.le_of_ble_eq_true rfl) rfl rfl rfl rfl (ct) ?_ | refine aops_slice (l := 1) (h := (x :: r).length) tabOk rfl rfl rfl (Nat.le_of_ble_eq_true rfl) rfl rfl rfl rfl rfl (by omega) (Nat.le_refl _) htl ?_ | refine aops_cut (l := 1) tabOk rfl rfl rfl (Nat.le_of_ble_eq_true rfl) rfl rfl rfl rfl (by omega) (Nat.le_refl _) hcut ?_ | refine aops_inc rfl rfl rfl (Nat.le_of_ble_eq_true rfl) rfl rfl (by omega) ?_ | refine aops_add rfl rfl rfl (Nat.le_of_ble_eq_true rfl) rfl rfl rfl (by omega) (by omega) ?_ | refine aops_sub rfl rfl rfl (Nat.le_of_ble_eq_true rfl) rfl rfl rfl (by omega) (by omega) ?_ | refine aops_list tabOk rfl rfl rfl (Nat.le_of_ble_eq_true rfl) rfl rfl rfl rfl rfl rfl rfl rfl rfl ?_ | refine aops_pure tabOk rfl rfl (Nat.le_of_ble_eq_true rfl) rfl ?_ | refine aops_alloc tabOk rfl rfl rfl (Nat.le_of_ble_eq_true rfl) rfl rfl rfl rfl rfl rfl ?_ | refine aops_loadm tabOk rfl rfl rfl (Nat.le_of_ble_eq_true rfl) rfl rfl rfl rfl ?_ | refine aops_storem tabOk rfl rfl rfl rfl rfl rfl rfl rfl rfl rfl rfl ?_ | refine aops_index tabOk rfl rfl rfl (Nat.le_of_ble_eq_true rfl) rfl rfl rfl rfl (by first | assumption | omega) ?_ | refine aops_index0 tabOk rfl rfl rfl (Nat.le_of_ble_eq_true rfl) rfl rfl rfl rfl (by first | rfl | omega) (by first | omega | simp) ?_ | refine aops_load1 tabOk rfl rfl rfl (Nat.le_of_ble_eq_true rfl) rfl rfl rfl (by assumption) ?_ | refine aops_load1 tabOk rfl rfl rfl (Nat.le_of_ble_eq_true rfl) rfl rfl rfl (ivs_get _ _ (by first | assumption | omega)) ?_ | refine aops_inc rfl rfl rfl (Nat.le_of_ble_eq_true rfl) rfl rfl (by omega) ?_ | ((fail_if_success (refine aops_lit (b := true) rfl rfl rfl ?_)); (fail_if_success (refine aops_lit (b := false) rfl rfl rfl ?_)); refine aops_guard rfl rfl rfl (fun hq => ?_) (fun hq => ?_) <;> first | subst hq | (first | (simp only [decide_eq_true_eq, decide_eq_false_iff_not, beq_iff_eq, beq_eq_false_iff_ne, bne_iff_ne, bne_eq_false_iff_eq, Bool.not_eq_true', Bool.not_eq_false'] at hq; first | (exfalso; omega) | skip) | skip)) | fail) | (refine awp_one ?_; first | refine awp_sreg ?_ | refine awp_seq ?_ | refine awp_region ?_ | refine awp_block ?_ | refine awp_ret ?_ | refine awp_exit ?_ | refine awp_skip ?_ | refine awp_cond (b := true) rfl (fun _ => ?_) (fun h => Bool.noConfusion h) | refine awp_cond (b := false) rfl (fun h => Bool.noConfusion h) (fun _ => ?_) | refine awp_scope ?_ | refine awp_label ?_ | refine awp_sdraw mixed (by kernel_rfl) ?_ | refine awp_region_draw mixed (by kernel_rfl) ?_ | (refine awp_cond rfl (fun hq => ?_) (fun hq => ?_) <;> first | subst hq | (first | (simp only [decide_eq_true_eq, decide_eq_false_iff_not, beq_iff_eq, beq_eq_false_iff_ne, bne_iff_ne, bne_eq_false_iff_eq, Bool.not_eq_true', Bool.not_eq_false'] at hq; first | (exfalso; omega) | skip) | skip)) | fail) | (refine then_one ?_; first | refine q_then ?_ | refine q_then_exit ?_ | refine q_then_ret ?_ | fail) | (refine block_one ?_; first | refine q_block ?_ | refine q_block_exit ?_ | refine q_block_pass (by decide) ?_ | refine q_block_ret ?_ | fail) | refine feet_one (feetOk_of (by kernel_rfl)) ?_ | fail)
             all_goals first
               | (refine aexit_eq (by first | exact .inl rfl | exact .inr rfl) (results_1 rfl (resOk_tmp rfl)) rfl ?_; rfl)
               | exact absurd (by assumption) n1
               | exact absurd (by assumption) n2
               | exact absurd (by assumption) n3
               | (exfalso; omega))
          · rw [if_neg h99]
            have g1 : ¬ (w.toNat : Int) = 99 := fun e => h99 (hw99.1 e)
            by_cases h107 : w = 107
            · rw [if_pos h107]
              have g2 : (w.toNat : Int) = 107 := hw107.2 h107
              clear hw107 hw99
              generalize isKindP x = B at *
              cases B <;>
              (refine acalls_plain Try.func100 rfl rfl (Nat.le_of_ble_eq_true rfl) rfl ?_
               repeat' (first | refine aops_nil ?_ | (refine aops_one ?_; first | refine aops_quiet tabOk rfl rfl rfl (Nat.le_of_ble_eq_true rfl) rfl ?_ | refine aops_skip rfl rfl (Nat.le_of_ble_eq_true rfl) ?_ | (refine aops_cmp rfl rfl rfl (Nat.le_of_ble_eq_true rfl) rfl rfl rfl (fun hq => ?_) (fun hq => ?_) <;> (first | (simp only [decide_eq_true_eq, decide_eq_false_iff_not, beq_iff_eq, beq_eq_false_iff_ne, bne_iff_ne, bne_eq_false_iff_eq, Bool.not_eq_true', Bool.not_eq_false'] at hq; first | (exfalso; omega) | skip) | skip))| refine aops_byte (j := 0) tabOk rfl rfl rfl (Nat.le_of_ble_eq_true rfl) rfl rfl rfl rfl hg ?_ | refine aops_index0 (j := 0) tabOk rfl rfl rfl (Nat.le_of_ble_eq_true rfl) rfl rfl rfl rfl (by omega) (by omega) ?_ | refine aops_load1 tabOk rfl rfl rfl (Nat.le_of_ble_eq_true rfl) rfl rfl rfl h0 ?_ | refine aops_call rfl rfl (Nat.le_of_ble_eq_true rfl) rfl rfl rfl rfl (c1) ?_ | refine aops_call rfl rfl (Nat.le_of_ble_eq_true rfl) rfl rfl rfl rfl (c2) ?_ | refine aops_call rfl rfl (Nat.le_of_ble_eq_true rfl) rfl rfl rfl rfl (c3) ?_ | refine aops_call rfl rfl (Nat.le_of_ble_eq_true rfl) rfl rfl rfl rfl (ct) ?_ | refine aops_slice (l := 1) (h := (x :: r).length) tabOk rfl rfl rfl (Nat.le_of_ble_eq_true rfl) rfl rfl rfl rfl rfl (by omega) (Nat.le_refl _) htl ?_ | refine aops_cut (l := 1) tabOk rfl rfl rfl (Nat.le_of_ble_eq_true rfl) rfl rfl rfl rfl (by omega) (Nat.le_refl _) hcut ?_ | refine aops_inc rfl rfl rfl (Nat.le_of_ble_eq_true rfl) rfl rfl (by omega) ?_ | refine aops_add rfl rfl rfl (Nat.le_of_ble_eq_true rfl) rfl rfl rfl (by omega) (by omega) ?_ | refine aops_sub rfl rfl rfl (Nat.le_of_ble_eq_true rfl) rfl rfl rfl (by omega) (by omega) ?_ | refine aops_list tabOk rfl rfl rfl (Nat.le_of_ble_eq_true rfl) rfl rfl rfl rfl rfl rfl rfl rfl rfl ?_ | refine aops_pure tabOk rfl rfl (Nat.le_of_ble_eq_true rfl) rfl ?_ | refine aops_alloc tabOk rfl rfl rfl (Nat.le_of_ble_eq_true rfl) rfl rfl rfl rfl rfl rfl ?_ | refine aops_loadm tabOk rfl rfl rfl (Nat.le_of_ble_eq_true rfl) rfl rfl rfl rfl ?_ | refine aops_storem tabOk rfl rfl rfl rfl rfl rfl rfl rfl rfl rfl rfl ?_ | refine aops_index tabOk rfl rfl rfl (Nat.le_of_ble_eq_true rfl) rfl rfl rfl rfl (by first | assumption | omega) ?_ | refine aops_index0 tabOk rfl rfl rfl (Nat.le_of_ble_eq_true rfl) rfl rfl rfl rfl (by first | rfl | omega) (by first | omega | simp) ?_ | refine aops_load1 tabOk rfl rfl rfl (Nat.le_of_ble_eq_true rfl) rfl rfl rfl (by assumption) ?_ | refine aops_load1 tabOk rfl rfl rfl (Nat.le_of_ble_eq_true rfl) rfl rfl rfl (ivs_get _ _ (by first | assumption | omega)) ?_ | refine aops_inc rfl rfl rfl (Nat.le_of_ble_eq_true rfl) rfl rfl (by omega) ?_ | ((fail_if_success (refine aops_lit (b := true) rfl rfl rfl ?_)); (fail_if_success (refine aops_lit (b := false) rfl rfl rfl ?_)); refine aops_guard rfl rfl rfl (fun hq => ?_) (fun hq => ?_) <;> first | subst hq | (first | (simp only [decide_eq_true_eq, decide_eq_false_iff_not, beq_iff_eq, beq_eq_false_iff_ne, bne_iff_ne, bne_eq_false_iff_eq, Bool.not_eq_true', Bool.not_eq_false'] at hq; first | (exfalso; omega) | skip) | skip)) | fail) | (refine awp_one ?_; first | refine awp_sreg ?_ | refine awp_seq ?_ | refine awp_region ?_ | refine awp_block ?_ | refine awp_ret ?_ | refine awp_exit ?_ | refine awp_skip ?_ | refine awp_cond (b := true) rfl (fun _ => ?_) (fun h => Bool.noConfusion h) | refine awp_cond (b := false) rfl (fun h => Bool.noConfusion h) (fun _ => ?_) | refine awp_scope ?_ | refine awp_label ?_ | refine awp_sdraw mixed (by kernel_rfl) ?_ | refine awp_region_draw mixed (by kernel_rfl) ?_ | (refine awp_cond rfl (fun hq => ?_) (fun hq => ?_) <;> first | subst hq | (first | (simp only [decide_eq_true_eq, decide_eq_false_iff_not, beq_iff_eq, beq_eq_false_iff_ne, bne_iff_ne, bne_eq_false_iff_eq, Bool.not_eq_true', Bool.not_eq_false'] at hq; first | (exfalso; omega) | skip) | skip)) | fail) | (refine then_one ?_; first | refine q_then ?_ | refine q_then_exit ?_ | refine q_then_ret ?_ | fail) | (refine block_one ?_; first | refine q_block ?_ | refine q_block_exit ?_ | refine q_block_pass (by decide) ?_ | refine q_block_ret ?_ | fail) | refine feet_one (feetOk_of (by kernel_rfl)) ?_ | fail)
               all_goals first
                 | (refine aexit_eq (by first | exact .inl rfl | exact .inr rfl) (results_1 rfl (resOk_tmp rfl)) rfl ?_; rfl)
                 | exact absurd (by assumption) n1
                 | exact absurd (by assumption) n2
                 | exact absurd (by assumption) n3
                 | (exfalso; omega))
            · rw [if_neg h107]
              have g2 : ¬ (w.toNat : Int) = 107 := fun e => h107 (hw107.1 e)
              clear hw107 hw99
              generalize isTermP x = B at *
              cases B <;>
              (refine acalls_plain Try.func100 rfl rfl (Nat.le_of_ble_eq_true rfl) rfl ?_
               repeat' (first | refine aops_nil ?_ | (refine aops_one ?_; first | refine aops_quiet tabOk rfl rfl rfl (Nat.le_of_ble_eq_true rfl) rfl ?_ | refine aops_skip rfl rfl (Nat.le_of_ble_eq_true rfl) ?_ | (refine aops_cmp rfl rfl rfl (Nat.le_of_ble_eq_true rfl) rfl rfl rfl (fun hq => ?_) (fun hq => ?_) <;> (first | (simp only [decide_eq_true_eq, decide_eq_false_iff_not, beq_iff_eq, beq_eq_false_iff_ne, bne_iff_ne, bne_eq_false_iff_eq, Bool.not_eq_true', Bool.not_eq_false'] at hq; first | (exfalso; omega) | skip) | skip))| refine aops_byte (j := 0) tabOk rfl rfl rfl (Nat.le_of_ble_eq_true rfl) rfl rfl rfl rfl hg ?_ | refine aops_index0 (j := 0) tabOk rfl rfl rfl (Nat.le_of_ble_eq_true rfl) rfl rfl rfl rfl (by omega) (by omega) ?_ | refine aops_load1 tabOk rfl rfl rfl (Nat.le_of_ble_eq_true rfl) rfl rfl rfl h0 ?_ | refine aops_call rfl rfl (Nat.le_of_ble_eq_true rfl) rfl rfl rfl rfl (c1) ?_ | refine aops_call rfl rfl (Nat.le_of_ble_eq_true rfl) rfl rfl rfl rfl (c2) ?_ | refine aops_call rfl rfl (Nat.le_of_ble_eq_true rfl) rfl rfl rfl rfl (c3) ?_ | refine aops_call rfl rfl (Nat.le_of_ble_eq_true rfl) rfl rfl rfl rfl (ct) ?_ | refine aops_slice (l := 1) (h := (x :: r).length) tabOk rfl rfl rfl (Nat.le_of_ble_eq_true rfl) rfl rfl rfl rfl rfl (by omega) (Nat.le_refl _) htl ?_ | refine aops_cut (l := 1) tabOk rfl rfl rfl (Nat.le_of_ble_eq_true rfl) rfl rfl rfl rfl (by omega) (Nat.le_refl _) hcut ?_ | refine aops_inc rfl rfl rfl (Nat.le_of_ble_eq_true rfl) rfl rfl (by omega) ?_ | refine aops_add rfl rfl rfl (Nat.le_of_ble_eq_true rfl) rfl rfl rfl (by omega) (by omega) ?_ | refine aops_sub rfl rfl rfl (Nat.le_of_ble_eq_true rfl) rfl rfl rfl (by omega) (by omega) ?_ | refine aops_list tabOk rfl rfl rfl (Nat.le_of_ble_eq_true rfl) rfl rfl rfl rfl rfl rfl rfl rfl rfl ?_ | refine aops_pure tabOk rfl rfl (Nat.le_of_ble_eq_true rfl) rfl ?_ | refine aops_alloc tabOk rfl rfl rfl (Nat.le_of_ble_eq_true rfl) rfl rfl rfl rfl rfl rfl ?_ | refine aops_loadm tabOk rfl rfl rfl (Nat.le_of_ble_eq_true rfl) rfl rfl rfl rfl ?_ | refine aops_storem tabOk rfl rfl rfl rfl rfl rfl rfl rfl rfl rfl rfl ?_ | refine aops_index tabOk rfl rfl rfl (Nat.le_of_ble_eq_true rfl) rfl rfl rfl rfl (by first | assumption | omega) ?_ | refine aops_index0 tabOk rfl rfl rfl (Nat.le_of_ble_eq_true rfl) rfl rfl rfl rfl (by first | rfl | omega) (by first | omega | simp) ?_ | refine aops_load1 tabOk rfl rfl rfl (Nat.le_of_ble_eq_true rfl) rfl rfl rfl (by assumption) ?_ | refine aops_load1 tabOk rfl rfl rfl (Nat.le_of_ble_eq_true rfl) rfl rfl rfl (ivs_get _ _ (by first | assumption | omega)) ?_ | refine aops_inc rfl rfl rfl (Nat.le_of_ble_eq_true rfl) rfl rfl (by omega) ?_ | ((fail_if_success (refine aops_lit (b := true) rfl rfl rfl ?_)); (fail_if_success (refine aops_lit (b := false) rfl rfl rfl ?_)); refine aops_guard rfl rfl rfl (fun hq => ?_) (fun hq => ?_) <;> first | subst hq | (first | (simp only [decide_eq_true_eq, decide_eq_false_iff_not, beq_iff_eq, beq_eq_false_iff_ne, bne_iff_ne, bne_eq_false_iff_eq, Bool.not_eq_true', Bool.not_eq_false'] at hq; first | (exfalso; omega) | skip) | skip)) | fail) | (refine awp_one ?_; first | refine awp_sreg ?_ | refine awp_seq ?_ | refine awp_region ?_ | refine awp_block ?_ | refine awp_ret ?_ | refine awp_exit ?_ | refine awp_skip ?_ | refine awp_cond (b := true) rfl (fun _ => ?_) (fun h => Bool.noConfusion h) | refine awp_cond (b := false) rfl (fun h => Bool.noConfusion h) (fun _ => ?_) | refine awp_scope ?_ | refine awp_label ?_ | refine awp_sdraw mixed (by kernel_rfl) ?_ | refine awp_region_draw mixed (by kernel_rfl) ?_ | (refine awp_cond rfl (fun hq => ?_) (fun hq => ?_) <;> first | subst hq | (first | (simp only [decide_eq_true_eq, decide_eq_false_iff_not, beq_iff_eq, beq_eq_false_iff_ne, bne_iff_ne, bne_eq_false_iff_eq, Bool.not_eq_true', Bool.not_eq_false'] at hq; first | (exfalso; omega) | skip) | skip)) | fail) | (refine then_one ?_; first | refine q_then ?_ | refine q_then_exit ?_ | refine q_then_ret ?_ | fail) | (refine block_one ?_; first | refine q_block ?_ | refine q_block_exit ?_ | refine q_block_pass (by decide) ?_ | refine q_block_ret ?_ | fail) | refine feet_one (feetOk_of (by kernel_rfl)) ?_ | fail)
               all_goals first
                 | (refine aexit_eq (by first | exact .inl rfl | exact .inr rfl) (results_1 rfl (resOk_tmp rfl)) rfl ?_; rfl)
                 | exact absurd (by assumption) n1
                 | exact absurd (by assumption) n2
                 | exact absurd (by assumption) n3
                 | (exfalso; omega))
end Go.Proofs.Ytlbemgokilhdnaa.Ab
namespace Go.Proofs.Ytlbemgokilhdnaa.Ab
set_option linter.unusedVariables false
set_option linter.unusedSimpArgs false
open Go.RowKit
attribute [local irreducible] AWP AOps AExit AThen ABlock ANoGoto FeetOk
theorem wholeP_ok (t : Tree) : t.whole = true → ∀ l : Int, (t.size : Int) ≤ l → wholeP t l = (0, l - t.size) := by
  induction t using Tree.ind with
  | h1 => intro h; simp [Tree.whole] at h
  | h2 k n a b kids ih =>
    intro h l hl
    have hz : (Tree.node k n a b kids).size = 1 + Tree.sizes kids := rfl
    rw [wholeP, if_neg (by omega)]
    have key : ∀ (ts : List Tree), (∀ t ∈ ts, t ∈ kids) → ∀ l : Int, (Tree.sizes ts : Int) ≤ l → wholePs ts l = (0, l - Tree.sizes ts) := by
      intro ts
      induction ts with
      | nil => intro _ l _; simp [wholePs, Tree.sizes]
      | cons x ts ihs =>
        intro hm l hl
        rw [Tree.sizes] at hl
        have hx := ih x (hm x List.mem_cons_self) (wholes_mem h (hm x List.mem_cons_self)) l (by omega)
        rw [wholePs, hx, if_pos rfl, ihs (fun t ht => hm t (List.mem_cons_of_mem _ ht)) _ (by omega), Tree.sizes]
        congr 1
        omega
    rw [key kids (fun t ht => ht) _ (by omega), hz]
    congr 1
    omega
theorem checkP_ok (form : Tree → Bool) (t : Tree) (h : t.whole = true) (hs : t.size ≤ 65536) : checkP form t = if form t = true then 0 else 16 := by
  unfold checkP
  rw [wholeP_ok t h 65536 (by omega), if_pos rfl]
theorem tcon_eq (t : Tree) (h : t.whole = true) (hs : t.size ≤ 65536) : tconP t = isConP t := by
  unfold tconP
  rw [checkP_ok _ t h hs]
  cases isConP t <;> rfl
theorem tkind_eq (t : Tree) (h : t.whole = true) (hs : t.size ≤ 65536) : tkindP t = isKindP t := by
  unfold tkindP
  rw [checkP_ok _ t h hs]
  cases isKindP t <;> rfl
theorem tri_b : ∀ x y : List UInt8, Op.bytesLess x y = false → Op.bytesLess y x = false → x = y := by
  intro x y h1 h2
  rw [bytesLess_eq, decide_eq_false_iff_not] at h1 h2
  exact List.le_antisymm (List.not_lt.1 h2) (List.not_lt.1 h1)
theorem rise_eq (l : List Tree) : risingP l = (distinctP l && steadyP l) := by
  rw [Bool.eq_iff_iff, Bool.and_eq_true, distinctP_idx, steadyP_idx]
  constructor
  · intro h
    refine ⟨fun i j hij hj => ?_, fun i hi => ?_⟩
    · have e : j = i + (j - i - 1) + 1 := by omega
      have := rising_all h (j - i - 1) i (by omega)
      have e2 : l[j] = l[i + (j - i - 1) + 1]'(by omega) := by congr 1
      rw [eqB_comm, e2]
      exact ltB_ne this
    · have h1 := (risingP_idx l).1 h i hi
      cases h2 : ltB l[i + 1].name (l[i]'(by omega)).name with
      | false => rfl
      | true =>
        have := ltB_ne (ltB_trans h1 h2)
        unfold eqB at this
        exact absurd rfl (beq_eq_false_iff_ne.1 this)
  · rintro ⟨h1, h2⟩
    rw [risingP_idx]
    intro i hi
    have h3 := h1 i (i + 1) (by omega) hi
    have h4 := h2 i hi
    cases h5 : ltB (l[i]'(by omega)).name l[i + 1].name with
    | true => rfl
    | false =>
      have := tri_b _ _ h4 h5
      unfold eqB at h3
      exact absurd this (beq_eq_false_iff_ne.1 h3)
theorem list_137 (l : List Tree) : listB l 137 = (fieldsP l 137 && distinctP l && steadyP l) := by
  unfold listB pairsP
  rw [if_pos (by decide), rise_eq]
  simp [Bool.and_assoc]
theorem list_149 (l : List Tree) : listB l 149 = (fieldsP l 149 && distinctP l && decide (0 < l.length)) := by
  unfold listB pairsP
  rw [if_neg (by decide)]
  rfl
def isP (k n : Int) (a b : ByteArray) (kids : List Tree) : Bool :=
  (formP k).2 && eqB b emptyB && decide ((formP k).1.f ≤ n) && decide (n ≤ (formP k).1.t) && (if (formP k).1.lb = true then labelP a else eqB a emptyB) && partsP (formP k).1.ks.data.toList kids
theorem label_ne {a : ByteArray} (h : labelP a = true) : eqB a emptyB = false := by
  unfold labelP at h
  simp only [Bool.and_eq_true, decide_eq_true_eq] at h
  unfold eqB
  refine beq_eq_false_iff_ne.2 fun e => ?_
  have e2 : a.size = 0 := by
    have h1 : a.toList.length = a.size := by rw [ByteArray.toList_eq]; exact Array.length_toList
    have h2 : emptyB.toList = [] := by rw [ByteArray.toList_eq]; rfl
    rw [← h1, e, h2]
    rfl
  omega
theorem p_ct (kids : List Tree) (hcon : ∀ x ∈ kids, tconP x = isConP x) (hkind : ∀ x ∈ kids, tkindP x = isKindP x) : partsP [99, 88] kids = isT_ct kids := by
  rcases kids with _ | ⟨x, _ | ⟨y, _ | ⟨z, _ | ⟨u, r⟩⟩⟩⟩ <;> simp_all [partsP_cons, partsP_nil, firstP, isT_ct, list_149, fieldsP, Bool.and_assoc]
theorem p_tt1 (kids : List Tree) (hcon : ∀ x ∈ kids, tconP x = isConP x) (hkind : ∀ x ∈ kids, tkindP x = isKindP x) : partsP [120, 120] kids = isT_tt kids := by
  rcases kids with _ | ⟨x, _ | ⟨y, _ | ⟨z, _ | ⟨u, r⟩⟩⟩⟩ <;> simp_all [partsP_cons, partsP_nil, firstP, isT_tt, list_149, fieldsP, Bool.and_assoc]
theorem p_t1 (kids : List Tree) (hcon : ∀ x ∈ kids, tconP x = isConP x) (hkind : ∀ x ∈ kids, tkindP x = isKindP x) : partsP [120] kids = isT_t kids := by
  rcases kids with _ | ⟨x, _ | ⟨y, _ | ⟨z, _ | ⟨u, r⟩⟩⟩⟩ <;> simp_all [partsP_cons, partsP_nil, firstP, isT_t, list_149, fieldsP, Bool.and_assoc]
theorem p_kt (kids : List Tree) (hcon : ∀ x ∈ kids, tconP x = isConP x) (hkind : ∀ x ∈ kids, tkindP x = isKindP x) : partsP [107, 84] kids = isT_kt kids := by
  rcases kids with _ | ⟨x, _ | ⟨y, _ | ⟨z, _ | ⟨u, r⟩⟩⟩⟩ <;> simp_all [partsP_cons, partsP_nil, firstP, isT_kt, list_149, fieldsP, Bool.and_assoc]
theorem p_tc (kids : List Tree) (hcon : ∀ x ∈ kids, tconP x = isConP x) (hkind : ∀ x ∈ kids, tkindP x = isKindP x) : partsP [120, 99] kids = isT_tc kids := by
  rcases kids with _ | ⟨x, _ | ⟨y, _ | ⟨z, _ | ⟨u, r⟩⟩⟩⟩ <;> simp_all [partsP_cons, partsP_nil, firstP, isT_tc, list_149, fieldsP, Bool.and_assoc]
theorem p_ctc (kids : List Tree) (hcon : ∀ x ∈ kids, tconP x = isConP x) (hkind : ∀ x ∈ kids, tkindP x = isKindP x) : partsP [99, 120, 99] kids = isT_ctc kids := by
  rcases kids with _ | ⟨x, _ | ⟨y, _ | ⟨z, _ | ⟨u, r⟩⟩⟩⟩ <;> simp_all [partsP_cons, partsP_nil, firstP, isT_ctc, list_149, fieldsP, Bool.and_assoc]
theorem p_tt2 (kids : List Tree) (hcon : ∀ x ∈ kids, tconP x = isConP x) (hkind : ∀ x ∈ kids, tkindP x = isKindP x) : partsP [120, 66] kids = isT_tt kids := by
  rcases kids with _ | ⟨x, _ | ⟨y, _ | ⟨z, _ | ⟨u, r⟩⟩⟩⟩ <;> simp_all [partsP_cons, partsP_nil, firstP, isT_tt, list_149, fieldsP, Bool.and_assoc]
theorem p_tt3 (kids : List Tree) (hcon : ∀ x ∈ kids, tconP x = isConP x) (hkind : ∀ x ∈ kids, tkindP x = isKindP x) : partsP [120, 88] kids = isT_tt kids := by
  rcases kids with _ | ⟨x, _ | ⟨y, _ | ⟨z, _ | ⟨u, r⟩⟩⟩⟩ <;> simp_all [partsP_cons, partsP_nil, firstP, isT_tt, list_149, fieldsP, Bool.and_assoc]
theorem p_ttt (kids : List Tree) (hcon : ∀ x ∈ kids, tconP x = isConP x) (hkind : ∀ x ∈ kids, tkindP x = isKindP x) : partsP [120, 120, 120] kids = isT_ttt kids := by
  rcases kids with _ | ⟨x, _ | ⟨y, _ | ⟨z, _ | ⟨u, r⟩⟩⟩⟩ <;> simp_all [partsP_cons, partsP_nil, firstP, isT_ttt, list_149, fieldsP, Bool.and_assoc]
theorem p_ct2 (kids : List Tree) (hcon : ∀ x ∈ kids, tconP x = isConP x) (hkind : ∀ x ∈ kids, tkindP x = isKindP x) : partsP [99, 120] kids = isT_ct kids := by
  rcases kids with _ | ⟨x, _ | ⟨y, _ | ⟨z, _ | ⟨u, r⟩⟩⟩⟩ <;> simp_all [partsP_cons, partsP_nil, firstP, isT_ct, list_149, fieldsP, Bool.and_assoc]
theorem p_ta (kids : List Tree) (hcon : ∀ x ∈ kids, tconP x = isConP x) (hkind : ∀ x ∈ kids, tkindP x = isKindP x) : partsP [120, 97] kids = isT_ta kids := by
  rcases kids with _ | ⟨x, _ | ⟨y, _ | ⟨z, _ | ⟨u, r⟩⟩⟩⟩ <;> simp_all [partsP_cons, partsP_nil, firstP, isT_ta, list_149, fieldsP, Bool.and_assoc]
theorem p_tca (kids : List Tree) (hcon : ∀ x ∈ kids, tconP x = isConP x) (hkind : ∀ x ∈ kids, tkindP x = isKindP x) : partsP [120, 99, 97] kids = isT_tca kids := by
  rcases kids with _ | ⟨x, _ | ⟨y, _ | ⟨z, _ | ⟨u, r⟩⟩⟩⟩ <;> simp_all [partsP_cons, partsP_nil, firstP, isT_tca, list_149, fieldsP, Bool.and_assoc]
theorem p_f (kids : List Tree) : partsP [102] kids = (fieldsP kids 137 && distinctP kids && steadyP kids) := by
  rw [partsP_cons, if_pos ⟨rfl, rfl⟩, list_137]
set_option maxHeartbeats 8000000 in
theorem is_eq (k n : Int) (a b : ByteArray) (kids : List Tree) (hw : Tree.wholes kids = true) (hs : Tree.sizes kids ≤ 65536) : isTermP (.node k n a b kids) = isP k n a b kids := by
  have hcon : ∀ x ∈ kids, tconP x = isConP x := fun x hx => tcon_eq x (wholes_mem hw hx) (Nat.le_trans (sizes_mem hx) hs)
  have hkind : ∀ x ∈ kids, tkindP x = isKindP x := fun x hx => tkind_eq x (wholes_mem hw hx) (Nat.le_trans (sizes_mem hx) hs)
  have hlab : labelP a = true → eqB a emptyB = false := label_ne
  have z0 : (n == 0) = (decide (0 ≤ n) && decide (n ≤ 0)) := by
    rw [Bool.eq_iff_iff]; simp; omega
  have z1 : (n == 0 || n == 1) = (decide (0 ≤ n) && decide (n ≤ 1)) := by
    rw [Bool.eq_iff_iff]; simp; omega
  rw [isTermP]
  unfold isP
  clear hw hs
  have f_ct := p_ct kids hcon hkind
  have f_tt1 := p_tt1 kids hcon hkind
  have f_t1 := p_t1 kids hcon hkind
  have f_kt := p_kt kids hcon hkind
  have f_tc := p_tc kids hcon hkind
  have f_ctc := p_ctc kids hcon hkind
  have f_tt2 := p_tt2 kids hcon hkind
  have f_tt3 := p_tt3 kids hcon hkind
  have f_ttt := p_ttt kids hcon hkind
  have f_ct2 := p_ct2 kids hcon hkind
  have f_ta := p_ta kids hcon hkind
  have f_tca := p_tca kids hcon hkind
  have f_f := p_f kids
  clear hcon hkind
  by_cases h130 : k = 130
  · subst h130
    simp [headP, numberP, namedK, formP, rowsL, partsP_nil, z0, z1, -beq_iff_eq]
    generalize eqB b emptyB = B at *
    generalize eqB a emptyB = A at *
    generalize labelP a = L at *
    generalize decide (0 ≤ n) = N at *
    cases B <;> cases A <;> cases L <;> cases N <;> simp_all
  by_cases h131 : k = 131
  · subst h131
    simp [headP, numberP, namedK, formP, rowsL, partsP_nil, z0, z1, -beq_iff_eq]
    generalize eqB b emptyB = B at *
    generalize eqB a emptyB = A at *
    generalize labelP a = L at *
    generalize decide (0 ≤ n) = N at *
    cases B <;> cases A <;> cases L <;> cases N <;> simp_all
  by_cases h132 : k = 132
  · subst h132
    simp [headP, numberP, namedK, formP, rowsL, partsP_nil, z0, z1, -beq_iff_eq]
    generalize eqB b emptyB = B at *
    generalize eqB a emptyB = A at *
    generalize labelP a = L at *
    generalize decide (0 ≤ n) = N at *
    cases B <;> cases A <;> cases L <;> cases N <;> simp_all
  by_cases h133 : k = 133
  · subst h133
    simp [headP, numberP, namedK, formP, rowsL, partsP_nil, z0, z1, -beq_iff_eq]
    generalize eqB b emptyB = B at *
    generalize eqB a emptyB = A at *
    generalize labelP a = L at *
    generalize decide (0 ≤ n) = N at *
    cases B <;> cases A <;> cases L <;> cases N <;> simp_all
  by_cases h134 : k = 134
  · subst h134
    simp [headP, numberP, namedK, formP, rowsL, partsP_nil, z0, z1, f_ct, -beq_iff_eq]
    generalize eqB b emptyB = B at *
    generalize eqB a emptyB = A at *
    generalize labelP a = L at *
    generalize decide (0 ≤ n) = N at *
    cases B <;> cases A <;> cases L <;> cases N <;> simp_all
  by_cases h135 : k = 135
  · subst h135
    simp [headP, numberP, namedK, formP, rowsL, partsP_nil, z0, z1, f_tt1, -beq_iff_eq]
    generalize eqB b emptyB = B at *
    generalize eqB a emptyB = A at *
    generalize labelP a = L at *
    generalize decide (0 ≤ n) = N at *
    cases B <;> cases A <;> cases L <;> cases N <;> simp_all
  by_cases h136 : k = 136
  · subst h136
    simp [headP, numberP, namedK, formP, rowsL, partsP_nil, z0, z1, f_f, -beq_iff_eq]
    generalize eqB b emptyB = B at *
    generalize eqB a emptyB = A at *
    generalize labelP a = L at *
    generalize decide (0 ≤ n) = N at *
    cases B <;> cases A <;> cases L <;> cases N <;> simp_all
  by_cases h138 : k = 138
  · subst h138
    simp [headP, numberP, namedK, formP, rowsL, partsP_nil, z0, z1, f_t1, -beq_iff_eq]
    generalize eqB b emptyB = B at *
    generalize eqB a emptyB = A at *
    generalize labelP a = L at *
    generalize decide (0 ≤ n) = N at *
    cases B <;> cases A <;> cases L <;> cases N <;> simp_all
  by_cases h139 : k = 139
  · subst h139
    simp [headP, numberP, namedK, formP, rowsL, partsP_nil, z0, z1, f_kt, -beq_iff_eq]
    generalize eqB b emptyB = B at *
    generalize eqB a emptyB = A at *
    generalize labelP a = L at *
    generalize decide (0 ≤ n) = N at *
    cases B <;> cases A <;> cases L <;> cases N <;> simp_all
  by_cases h140 : k = 140
  · subst h140
    simp [headP, numberP, namedK, formP, rowsL, partsP_nil, z0, z1, f_tc, -beq_iff_eq]
    generalize eqB b emptyB = B at *
    generalize eqB a emptyB = A at *
    generalize labelP a = L at *
    generalize decide (0 ≤ n) = N at *
    cases B <;> cases A <;> cases L <;> cases N <;> simp_all
  by_cases h141 : k = 141
  · subst h141
    simp [headP, numberP, namedK, formP, rowsL, partsP_nil, z0, z1, f_ctc, -beq_iff_eq]
    generalize eqB b emptyB = B at *
    generalize eqB a emptyB = A at *
    generalize labelP a = L at *
    generalize decide (0 ≤ n) = N at *
    cases B <;> cases A <;> cases L <;> cases N <;> simp_all
  by_cases h142 : k = 142
  · subst h142
    simp [headP, numberP, namedK, formP, rowsL, partsP_nil, z0, z1, f_tt2, -beq_iff_eq]
    generalize eqB b emptyB = B at *
    generalize eqB a emptyB = A at *
    generalize labelP a = L at *
    generalize decide (0 ≤ n) = N at *
    cases B <;> cases A <;> cases L <;> cases N <;> simp_all
  by_cases h143 : k = 143
  · subst h143
    simp [headP, numberP, namedK, formP, rowsL, partsP_nil, z0, z1, f_tt3, -beq_iff_eq]
    generalize eqB b emptyB = B at *
    generalize eqB a emptyB = A at *
    generalize labelP a = L at *
    generalize decide (0 ≤ n) = N at *
    cases B <;> cases A <;> cases L <;> cases N <;> simp_all
  by_cases h144 : k = 144
  · subst h144
    simp [headP, numberP, namedK, formP, rowsL, partsP_nil, z0, z1, f_ttt, -beq_iff_eq]
    generalize eqB b emptyB = B at *
    generalize eqB a emptyB = A at *
    generalize labelP a = L at *
    generalize decide (0 ≤ n) = N at *
    cases B <;> cases A <;> cases L <;> cases N <;> simp_all
  by_cases h145 : k = 145
  · subst h145
    simp [headP, numberP, namedK, formP, rowsL, partsP_nil, z0, z1, f_tt1, -beq_iff_eq]
    generalize eqB b emptyB = B at *
    generalize eqB a emptyB = A at *
    generalize labelP a = L at *
    generalize decide (0 ≤ n) = N at *
    cases B <;> cases A <;> cases L <;> cases N <;> simp_all
  by_cases h146 : k = 146
  · subst h146
    simp [headP, numberP, namedK, formP, rowsL, partsP_nil, z0, z1, f_ct2, -beq_iff_eq]
    generalize eqB b emptyB = B at *
    generalize eqB a emptyB = A at *
    generalize labelP a = L at *
    generalize decide (0 ≤ n) = N at *
    cases B <;> cases A <;> cases L <;> cases N <;> simp_all
  by_cases h147 : k = 147
  · subst h147
    simp [headP, numberP, namedK, formP, rowsL, partsP_nil, z0, z1, f_ta, -beq_iff_eq]
    generalize eqB b emptyB = B at *
    generalize eqB a emptyB = A at *
    generalize labelP a = L at *
    generalize decide (0 ≤ n) = N at *
    cases B <;> cases A <;> cases L <;> cases N <;> simp_all
  by_cases h148 : k = 148
  · subst h148
    simp [headP, numberP, namedK, formP, rowsL, partsP_nil, z0, z1, f_tca, -beq_iff_eq]
    generalize eqB b emptyB = B at *
    generalize eqB a emptyB = A at *
    generalize labelP a = L at *
    generalize decide (0 ≤ n) = N at *
    cases B <;> cases A <;> cases L <;> cases N <;> simp_all
  have hn : formP k = (zeroRow, false) := by
    unfold formP
    rw [List.find?_eq_none.2]
    intro r hr
    simp [rowsL] at hr
    rcases hr with rfl | rfl | rfl | rfl | rfl | rfl | rfl | rfl | rfl | rfl | rfl | rfl | rfl | rfl | rfl | rfl | rfl | rfl <;> simp <;> omega
  rw [hn]
  simp [h130, h131, h132, h133, h134, h135, h136, h138, h139, h140, h141, h142, h143, h144, h145, h146, h147, h148]
end Go.Proofs.Ytlbemgokilhdnaa.Ab
namespace Go.Proofs.Ytlbemgokilhdnaa.Ab
set_option linter.unusedVariables false
set_option linter.unusedSimpArgs false
open Go.RowKit
attribute [local irreducible] AWP AOps AExit AThen ABlock ANoGoto FeetOk
theorem ba_self (s : ByteArray) : (⟨s.data.toList.toArray⟩ : ByteArray) = s := by cases s; simp
theorem ks_short (k : Int) : (formP k).1.ks.data.toList.length ≤ 1000 := by
  unfold formP
  split
  · rename_i r h
    have := List.mem_of_find?_eq_some h
    simp [rowsL] at this
    rcases this with rfl | rfl | rfl | rfl | rfl | rfl | rfl | rfl | rfl | rfl | rfl | rfl | rfl | rfl | rfl | rfl | rfl | rfl <;> decide
  · decide
set_option maxHeartbeats 16000000 in
set_option maxRecDepth 10000 in
theorem rIs_a (t : Tree) : t.whole = true → t.size ≤ 65536 → ACalls Try.prog 61 [.imm t.iv] [] (.imm (.lit (.bool (isTermP t)))) [] := by
  induction t using Tree.sind with
  | h t ih =>
    intro h hs
    obtain ⟨k, n, a, b, kids, rfl⟩ := whole_node h
    have hz : (Tree.node k n a b kids).size = 1 + Tree.sizes kids := rfl
    have hl : kids.length < 1000000000 := by have := length_sizes kids h; omega
    rw [is_eq k n a b kids h (by omega)]
    have c1 := form_a k
    have c2 := parts_a (formP k).1.ks.data.toList kids h (by omega) hl (ks_short k) (fun t' h1 h2 => ih t' (by omega) h2 (by omega))
    rw [ba_self] at c2
    have c3 := rlabel_a a
    unfold isP
    generalize partsP (formP k).1.ks.data.toList kids = Q at *
    generalize labelP a = L at *
    generalize formP k = R at *
    obtain ⟨⟨rk, rw, rf, rt, rl, rks⟩, ok⟩ := R
    clear ih
    dsimp only at *
    cases ok <;> cases rl <;> cases L <;> cases Q <;>
    (refine acalls_plain Try.func61 rfl rfl (Nat.le_of_ble_eq_true rfl) rfl ?_
     repeat' (first | refine aops_nil ?_ | (refine aops_one ?_; first | refine aops_quiet tabOk rfl rfl rfl (Nat.le_of_ble_eq_true rfl) rfl ?_ | refine aops_skip rfl rfl (Nat.le_of_ble_eq_true rfl) ?_ | (refine aops_cmp rfl rfl rfl (Nat.le_of_ble_eq_true rfl) rfl rfl rfl (fun hq => ?_) (fun hq => ?_) <;> (first | (simp only [decide_eq_true_eq, decide_eq_false_iff_not, beq_iff_eq, beq_eq_false_iff_ne, bne_iff_ne, bne_eq_false_iff_eq, Bool.not_eq_true', Bool.not_eq_false'] at hq; first | (exfalso; omega) | skip) | skip))| refine aops_call rfl rfl (Nat.le_of_ble_eq_true rfl) rfl rfl rfl rfl (c1) ?_ | refine aops_call rfl rfl (Nat.le_of_ble_eq_true rfl) rfl rfl rfl rfl (c2) ?_ | refine aops_call rfl rfl (Nat.le_of_ble_eq_true rfl) rfl rfl rfl rfl (c3) ?_ | refine aops_inc rfl rfl rfl (Nat.le_of_ble_eq_true rfl) rfl rfl (by omega) ?_ | refine aops_add rfl rfl rfl (Nat.le_of_ble_eq_true rfl) rfl rfl rfl (by omega) (by omega) ?_ | refine aops_sub rfl rfl rfl (Nat.le_of_ble_eq_true rfl) rfl rfl rfl (by omega) (by omega) ?_ | refine aops_list tabOk rfl rfl rfl (Nat.le_of_ble_eq_true rfl) rfl rfl rfl rfl rfl rfl rfl rfl rfl ?_ | refine aops_pure tabOk rfl rfl (Nat.le_of_ble_eq_true rfl) rfl ?_ | refine aops_alloc tabOk rfl rfl rfl (Nat.le_of_ble_eq_true rfl) rfl rfl rfl rfl rfl rfl ?_ | refine aops_loadm tabOk rfl rfl rfl (Nat.le_of_ble_eq_true rfl) rfl rfl rfl rfl ?_ | refine aops_storem tabOk rfl rfl rfl rfl rfl rfl rfl rfl rfl rfl rfl ?_ | refine aops_index tabOk rfl rfl rfl (Nat.le_of_ble_eq_true rfl) rfl rfl rfl rfl (by first | assumption | omega) ?_ | refine aops_index0 tabOk rfl rfl rfl (Nat.le_of_ble_eq_true rfl) rfl rfl rfl rfl (by first | rfl | omega) (by first | omega | simp) ?_ | refine aops_load1 tabOk rfl rfl rfl (Nat.le_of_ble_eq_true rfl) rfl rfl rfl (by assumption) ?_ | refine aops_load1 tabOk rfl rfl rfl (Nat.le_of_ble_eq_true rfl) rfl rfl rfl (ivs_get _ _ (by first | assumption | omega)) ?_ | refine aops_inc rfl rfl rfl (Nat.le_of_ble_eq_true rfl) rfl rfl (by omega) ?_ | ((fail_if_success (refine aops_lit (b := true) rfl rfl rfl ?_)); (fail_if_success (refine aops_lit (b := false) rfl rfl rfl ?_)); refine aops_guard rfl rfl rfl (fun hq => ?_) (fun hq => ?_) <;> first | subst hq | (first | (simp only [decide_eq_true_eq, decide_eq_false_iff_not, beq_iff_eq, beq_eq_false_iff_ne, bne_iff_ne, bne_eq_false_iff_eq, Bool.not_eq_true', Bool.not_eq_false'] at hq; first | (exfalso; omega) | skip) | skip)) | fail) | (refine awp_one ?_; first | refine awp_sreg ?_ | refine awp_seq ?_ | refine awp_region ?_ | refine awp_block ?_ | refine awp_ret ?_ | refine awp_exit ?_ | refine awp_skip ?_ | refine awp_cond (b := true) rfl (fun _ => ?_) (fun h => Bool.noConfusion h) | refine awp_cond (b := false) rfl (fun h => Bool.noConfusion h) (fun _ => ?_) | refine awp_scope ?_ | refine awp_label ?_ | refine awp_sdraw mixed (by kernel_rfl) ?_ | refine awp_region_draw mixed (by kernel_rfl) ?_ | (refine awp_cond rfl (fun hq => ?_) (fun hq => ?_) <;> first | subst hq | (first | (simp only [decide_eq_true_eq, decide_eq_false_iff_not, beq_iff_eq, beq_eq_false_iff_ne, bne_iff_ne, bne_eq_false_iff_eq, Bool.not_eq_true', Bool.not_eq_false'] at hq; first | (exfalso; omega) | skip) | skip)) | fail) | (refine then_one ?_; first | refine q_then ?_ | refine q_then_exit ?_ | refine q_then_ret ?_ | fail) | (refine block_one ?_; first | refine q_block ?_ | refine q_block_exit ?_ | refine q_block_pass (by decide) ?_ | refine q_block_ret ?_ | fail) | refine feet_one (feetOk_of (by kernel_rfl)) ?_ | fail)
     all_goals first
       | (refine aexit_eq (by first | exact .inl rfl | exact .inr rfl) (results_1 rfl (resOk_tmp rfl)) rfl ?_; refine bool_eq ?_; simp_all [eqB, emptyB]; done)
       | (refine aexit_eq (by first | exact .inl rfl | exact .inr rfl) (results_1 rfl (resOk_tmp rfl)) rfl ?_; refine bool_eq ?_; simp_all [eqB, emptyB]; omega)
       | exact absurd rfl (by assumption)
       | (exfalso; omega))
set_option maxHeartbeats 4000000 in
set_option maxRecDepth 10000 in
theorem r13Check_a (t : Tree) (hs : t.size ≤ 65536) (hw : t = .nil ∨ t.whole = true) : ACalls Try.prog 29 [.imm t.iv] [] (.imm (.lit (.int .i64 (tcheckP t)))) [] := by
  rcases hw with rfl | hw
  · have e : tcheckP .nil = 1 := rfl
    rw [e]
    refine acalls_plain Try.func29 rfl rfl (Nat.le_of_ble_eq_true rfl) rfl ?_
    repeat' (first | refine aops_nil ?_ | (refine aops_one ?_; first | refine aops_quiet tabOk rfl rfl rfl (Nat.le_of_ble_eq_true rfl) rfl ?_ | refine aops_skip rfl rfl (Nat.le_of_ble_eq_true rfl) ?_ | (refine aops_cmp rfl rfl rfl (Nat.le_of_ble_eq_true rfl) rfl rfl rfl (fun hq => ?_) (fun hq => ?_) <;> (first | (simp only [decide_eq_true_eq, decide_eq_false_iff_not, beq_iff_eq, beq_eq_false_iff_ne, bne_iff_ne, bne_eq_false_iff_eq, Bool.not_eq_true', Bool.not_eq_false'] at hq; first | (exfalso; omega) | skip) | skip))| refine aops_call rfl rfl (Nat.le_of_ble_eq_true rfl) rfl rfl rfl rfl (r10Check_nil) ?_ | refine aops_inc rfl rfl rfl (Nat.le_of_ble_eq_true rfl) rfl rfl (by omega) ?_ | refine aops_add rfl rfl rfl (Nat.le_of_ble_eq_true rfl) rfl rfl rfl (by omega) (by omega) ?_ | refine aops_sub rfl rfl rfl (Nat.le_of_ble_eq_true rfl) rfl rfl rfl (by omega) (by omega) ?_ | refine aops_list tabOk rfl rfl rfl (Nat.le_of_ble_eq_true rfl) rfl rfl rfl rfl rfl rfl rfl rfl rfl ?_ | refine aops_pure tabOk rfl rfl (Nat.le_of_ble_eq_true rfl) rfl ?_ | refine aops_alloc tabOk rfl rfl rfl (Nat.le_of_ble_eq_true rfl) rfl rfl rfl rfl rfl rfl ?_ | refine aops_loadm tabOk rfl rfl rfl (Nat.le_of_ble_eq_true rfl) rfl rfl rfl rfl ?_ | refine aops_storem tabOk rfl rfl rfl rfl rfl rfl rfl rfl rfl rfl rfl ?_ | refine aops_index tabOk rfl rfl rfl (Nat.le_of_ble_eq_true rfl) rfl rfl rfl rfl (by first | assumption | omega) ?_ | refine aops_index0 tabOk rfl rfl rfl (Nat.le_of_ble_eq_true rfl) rfl rfl rfl rfl (by first | rfl | omega) (by first | omega | simp) ?_ | refine aops_load1 tabOk rfl rfl rfl (Nat.le_of_ble_eq_true rfl) rfl rfl rfl (by assumption) ?_ | refine aops_load1 tabOk rfl rfl rfl (Nat.le_of_ble_eq_true rfl) rfl rfl rfl (ivs_get _ _ (by first | assumption | omega)) ?_ | refine aops_inc rfl rfl rfl (Nat.le_of_ble_eq_true rfl) rfl rfl (by omega) ?_ | ((fail_if_success (refine aops_lit (b := true) rfl rfl rfl ?_)); (fail_if_success (refine aops_lit (b := false) rfl rfl rfl ?_)); refine aops_guard rfl rfl rfl (fun hq => ?_) (fun hq => ?_) <;> first | subst hq | (first | (simp only [decide_eq_true_eq, decide_eq_false_iff_not, beq_iff_eq, beq_eq_false_iff_ne, bne_iff_ne, bne_eq_false_iff_eq, Bool.not_eq_true', Bool.not_eq_false'] at hq; first | (exfalso; omega) | skip) | skip)) | fail) | (refine awp_one ?_; first | refine awp_sreg ?_ | refine awp_seq ?_ | refine awp_region ?_ | refine awp_block ?_ | refine awp_ret ?_ | refine awp_exit ?_ | refine awp_skip ?_ | refine awp_cond (b := true) rfl (fun _ => ?_) (fun h => Bool.noConfusion h) | refine awp_cond (b := false) rfl (fun h => Bool.noConfusion h) (fun _ => ?_) | refine awp_scope ?_ | refine awp_label ?_ | refine awp_sdraw mixed (by kernel_rfl) ?_ | refine awp_region_draw mixed (by kernel_rfl) ?_ | (refine awp_cond rfl (fun hq => ?_) (fun hq => ?_) <;> first | subst hq | (first | (simp only [decide_eq_true_eq, decide_eq_false_iff_not, beq_iff_eq, beq_eq_false_iff_ne, bne_iff_ne, bne_eq_false_iff_eq, Bool.not_eq_true', Bool.not_eq_false'] at hq; first | (exfalso; omega) | skip) | skip)) | fail) | (refine then_one ?_; first | refine q_then ?_ | refine q_then_exit ?_ | refine q_then_ret ?_ | fail) | (refine block_one ?_; first | refine q_block ?_ | refine q_block_exit ?_ | refine q_block_pass (by decide) ?_ | refine q_block_ret ?_ | fail) | refine feet_one (feetOk_of (by kernel_rfl)) ?_ | fail)
    all_goals first
      | exact aexit_plain (by first | exact .inl rfl | exact .inr rfl) (results_1 rfl (resOk_tmp rfl)) rfl
      | exact absurd rfl (by assumption)
      | (exfalso; omega)
  · have c1 := r10Check_a t hw hs
    have c2 := rIs_a t hw hs
    unfold tcheckP
    rw [checkP_ok _ t hw hs]
    generalize isConP t = C at *
    generalize isTermP t = D at *
    cases C <;> cases D <;>
    (refine acalls_plain Try.func29 rfl rfl (Nat.le_of_ble_eq_true rfl) rfl ?_
     repeat' (first | refine aops_nil ?_ | (refine aops_one ?_; first | refine aops_quiet tabOk rfl rfl rfl (Nat.le_of_ble_eq_true rfl) rfl ?_ | refine aops_skip rfl rfl (Nat.le_of_ble_eq_true rfl) ?_ | (refine aops_cmp rfl rfl rfl (Nat.le_of_ble_eq_true rfl) rfl rfl rfl (fun hq => ?_) (fun hq => ?_) <;> (first | (simp only [decide_eq_true_eq, decide_eq_false_iff_not, beq_iff_eq, beq_eq_false_iff_ne, bne_iff_ne, bne_eq_false_iff_eq, Bool.not_eq_true', Bool.not_eq_false'] at hq; first | (exfalso; omega) | skip) | skip))| refine aops_call rfl rfl (Nat.le_of_ble_eq_true rfl) rfl rfl rfl rfl (c1) ?_ | refine aops_call rfl rfl (Nat.le_of_ble_eq_true rfl) rfl rfl rfl rfl (c2) ?_ | refine aops_inc rfl rfl rfl (Nat.le_of_ble_eq_true rfl) rfl rfl (by omega) ?_ | refine aops_add rfl rfl rfl (Nat.le_of_ble_eq_true rfl) rfl rfl rfl (by omega) (by omega) ?_ | refine aops_sub rfl rfl rfl (Nat.le_of_ble_eq_true rfl) rfl rfl rfl (by omega) (by omega) ?_ | refine aops_list tabOk rfl rfl rfl (Nat.le_of_ble_eq_true rfl) rfl rfl rfl rfl rfl rfl rfl rfl rfl ?_ | refine aops_pure tabOk rfl rfl (Nat.le_of_ble_eq_true rfl) rfl ?_ | refine aops_alloc tabOk rfl rfl rfl (Nat.le_of_ble_eq_true rfl) rfl rfl rfl rfl rfl rfl ?_ | refine aops_loadm tabOk rfl rfl rfl (Nat.le_of_ble_eq_true rfl) rfl rfl rfl rfl ?_ | refine aops_storem tabOk rfl rfl rfl rfl rfl rfl rfl rfl rfl rfl rfl ?_ | refine aops_index tabOk rfl rfl rfl (Nat.le_of_ble_eq_true rfl) rfl rfl rfl rfl (by first | assumption | omega) ?_ | refine aops_index0 tabOk rfl rfl rfl (Nat.le_of_ble_eq_true rfl) rfl rfl rfl rfl (by first | rfl | omega) (by first | omega | simp) ?_ | refine aops_load1 tabOk rfl rfl rfl (Nat.le_of_ble_eq_true rfl) rfl rfl rfl (by assumption) ?_ | refine aops_load1 tabOk rfl rfl rfl (Nat.le_of_ble_eq_true rfl) rfl rfl rfl (ivs_get _ _ (by first | assumption | omega)) ?_ | refine aops_inc rfl rfl rfl (Nat.le_of_ble_eq_true rfl) rfl rfl (by omega) ?_ | ((fail_if_success (refine aops_lit (b := true) rfl rfl rfl ?_)); (fail_if_success (refine aops_lit (b := false) rfl rfl rfl ?_)); refine aops_guard rfl rfl rfl (fun hq => ?_) (fun hq => ?_) <;> first | subst hq | (first | (simp only [decide_eq_true_eq, decide_eq_false_iff_not, beq_iff_eq, beq_eq_false_iff_ne, bne_iff_ne, bne_eq_false_iff_eq, Bool.not_eq_true', Bool.not_eq_false'] at hq; first | (exfalso; omega) | skip) | skip)) | fail) | (refine awp_one ?_; first | refine awp_sreg ?_ | refine awp_seq ?_ | refine awp_region ?_ | refine awp_block ?_ | refine awp_ret ?_ | refine awp_exit ?_ | refine awp_skip ?_ | refine awp_cond (b := true) rfl (fun _ => ?_) (fun h => Bool.noConfusion h) | refine awp_cond (b := false) rfl (fun h => Bool.noConfusion h) (fun _ => ?_) | refine awp_scope ?_ | refine awp_label ?_ | refine awp_sdraw mixed (by kernel_rfl) ?_ | refine awp_region_draw mixed (by kernel_rfl) ?_ | (refine awp_cond rfl (fun hq => ?_) (fun hq => ?_) <;> first | subst hq | (first | (simp only [decide_eq_true_eq, decide_eq_false_iff_not, beq_iff_eq, beq_eq_false_iff_ne, bne_iff_ne, bne_eq_false_iff_eq, Bool.not_eq_true', Bool.not_eq_false'] at hq; first | (exfalso; omega) | skip) | skip)) | fail) | (refine then_one ?_; first | refine q_then ?_ | refine q_then_exit ?_ | refine q_then_ret ?_ | fail) | (refine block_one ?_; first | refine q_block ?_ | refine q_block_exit ?_ | refine q_block_pass (by decide) ?_ | refine q_block_ret ?_ | fail) | refine feet_one (feetOk_of (by kernel_rfl)) ?_ | fail)
     all_goals first
       | (refine aexit_eq (by first | exact .inl rfl | exact .inr rfl) (results_1 rfl (resOk_tmp rfl)) rfl ?_; rfl)
       | exact absurd rfl (by assumption)
       | (exfalso; simp at *; done)
       | (exfalso; omega))
end Go.Proofs.Ytlbemgokilhdnaa.Ab
namespace Go.Proofs.Ytlbemgokilhdnaa.Ab
set_option linter.unusedVariables false
set_option linter.unusedSimpArgs false
open Go.RowKit Go.Lib Go.Proofs.Ytlbemgokilhdnaa.RP
attribute [local irreducible] AWP AOps AExit AThen ABlock ANoGoto FeetOk
theorem txRec_2 (r : List ByteArray × Bool) : (txRec r).2 = r.2 := by
  unfold txRec
  cases h : r.2 <;> simp
set_option maxHeartbeats 16000000 in
set_option maxRecDepth 10000 in
theorem rPlain_a (t : Tree) : isTermP t = true → t.whole = true → t.size ≤ 65536 → ACalls Try.prog 30 [.imm t.iv] [] (.imm (.lit (.bool (txP t).2))) [] := by
  induction t using Tree.sind with
  | h t ih =>
    intro ht hw hs
    obtain ⟨k, n, a, b, ks, rfl⟩ := whole_node hw
    have hl : ks.length < 1000000 := by have := length_sizes ks hw; simp only [Tree.size] at hs; omega
    rw [txP]
    by_cases h1 : k = 131 ∨ k = 132 ∨ k = 133
    · have e : (if k = 131 then (numP n, true) else if k = 132 then (if n = 1 then tTrue else tFalse, true) else if k = 133 then (tUnit, true) else if k = 146 then tx2 a ks else if k = 136 then txRec (txKs ks) else (⟨#[]⟩, false)).2 = true := by
        rcases h1 with rfl | rfl | rfl <;> simp
      rw [e]
      clear ih
      refine acalls_plain Try.func30 rfl rfl (Nat.le_of_ble_eq_true rfl) rfl ?_
      repeat' (first | refine aops_nil ?_ | (refine aops_one ?_; first | refine aops_quiet tabOk rfl rfl rfl (Nat.le_of_ble_eq_true rfl) rfl ?_ | refine aops_skip rfl rfl (Nat.le_of_ble_eq_true rfl) ?_ | (refine aops_cmp rfl rfl rfl (Nat.le_of_ble_eq_true rfl) rfl rfl rfl (fun hq => ?_) (fun hq => ?_) <;> (first | (simp only [decide_eq_true_eq, decide_eq_false_iff_not, beq_iff_eq, beq_eq_false_iff_ne, bne_iff_ne, bne_eq_false_iff_eq, Bool.not_eq_true', Bool.not_eq_false'] at hq; first | (exfalso; omega) | skip) | skip)) | refine aops_inc rfl rfl rfl (Nat.le_of_ble_eq_true rfl) rfl rfl (by omega) ?_ | refine aops_add rfl rfl rfl (Nat.le_of_ble_eq_true rfl) rfl rfl rfl (by omega) (by omega) ?_ | refine aops_sub rfl rfl rfl (Nat.le_of_ble_eq_true rfl) rfl rfl rfl (by omega) (by omega) ?_ | refine aops_list tabOk rfl rfl rfl (Nat.le_of_ble_eq_true rfl) rfl rfl rfl rfl rfl rfl rfl rfl rfl ?_ | refine aops_pure tabOk rfl rfl (Nat.le_of_ble_eq_true rfl) rfl ?_ | refine aops_alloc tabOk rfl rfl rfl (Nat.le_of_ble_eq_true rfl) rfl rfl rfl rfl rfl rfl ?_ | refine aops_loadm tabOk rfl rfl rfl (Nat.le_of_ble_eq_true rfl) rfl rfl rfl rfl ?_ | refine aops_storem tabOk rfl rfl rfl rfl rfl rfl rfl rfl rfl rfl rfl ?_ | refine aops_index tabOk rfl rfl rfl (Nat.le_of_ble_eq_true rfl) rfl rfl rfl rfl (by first | assumption | omega) ?_ | refine aops_index0 tabOk rfl rfl rfl (Nat.le_of_ble_eq_true rfl) rfl rfl rfl rfl (by first | rfl | omega) (by first | omega | simp) ?_ | refine aops_load1 tabOk rfl rfl rfl (Nat.le_of_ble_eq_true rfl) rfl rfl rfl (by assumption) ?_ | refine aops_load1 tabOk rfl rfl rfl (Nat.le_of_ble_eq_true rfl) rfl rfl rfl (ivs_get _ _ (by first | assumption | omega)) ?_ | refine aops_inc rfl rfl rfl (Nat.le_of_ble_eq_true rfl) rfl rfl (by omega) ?_ | ((fail_if_success (refine aops_lit (b := true) rfl rfl rfl ?_)); (fail_if_success (refine aops_lit (b := false) rfl rfl rfl ?_)); refine aops_guard rfl rfl rfl (fun hq => ?_) (fun hq => ?_) <;> first | subst hq | (first | (simp only [decide_eq_true_eq, decide_eq_false_iff_not, beq_iff_eq, beq_eq_false_iff_ne, bne_iff_ne, bne_eq_false_iff_eq, Bool.not_eq_true', Bool.not_eq_false'] at hq; first | (exfalso; omega) | skip) | skip)) | fail) | (refine awp_one ?_; first | refine awp_sreg ?_ | refine awp_seq ?_ | refine awp_region ?_ | refine awp_block ?_ | refine awp_ret ?_ | refine awp_exit ?_ | refine awp_skip ?_ | refine awp_cond (b := true) rfl (fun _ => ?_) (fun h => Bool.noConfusion h) | refine awp_cond (b := false) rfl (fun h => Bool.noConfusion h) (fun _ => ?_) | refine awp_scope ?_ | refine awp_label ?_ | refine awp_sdraw mixed (by kernel_rfl) ?_ | refine awp_region_draw mixed (by kernel_rfl) ?_ | (refine awp_cond rfl (fun hq => ?_) (fun hq => ?_) <;> first | subst hq | (first | (simp only [decide_eq_true_eq, decide_eq_false_iff_not, beq_iff_eq, beq_eq_false_iff_ne, bne_iff_ne, bne_eq_false_iff_eq, Bool.not_eq_true', Bool.not_eq_false'] at hq; first | (exfalso; omega) | skip) | skip)) | fail) | (refine then_one ?_; first | refine q_then ?_ | refine q_then_exit ?_ | refine q_then_ret ?_ | fail) | (refine block_one ?_; first | refine q_block ?_ | refine q_block_exit ?_ | refine q_block_pass (by decide) ?_ | refine q_block_ret ?_ | fail) | refine feet_one (feetOk_of (by kernel_rfl)) ?_ | fail)
      all_goals first
        | exact aexit_plain (by first | exact .inl rfl | exact .inr rfl) (results_1 rfl (resOk_tmp rfl)) rfl
        | (exfalso; omega)
    · rw [if_neg (fun h => h1 (.inl h)), if_neg (fun h => h1 (.inr (.inl h))), if_neg (fun h => h1 (.inr (.inr h)))]
      by_cases h146 : k = 146
      · subst h146
        rw [if_pos rfl]
        obtain ⟨x, y, rfl, hy⟩ := term_app ht
        have c1 := ih y (size_kid (by simp)) hy (wholes_mem hw (by simp)) (by have := size_kid (k := 146) (n := n) (a := a) (b := b) (kids := [x, y]) (t := y) (by simp); omega)
        rw [tx2]
        dsimp only
        refine acalls_plain Try.func30 rfl rfl (Nat.le_of_ble_eq_true rfl) rfl ?_
        repeat' (first | refine aops_nil ?_ | (refine aops_one ?_; first | refine aops_quiet tabOk rfl rfl rfl (Nat.le_of_ble_eq_true rfl) rfl ?_ | refine aops_skip rfl rfl (Nat.le_of_ble_eq_true rfl) ?_ | (refine aops_cmp rfl rfl rfl (Nat.le_of_ble_eq_true rfl) rfl rfl rfl (fun hq => ?_) (fun hq => ?_) <;> (first | (simp only [decide_eq_true_eq, decide_eq_false_iff_not, beq_iff_eq, beq_eq_false_iff_ne, bne_iff_ne, bne_eq_false_iff_eq, Bool.not_eq_true', Bool.not_eq_false'] at hq; first | (exfalso; omega) | skip) | skip))| refine aops_call rfl rfl (Nat.le_of_ble_eq_true rfl) rfl rfl rfl rfl (c1) ?_ | refine aops_inc rfl rfl rfl (Nat.le_of_ble_eq_true rfl) rfl rfl (by omega) ?_ | refine aops_add rfl rfl rfl (Nat.le_of_ble_eq_true rfl) rfl rfl rfl (by omega) (by omega) ?_ | refine aops_sub rfl rfl rfl (Nat.le_of_ble_eq_true rfl) rfl rfl rfl (by omega) (by omega) ?_ | refine aops_list tabOk rfl rfl rfl (Nat.le_of_ble_eq_true rfl) rfl rfl rfl rfl rfl rfl rfl rfl rfl ?_ | refine aops_pure tabOk rfl rfl (Nat.le_of_ble_eq_true rfl) rfl ?_ | refine aops_alloc tabOk rfl rfl rfl (Nat.le_of_ble_eq_true rfl) rfl rfl rfl rfl rfl rfl ?_ | refine aops_loadm tabOk rfl rfl rfl (Nat.le_of_ble_eq_true rfl) rfl rfl rfl rfl ?_ | refine aops_storem tabOk rfl rfl rfl rfl rfl rfl rfl rfl rfl rfl rfl ?_ | refine aops_index tabOk rfl rfl rfl (Nat.le_of_ble_eq_true rfl) rfl rfl rfl rfl (by first | assumption | omega) ?_ | refine aops_index0 tabOk rfl rfl rfl (Nat.le_of_ble_eq_true rfl) rfl rfl rfl rfl (by first | rfl | omega) (by first | omega | simp) ?_ | refine aops_load1 tabOk rfl rfl rfl (Nat.le_of_ble_eq_true rfl) rfl rfl rfl (by assumption) ?_ | refine aops_load1 tabOk rfl rfl rfl (Nat.le_of_ble_eq_true rfl) rfl rfl rfl (ivs_get _ _ (by first | assumption | omega)) ?_ | refine aops_inc rfl rfl rfl (Nat.le_of_ble_eq_true rfl) rfl rfl (by omega) ?_ | ((fail_if_success (refine aops_lit (b := true) rfl rfl rfl ?_)); (fail_if_success (refine aops_lit (b := false) rfl rfl rfl ?_)); refine aops_guard rfl rfl rfl (fun hq => ?_) (fun hq => ?_) <;> first | subst hq | (first | (simp only [decide_eq_true_eq, decide_eq_false_iff_not, beq_iff_eq, beq_eq_false_iff_ne, bne_iff_ne, bne_eq_false_iff_eq, Bool.not_eq_true', Bool.not_eq_false'] at hq; first | (exfalso; omega) | skip) | skip)) | fail) | (refine awp_one ?_; first | refine awp_sreg ?_ | refine awp_seq ?_ | refine awp_region ?_ | refine awp_block ?_ | refine awp_ret ?_ | refine awp_exit ?_ | refine awp_skip ?_ | refine awp_cond (b := true) rfl (fun _ => ?_) (fun h => Bool.noConfusion h) | refine awp_cond (b := false) rfl (fun h => Bool.noConfusion h) (fun _ => ?_) | refine awp_scope ?_ | refine awp_label ?_ | refine awp_sdraw mixed (by kernel_rfl) ?_ | refine awp_region_draw mixed (by kernel_rfl) ?_ | (refine awp_cond rfl (fun hq => ?_) (fun hq => ?_) <;> first | subst hq | (first | (simp only [decide_eq_true_eq, decide_eq_false_iff_not, beq_iff_eq, beq_eq_false_iff_ne, bne_iff_ne, bne_eq_false_iff_eq, Bool.not_eq_true', Bool.not_eq_false'] at hq; first | (exfalso; omega) | skip) | skip)) | fail) | (refine then_one ?_; first | refine q_then ?_ | refine q_then_exit ?_ | refine q_then_ret ?_ | fail) | (refine block_one ?_; first | refine q_block ?_ | refine q_block_exit ?_ | refine q_block_pass (by decide) ?_ | refine q_block_ret ?_ | fail) | refine feet_one (feetOk_of (by kernel_rfl)) ?_ | fail)
        all_goals first
          | exact aexit_plain (by first | exact .inl rfl | exact .inr rfl) (results_1 rfl (resOk_tmp rfl)) rfl
          | exact absurd rfl (by assumption)
          | (exfalso; omega)
      · rw [if_neg h146]
        by_cases h136 : k = 136
        · subst h136
          rw [if_pos rfl, txRec_2, (txKs_map ks).2]
          have hr := term_rec ht
          refine acalls_plain Try.func30 rfl rfl (Nat.le_of_ble_eq_true rfl) rfl ?_
          repeat' (first | refine aops_nil ?_ | (refine aops_one ?_; first | refine aops_quiet tabOk rfl rfl rfl (Nat.le_of_ble_eq_true rfl) rfl ?_ | refine aops_skip rfl rfl (Nat.le_of_ble_eq_true rfl) ?_ | (refine aops_cmp rfl rfl rfl (Nat.le_of_ble_eq_true rfl) rfl rfl rfl (fun hq => ?_) (fun hq => ?_) <;> (first | (simp only [decide_eq_true_eq, decide_eq_false_iff_not, beq_iff_eq, beq_eq_false_iff_ne, bne_iff_ne, bne_eq_false_iff_eq, Bool.not_eq_true', Bool.not_eq_false'] at hq; first | (exfalso; omega) | skip) | skip)) | refine aops_inc rfl rfl rfl (Nat.le_of_ble_eq_true rfl) rfl rfl (by omega) ?_ | refine aops_add rfl rfl rfl (Nat.le_of_ble_eq_true rfl) rfl rfl rfl (by omega) (by omega) ?_ | refine aops_sub rfl rfl rfl (Nat.le_of_ble_eq_true rfl) rfl rfl rfl (by omega) (by omega) ?_ | refine aops_list tabOk rfl rfl rfl (Nat.le_of_ble_eq_true rfl) rfl rfl rfl rfl rfl rfl rfl rfl rfl ?_ | refine aops_pure tabOk rfl rfl (Nat.le_of_ble_eq_true rfl) rfl ?_ | refine aops_alloc tabOk rfl rfl rfl (Nat.le_of_ble_eq_true rfl) rfl rfl rfl rfl rfl rfl ?_ | refine aops_loadm tabOk rfl rfl rfl (Nat.le_of_ble_eq_true rfl) rfl rfl rfl rfl ?_ | refine aops_storem tabOk rfl rfl rfl rfl rfl rfl rfl rfl rfl rfl rfl ?_ | refine aops_index tabOk rfl rfl rfl (Nat.le_of_ble_eq_true rfl) rfl rfl rfl rfl (by first | assumption | omega) ?_ | refine aops_index0 tabOk rfl rfl rfl (Nat.le_of_ble_eq_true rfl) rfl rfl rfl rfl (by first | rfl | omega) (by first | omega | simp) ?_ | refine aops_load1 tabOk rfl rfl rfl (Nat.le_of_ble_eq_true rfl) rfl rfl rfl (by assumption) ?_ | refine aops_load1 tabOk rfl rfl rfl (Nat.le_of_ble_eq_true rfl) rfl rfl rfl (ivs_get _ _ (by first | assumption | omega)) ?_ | refine aops_inc rfl rfl rfl (Nat.le_of_ble_eq_true rfl) rfl rfl (by omega) ?_ | ((fail_if_success (refine aops_lit (b := true) rfl rfl rfl ?_)); (fail_if_success (refine aops_lit (b := false) rfl rfl rfl ?_)); refine aops_guard rfl rfl rfl (fun hq => ?_) (fun hq => ?_) <;> first | subst hq | (first | (simp only [decide_eq_true_eq, decide_eq_false_iff_not, beq_iff_eq, beq_eq_false_iff_ne, bne_iff_ne, bne_eq_false_iff_eq, Bool.not_eq_true', Bool.not_eq_false'] at hq; first | (exfalso; omega) | skip) | skip)) | fail) | (refine awp_one ?_; first | refine awp_sreg ?_ | refine awp_seq ?_ | refine awp_region ?_ | refine awp_block ?_ | refine awp_ret ?_ | refine awp_exit ?_ | refine awp_skip ?_ | refine awp_cond (b := true) rfl (fun _ => ?_) (fun h => Bool.noConfusion h) | refine awp_cond (b := false) rfl (fun h => Bool.noConfusion h) (fun _ => ?_) | refine awp_scope ?_ | refine awp_label ?_ | refine awp_sdraw mixed (by kernel_rfl) ?_ | refine awp_region_draw mixed (by kernel_rfl) ?_ | (refine awp_cond rfl (fun hq => ?_) (fun hq => ?_) <;> first | subst hq | (first | (simp only [decide_eq_true_eq, decide_eq_false_iff_not, beq_iff_eq, beq_eq_false_iff_ne, bne_iff_ne, bne_eq_false_iff_eq, Bool.not_eq_true', Bool.not_eq_false'] at hq; first | (exfalso; omega) | skip) | skip)) | fail) | (refine then_one ?_; first | refine q_then ?_ | refine q_then_exit ?_ | refine q_then_ret ?_ | fail) | (refine block_one ?_; first | refine q_block ?_ | refine q_block_exit ?_ | refine q_block_pass (by decide) ?_ | refine q_block_ret ?_ | fail) | refine feet_one (feetOk_of (by kernel_rfl)) ?_ | fail)
          all_goals first | exact absurd rfl (by assumption) | (exfalso; omega) | skip
          refine awp_loop (ι := {j : Nat // j ≤ ks.length ∧ ∀ t ∈ ks.take j, (txK t).2 = true}) (fun j => S.f ⟨[(3, .imm (.lit (.int .i64 (j.1 : Int)))), (0, .imm (Tree.iv (.node 136 n a b ks)))], []⟩) (fun j => ks.length - j.1) ⟨0, Nat.zero_le _, fun t h => by rw [List.take_zero] at h; cases h⟩ (le_of (by repeat' first | exact trivial | refine ⟨rfl, ?_⟩) (by repeat' first | exact trivial | refine ⟨rfl, ?_⟩)) ?_
          rintro ⟨j, hj, hall⟩
          dsimp only
          by_cases hlt : j < ks.length
          · have hmem := List.getElem_mem hlt
            have hiv := ivs_get ks j hlt
            obtain ⟨k1, n1, a1, b1, c, e1, hc⟩ := hr _ hmem
            have s1 := size_kid (k := 136) (n := n) (a := a) (b := b) hmem
            have hwh := wholes_mem hw hmem
            have hall2 : (txK ks[j]).2 = true → ∀ t ∈ ks.take (j + 1), (txK t).2 = true := fun h t ht2 => by
              rw [List.take_succ_eq_append_getElem hlt, List.mem_append] at ht2
              rcases ht2 with ht2 | ht2
              · exact hall t ht2
              · rw [List.mem_singleton.1 ht2]; exact h
            have hbadk : (txK ks[j]).2 = false → (ks.all fun t => (txK t).2) = false := fun h => by
              rw [Bool.eq_false_iff, ne_eq, List.all_eq_true]
              intro hc2
              have := hc2 _ hmem
              rw [h] at this
              cases this
            rw [e1] at hiv s1 hwh hall2 hbadk
            have s2 := size_kid (k := k1) (n := n1) (a := a1) (b := b1) (kids := [c]) (t := c) (by simp)
            have c1 := ih c (by omega) hc (wholes_mem hwh (by simp)) (by omega)
            rw [txK, tx1] at hall2 hbadk
            dsimp only at hall2 hbadk
            change (Tree.ivs ks)[j * 1]? = some (.ptr [.lit (.int .i64 k1), .lit (.int .i64 n1), .lit (.string a1), .lit (.string b1), .sl false 1 [c.iv]] 0) at hiv
            cases hx : (txP c).2 with
            | false =>
              rw [hx] at c1
              rw [hbadk hx]
              repeat' (first | refine aops_nil ?_ | (refine aops_one ?_; first | refine aops_quiet tabOk rfl rfl rfl (Nat.le_of_ble_eq_true rfl) rfl ?_ | refine aops_skip rfl rfl (Nat.le_of_ble_eq_true rfl) ?_ | (refine aops_cmp rfl rfl rfl (Nat.le_of_ble_eq_true rfl) rfl rfl rfl (fun hq => ?_) (fun hq => ?_) <;> (first | (simp only [decide_eq_true_eq, decide_eq_false_iff_not, beq_iff_eq, beq_eq_false_iff_ne, bne_iff_ne, bne_eq_false_iff_eq, Bool.not_eq_true', Bool.not_eq_false'] at hq; first | (exfalso; omega) | skip) | skip))| refine aops_call rfl rfl (Nat.le_of_ble_eq_true rfl) rfl rfl rfl rfl (c1) ?_ | refine aops_load1 tabOk rfl rfl rfl (Nat.le_of_ble_eq_true rfl) rfl rfl rfl hiv ?_ | refine aops_inc rfl rfl rfl (Nat.le_of_ble_eq_true rfl) rfl rfl (by omega) ?_ | refine aops_add rfl rfl rfl (Nat.le_of_ble_eq_true rfl) rfl rfl rfl (by omega) (by omega) ?_ | refine aops_sub rfl rfl rfl (Nat.le_of_ble_eq_true rfl) rfl rfl rfl (by omega) (by omega) ?_ | refine aops_list tabOk rfl rfl rfl (Nat.le_of_ble_eq_true rfl) rfl rfl rfl rfl rfl rfl rfl rfl rfl ?_ | refine aops_pure tabOk rfl rfl (Nat.le_of_ble_eq_true rfl) rfl ?_ | refine aops_alloc tabOk rfl rfl rfl (Nat.le_of_ble_eq_true rfl) rfl rfl rfl rfl rfl rfl ?_ | refine aops_loadm tabOk rfl rfl rfl (Nat.le_of_ble_eq_true rfl) rfl rfl rfl rfl ?_ | refine aops_storem tabOk rfl rfl rfl rfl rfl rfl rfl rfl rfl rfl rfl ?_ | refine aops_index tabOk rfl rfl rfl (Nat.le_of_ble_eq_true rfl) rfl rfl rfl rfl (by first | assumption | omega) ?_ | refine aops_index0 tabOk rfl rfl rfl (Nat.le_of_ble_eq_true rfl) rfl rfl rfl rfl (by first | rfl | omega) (by first | omega | simp) ?_ | refine aops_load1 tabOk rfl rfl rfl (Nat.le_of_ble_eq_true rfl) rfl rfl rfl (by assumption) ?_ | refine aops_load1 tabOk rfl rfl rfl (Nat.le_of_ble_eq_true rfl) rfl rfl rfl (ivs_get _ _ (by first | assumption | omega)) ?_ | refine aops_inc rfl rfl rfl (Nat.le_of_ble_eq_true rfl) rfl rfl (by omega) ?_ | ((fail_if_success (refine aops_lit (b := true) rfl rfl rfl ?_)); (fail_if_success (refine aops_lit (b := false) rfl rfl rfl ?_)); refine aops_guard rfl rfl rfl (fun hq => ?_) (fun hq => ?_) <;> first | subst hq | (first | (simp only [decide_eq_true_eq, decide_eq_false_iff_not, beq_iff_eq, beq_eq_false_iff_ne, bne_iff_ne, bne_eq_false_iff_eq, Bool.not_eq_true', Bool.not_eq_false'] at hq; first | (exfalso; omega) | skip) | skip)) | fail) | (refine awp_one ?_; first | refine awp_sreg ?_ | refine awp_seq ?_ | refine awp_region ?_ | refine awp_block ?_ | refine awp_ret ?_ | refine awp_exit ?_ | refine awp_skip ?_ | refine awp_cond (b := true) rfl (fun _ => ?_) (fun h => Bool.noConfusion h) | refine awp_cond (b := false) rfl (fun h => Bool.noConfusion h) (fun _ => ?_) | refine awp_scope ?_ | refine awp_label ?_ | refine awp_sdraw mixed (by kernel_rfl) ?_ | refine awp_region_draw mixed (by kernel_rfl) ?_ | (refine awp_cond rfl (fun hq => ?_) (fun hq => ?_) <;> first | subst hq | (first | (simp only [decide_eq_true_eq, decide_eq_false_iff_not, beq_iff_eq, beq_eq_false_iff_ne, bne_iff_ne, bne_eq_false_iff_eq, Bool.not_eq_true', Bool.not_eq_false'] at hq; first | (exfalso; omega) | skip) | skip)) | fail) | (refine then_one ?_; first | refine q_then ?_ | refine q_then_exit ?_ | refine q_then_ret ?_ | fail) | (refine block_one ?_; first | refine q_block ?_ | refine q_block_exit ?_ | refine q_block_pass (by decide) ?_ | refine q_block_ret ?_ | fail) | refine feet_one (feetOk_of (by kernel_rfl)) ?_ | fail)
              all_goals first
                | exact aexit_plain (by first | exact .inl rfl | exact .inr rfl) (results_1 rfl (resOk_tmp rfl)) rfl
                | (exfalso; omega)
            | true =>
              rw [hx] at c1
              repeat' (first | refine aops_nil ?_ | (refine aops_one ?_; first | refine aops_quiet tabOk rfl rfl rfl (Nat.le_of_ble_eq_true rfl) rfl ?_ | refine aops_skip rfl rfl (Nat.le_of_ble_eq_true rfl) ?_ | (refine aops_cmp rfl rfl rfl (Nat.le_of_ble_eq_true rfl) rfl rfl rfl (fun hq => ?_) (fun hq => ?_) <;> (first | (simp only [decide_eq_true_eq, decide_eq_false_iff_not, beq_iff_eq, beq_eq_false_iff_ne, bne_iff_ne, bne_eq_false_iff_eq, Bool.not_eq_true', Bool.not_eq_false'] at hq; first | (exfalso; omega) | skip) | skip))| refine aops_call rfl rfl (Nat.le_of_ble_eq_true rfl) rfl rfl rfl rfl (c1) ?_ | refine aops_load1 tabOk rfl rfl rfl (Nat.le_of_ble_eq_true rfl) rfl rfl rfl hiv ?_ | refine aops_inc rfl rfl rfl (Nat.le_of_ble_eq_true rfl) rfl rfl (by omega) ?_ | refine aops_add rfl rfl rfl (Nat.le_of_ble_eq_true rfl) rfl rfl rfl (by omega) (by omega) ?_ | refine aops_sub rfl rfl rfl (Nat.le_of_ble_eq_true rfl) rfl rfl rfl (by omega) (by omega) ?_ | refine aops_list tabOk rfl rfl rfl (Nat.le_of_ble_eq_true rfl) rfl rfl rfl rfl rfl rfl rfl rfl rfl ?_ | refine aops_pure tabOk rfl rfl (Nat.le_of_ble_eq_true rfl) rfl ?_ | refine aops_alloc tabOk rfl rfl rfl (Nat.le_of_ble_eq_true rfl) rfl rfl rfl rfl rfl rfl ?_ | refine aops_loadm tabOk rfl rfl rfl (Nat.le_of_ble_eq_true rfl) rfl rfl rfl rfl ?_ | refine aops_storem tabOk rfl rfl rfl rfl rfl rfl rfl rfl rfl rfl rfl ?_ | refine aops_index tabOk rfl rfl rfl (Nat.le_of_ble_eq_true rfl) rfl rfl rfl rfl (by first | assumption | omega) ?_ | refine aops_index0 tabOk rfl rfl rfl (Nat.le_of_ble_eq_true rfl) rfl rfl rfl rfl (by first | rfl | omega) (by first | omega | simp) ?_ | refine aops_load1 tabOk rfl rfl rfl (Nat.le_of_ble_eq_true rfl) rfl rfl rfl (by assumption) ?_ | refine aops_load1 tabOk rfl rfl rfl (Nat.le_of_ble_eq_true rfl) rfl rfl rfl (ivs_get _ _ (by first | assumption | omega)) ?_ | refine aops_inc rfl rfl rfl (Nat.le_of_ble_eq_true rfl) rfl rfl (by omega) ?_ | ((fail_if_success (refine aops_lit (b := true) rfl rfl rfl ?_)); (fail_if_success (refine aops_lit (b := false) rfl rfl rfl ?_)); refine aops_guard rfl rfl rfl (fun hq => ?_) (fun hq => ?_) <;> first | subst hq | (first | (simp only [decide_eq_true_eq, decide_eq_false_iff_not, beq_iff_eq, beq_eq_false_iff_ne, bne_iff_ne, bne_eq_false_iff_eq, Bool.not_eq_true', Bool.not_eq_false'] at hq; first | (exfalso; omega) | skip) | skip)) | fail) | (refine awp_one ?_; first | refine awp_sreg ?_ | refine awp_seq ?_ | refine awp_region ?_ | refine awp_block ?_ | refine awp_ret ?_ | refine awp_exit ?_ | refine awp_skip ?_ | refine awp_cond (b := true) rfl (fun _ => ?_) (fun h => Bool.noConfusion h) | refine awp_cond (b := false) rfl (fun h => Bool.noConfusion h) (fun _ => ?_) | refine awp_scope ?_ | refine awp_label ?_ | refine awp_sdraw mixed (by kernel_rfl) ?_ | refine awp_region_draw mixed (by kernel_rfl) ?_ | (refine awp_cond rfl (fun hq => ?_) (fun hq => ?_) <;> first | subst hq | (first | (simp only [decide_eq_true_eq, decide_eq_false_iff_not, beq_iff_eq, beq_eq_false_iff_ne, bne_iff_ne, bne_eq_false_iff_eq, Bool.not_eq_true', Bool.not_eq_false'] at hq; first | (exfalso; omega) | skip) | skip)) | fail) | (refine then_one ?_; first | refine q_then ?_ | refine q_then_exit ?_ | refine q_then_ret ?_ | fail) | (refine block_one ?_; first | refine q_block ?_ | refine q_block_exit ?_ | refine q_block_pass (by decide) ?_ | refine q_block_ret ?_ | fail) | refine feet_one (feetOk_of (by kernel_rfl)) ?_ | fail)
              all_goals first
                | exact ⟨⟨j + 1, hlt, hall2 hx⟩, (by show ks.length - (j + 1) < ks.length - j; omega), (le_of (by repeat' first | exact trivial | refine ⟨rfl, ?_⟩) (by repeat' first | exact trivial | refine ⟨rfl, ?_⟩))⟩
                | (exfalso; omega)
          · have ej : j = ks.length := by omega
            subst ej
            rw [List.take_length] at hall
            rw [List.all_eq_true.2 hall]
            repeat' (first | refine aops_nil ?_ | (refine aops_one ?_; first | refine aops_quiet tabOk rfl rfl rfl (Nat.le_of_ble_eq_true rfl) rfl ?_ | refine aops_skip rfl rfl (Nat.le_of_ble_eq_true rfl) ?_ | (refine aops_cmp rfl rfl rfl (Nat.le_of_ble_eq_true rfl) rfl rfl rfl (fun hq => ?_) (fun hq => ?_) <;> (first | (simp only [decide_eq_true_eq, decide_eq_false_iff_not, beq_iff_eq, beq_eq_false_iff_ne, bne_iff_ne, bne_eq_false_iff_eq, Bool.not_eq_true', Bool.not_eq_false'] at hq; first | (exfalso; omega) | skip) | skip)) | refine aops_inc rfl rfl rfl (Nat.le_of_ble_eq_true rfl) rfl rfl (by omega) ?_ | refine aops_add rfl rfl rfl (Nat.le_of_ble_eq_true rfl) rfl rfl rfl (by omega) (by omega) ?_ | refine aops_sub rfl rfl rfl (Nat.le_of_ble_eq_true rfl) rfl rfl rfl (by omega) (by omega) ?_ | refine aops_list tabOk rfl rfl rfl (Nat.le_of_ble_eq_true rfl) rfl rfl rfl rfl rfl rfl rfl rfl rfl ?_ | refine aops_pure tabOk rfl rfl (Nat.le_of_ble_eq_true rfl) rfl ?_ | refine aops_alloc tabOk rfl rfl rfl (Nat.le_of_ble_eq_true rfl) rfl rfl rfl rfl rfl rfl ?_ | refine aops_loadm tabOk rfl rfl rfl (Nat.le_of_ble_eq_true rfl) rfl rfl rfl rfl ?_ | refine aops_storem tabOk rfl rfl rfl rfl rfl rfl rfl rfl rfl rfl rfl ?_ | refine aops_index tabOk rfl rfl rfl (Nat.le_of_ble_eq_true rfl) rfl rfl rfl rfl (by first | assumption | omega) ?_ | refine aops_index0 tabOk rfl rfl rfl (Nat.le_of_ble_eq_true rfl) rfl rfl rfl rfl (by first | rfl | omega) (by first | omega | simp) ?_ | refine aops_load1 tabOk rfl rfl rfl (Nat.le_of_ble_eq_true rfl) rfl rfl rfl (by assumption) ?_ | refine aops_load1 tabOk rfl rfl rfl (Nat.le_of_ble_eq_true rfl) rfl rfl rfl (ivs_get _ _ (by first | assumption | omega)) ?_ | refine aops_inc rfl rfl rfl (Nat.le_of_ble_eq_true rfl) rfl rfl (by omega) ?_ | ((fail_if_success (refine aops_lit (b := true) rfl rfl rfl ?_)); (fail_if_success (refine aops_lit (b := false) rfl rfl rfl ?_)); refine aops_guard rfl rfl rfl (fun hq => ?_) (fun hq => ?_) <;> first | subst hq | (first | (simp only [decide_eq_true_eq, decide_eq_false_iff_not, beq_iff_eq, beq_eq_false_iff_ne, bne_iff_ne, bne_eq_false_iff_eq, Bool.not_eq_true', Bool.not_eq_false'] at hq; first | (exfalso; omega) | skip) | skip)) | fail) | (refine awp_one ?_; first | refine awp_sreg ?_ | refine awp_seq ?_ | refine awp_region ?_ | refine awp_block ?_ | refine awp_ret ?_ | refine awp_exit ?_ | refine awp_skip ?_ | refine awp_cond (b := true) rfl (fun _ => ?_) (fun h => Bool.noConfusion h) | refine awp_cond (b := false) rfl (fun h => Bool.noConfusion h) (fun _ => ?_) | refine awp_scope ?_ | refine awp_label ?_ | refine awp_sdraw mixed (by kernel_rfl) ?_ | refine awp_region_draw mixed (by kernel_rfl) ?_ | (refine awp_cond rfl (fun hq => ?_) (fun hq => ?_) <;> first | subst hq | (first | (simp only [decide_eq_true_eq, decide_eq_false_iff_not, beq_iff_eq, beq_eq_false_iff_ne, bne_iff_ne, bne_eq_false_iff_eq, Bool.not_eq_true', Bool.not_eq_false'] at hq; first | (exfalso; omega) | skip) | skip)) | fail) | (refine then_one ?_; first | refine q_then ?_ | refine q_then_exit ?_ | refine q_then_ret ?_ | fail) | (refine block_one ?_; first | refine q_block ?_ | refine q_block_exit ?_ | refine q_block_pass (by decide) ?_ | refine q_block_ret ?_ | fail) | refine feet_one (feetOk_of (by kernel_rfl)) ?_ | fail)
            all_goals first
              | exact aexit_plain (by first | exact .inl rfl | exact .inr rfl) (results_1 rfl (resOk_tmp rfl)) rfl
              | (exfalso; omega)
        · rw [if_neg h136]
          refine acalls_plain Try.func30 rfl rfl (Nat.le_of_ble_eq_true rfl) rfl ?_
          repeat' (first | refine aops_nil ?_ | (refine aops_one ?_; first | refine aops_quiet tabOk rfl rfl rfl (Nat.le_of_ble_eq_true rfl) rfl ?_ | refine aops_skip rfl rfl (Nat.le_of_ble_eq_true rfl) ?_ | (refine aops_cmp rfl rfl rfl (Nat.le_of_ble_eq_true rfl) rfl rfl rfl (fun hq => ?_) (fun hq => ?_) <;> (first | (simp only [decide_eq_true_eq, decide_eq_false_iff_not, beq_iff_eq, beq_eq_false_iff_ne, bne_iff_ne, bne_eq_false_iff_eq, Bool.not_eq_true', Bool.not_eq_false'] at hq; first | (exfalso; omega) | skip) | skip)) | refine aops_inc rfl rfl rfl (Nat.le_of_ble_eq_true rfl) rfl rfl (by omega) ?_ | refine aops_add rfl rfl rfl (Nat.le_of_ble_eq_true rfl) rfl rfl rfl (by omega) (by omega) ?_ | refine aops_sub rfl rfl rfl (Nat.le_of_ble_eq_true rfl) rfl rfl rfl (by omega) (by omega) ?_ | refine aops_list tabOk rfl rfl rfl (Nat.le_of_ble_eq_true rfl) rfl rfl rfl rfl rfl rfl rfl rfl rfl ?_ | refine aops_pure tabOk rfl rfl (Nat.le_of_ble_eq_true rfl) rfl ?_ | refine aops_alloc tabOk rfl rfl rfl (Nat.le_of_ble_eq_true rfl) rfl rfl rfl rfl rfl rfl ?_ | refine aops_loadm tabOk rfl rfl rfl (Nat.le_of_ble_eq_true rfl) rfl rfl rfl rfl ?_ | refine aops_storem tabOk rfl rfl rfl rfl rfl rfl rfl rfl rfl rfl rfl ?_ | refine aops_index tabOk rfl rfl rfl (Nat.le_of_ble_eq_true rfl) rfl rfl rfl rfl (by first | assumption | omega) ?_ | refine aops_index0 tabOk rfl rfl rfl (Nat.le_of_ble_eq_true rfl) rfl rfl rfl rfl (by first | rfl | omega) (by first | omega | simp) ?_ | refine aops_load1 tabOk rfl rfl rfl (Nat.le_of_ble_eq_true rfl) rfl rfl rfl (by assumption) ?_ | refine aops_load1 tabOk rfl rfl rfl (Nat.le_of_ble_eq_true rfl) rfl rfl rfl (ivs_get _ _ (by first | assumption | omega)) ?_ | refine aops_inc rfl rfl rfl (Nat.le_of_ble_eq_true rfl) rfl rfl (by omega) ?_ | ((fail_if_success (refine aops_lit (b := true) rfl rfl rfl ?_)); (fail_if_success (refine aops_lit (b := false) rfl rfl rfl ?_)); refine aops_guard rfl rfl rfl (fun hq => ?_) (fun hq => ?_) <;> first | subst hq | (first | (simp only [decide_eq_true_eq, decide_eq_false_iff_not, beq_iff_eq, beq_eq_false_iff_ne, bne_iff_ne, bne_eq_false_iff_eq, Bool.not_eq_true', Bool.not_eq_false'] at hq; first | (exfalso; omega) | skip) | skip)) | fail) | (refine awp_one ?_; first | refine awp_sreg ?_ | refine awp_seq ?_ | refine awp_region ?_ | refine awp_block ?_ | refine awp_ret ?_ | refine awp_exit ?_ | refine awp_skip ?_ | refine awp_cond (b := true) rfl (fun _ => ?_) (fun h => Bool.noConfusion h) | refine awp_cond (b := false) rfl (fun h => Bool.noConfusion h) (fun _ => ?_) | refine awp_scope ?_ | refine awp_label ?_ | refine awp_sdraw mixed (by kernel_rfl) ?_ | refine awp_region_draw mixed (by kernel_rfl) ?_ | (refine awp_cond rfl (fun hq => ?_) (fun hq => ?_) <;> first | subst hq | (first | (simp only [decide_eq_true_eq, decide_eq_false_iff_not, beq_iff_eq, beq_eq_false_iff_ne, bne_iff_ne, bne_eq_false_iff_eq, Bool.not_eq_true', Bool.not_eq_false'] at hq; first | (exfalso; omega) | skip) | skip)) | fail) | (refine then_one ?_; first | refine q_then ?_ | refine q_then_exit ?_ | refine q_then_ret ?_ | fail) | (refine block_one ?_; first | refine q_block ?_ | refine q_block_exit ?_ | refine q_block_pass (by decide) ?_ | refine q_block_ret ?_ | fail) | refine feet_one (feetOk_of (by kernel_rfl)) ?_ | fail)
          all_goals first
            | exact aexit_plain (by first | exact .inl rfl | exact .inr rfl) (results_1 rfl (resOk_tmp rfl)) rfl
            | exact absurd (by assumption) h146
            | exact absurd (by assumption) h136
            | (exfalso; omega)
theorem joinS_snoc (sep : ByteArray) : ∀ (l : List ByteArray) (x : ByteArray), joinS sep (l ++ [x]) = if l.length = 0 then x else joinS sep l ++ sep ++ x := by
  have key : ∀ (l : List (List UInt8)) (x : List UInt8), Lib.join (l ++ [x]) sep.data.toList = if l.length = 0 then x else Lib.join l sep.data.toList ++ sep.data.toList ++ x := by
    intro l x
    induction l with
    | nil => simp [Lib.join, List.intercalate]
    | cons y l ih =>
      cases l with
      | nil => simp [Lib.join, List.intercalate]
      | cons z l =>
        have h1 : ∀ m : List (List UInt8), m ≠ [] → Lib.join (y :: m) sep.data.toList = y ++ (sep.data.toList ++ Lib.join m sep.data.toList) := by
          intro m hm
          cases m with
          | nil => exact absurd rfl hm
          | cons u m => simp [Lib.join, List.intercalate]
        rw [if_neg (by simp)] at ih ⊢
        rw [List.cons_append, h1 _ (by simp), ih, h1 _ (by simp)]
        simp [List.append_assoc]
  intro l x
  have h := key (l.map (·.data.toList)) x.data.toList
  rw [List.length_map] at h
  apply ba_ext
  show Lib.join ((l ++ [x]).map (·.data.toList)) sep.data.toList = _
  rw [List.map_append, List.map_singleton, h]
  split
  · rfl
  · rw [ba_list, ba_list]; rfl
def recA (l : List ByteArray) : ByteArray := if l.length = 0 then ⟨#[123]⟩ else tRec1 ++ joinS tSep l
theorem recA_snoc (l : List ByteArray) (a x : ByteArray) : recA (l ++ [a ++ tIs ++ x]) = (if l.length = 0 then recA l else recA l ++ ⟨#[32, 44]⟩) ++ ⟨#[32]⟩ ++ a ++ tIs ++ x := by
  unfold recA
  rw [if_neg (by simp), joinS_snoc]
  have e1 : tRec1 = ⟨#[123]⟩ ++ ⟨#[32]⟩ := rfl
  have e2 : tSep = ⟨#[32, 44]⟩ ++ ⟨#[32]⟩ := rfl
  by_cases h : l.length = 0
  · rw [if_pos h, if_pos h, if_pos h, e1]
    simp only [ba_assoc]
  · rw [if_neg h, if_neg h, if_neg h, e2, e1]
    simp only [ba_assoc]
theorem recA_end (l : List ByteArray) : recA l ++ tRec2 = if l.length = 0 then tRec0 else tRec1 ++ joinS tSep l ++ tRec2 := by
  unfold recA
  split
  · rfl
  · rfl
end Go.Proofs.Ytlbemgokilhdnaa.Ab
namespace Go.Proofs.Ytlbemgokilhdnaa.Ab
set_option linter.unusedVariables false
set_option linter.unusedSimpArgs false
open Go.RowKit Go.Lib Go.Proofs.Ytlbemgokilhdnaa.RP
attribute [local irreducible] AWP AOps AExit AThen ABlock ANoGoto FeetOk
theorem recA_size (l : List ByteArray) (K : Nat) (h : (l.map fun s => s.size + tSep.size).sum ≤ K) : (recA l).size ≤ K + 2 := by
  unfold recA
  have e8 : tRec1.size = 2 := rfl
  have e9 : (⟨#[123]⟩ : ByteArray).size = 1 := rfl
  split
  · omega
  · rw [ba_size_append]
    have := joinS_size tSep l
    omega
theorem wts_take (l : List Tree) (j : Nat) : Tree.wts (l.take j) ≤ Tree.wts l := by
  induction l generalizing j with
  | nil => simp
  | cons x l ih =>
    cases j with
    | zero => simp [Tree.wts]
    | succ j => rw [List.take_succ_cons, Tree.wts, Tree.wts]; have := ih j; omega
theorem txKs_size (ks : List Tree) (hr : ∀ t ∈ ks, ∃ k n a b c, t = .node k n a b [c] ∧ isTermP c = true) : ((txKs ks).1.map fun s => s.size + tSep.size).sum ≤ 30 * Tree.wts ks := by
  have e10 : tIs.size = 3 := rfl
  have e11 : tSep.size = 3 := rfl
  induction ks with
  | nil => simp [txKs]
  | cons u l ihl =>
    have h1 := ihl (fun t h => hr t (List.mem_cons_of_mem _ h))
    obtain ⟨k1, n1, a1, b1, c, rfl, hc⟩ := hr u List.mem_cons_self
    have hw := tx_size c hc
    rw [txKs, txK, tx1]
    dsimp only
    rw [List.map_cons, List.sum_cons, Tree.wts, ba_size_append, ba_size_append]
    simp only [Tree.wt, Tree.wts]
    omega
set_option maxHeartbeats 16000000 in
set_option maxRecDepth 10000 in
theorem rText_a (t : Tree) : isTermP t = true → t.whole = true → t.size ≤ 65536 → t.wt ≤ 1000000 → (txP t).2 = true →
    ACalls Try.prog 31 [.imm t.iv] [] (.imm (.lit (.string (txP t).1))) [] := by
  induction t using Tree.sind with
  | h t ih =>
    intro ht hw hs hwt hok
    obtain ⟨k, n, a, b, ks, rfl⟩ := whole_node hw
    have hl : ks.length < 1000000 := by have := length_sizes ks hw; simp only [Tree.size] at hs; omega
    have hsz := tx_size _ ht
    have haz : a.size ≤ 1000000 := by rw [Tree.wt] at hwt; omega
    rw [txP] at hsz hok ⊢
    by_cases h131 : k = 131
    · subst h131
      have hr := number_range (term_num ht)
      have hr2 := term_num ht
      have c1 := refnum_a n (by unfold numberP at hr2; simp at hr2; omega) hr.2
      rw [if_pos rfl]
      refine acalls_plain Try.func31 rfl rfl (Nat.le_of_ble_eq_true rfl) rfl ?_
      repeat' (first | refine aops_nil ?_ | (refine aops_one ?_; first | refine aops_quiet tabOk rfl rfl rfl (Nat.le_of_ble_eq_true rfl) rfl ?_ | refine aops_skip rfl rfl (Nat.le_of_ble_eq_true rfl) ?_ | (refine aops_cmp rfl rfl rfl (Nat.le_of_ble_eq_true rfl) rfl rfl rfl (fun hq => ?_) (fun hq => ?_) <;> (first | (simp only [decide_eq_true_eq, decide_eq_false_iff_not, beq_iff_eq, beq_eq_false_iff_ne, bne_iff_ne, bne_eq_false_iff_eq, Bool.not_eq_true', Bool.not_eq_false'] at hq; first | (exfalso; omega) | skip) | skip))| refine aops_call rfl rfl (Nat.le_of_ble_eq_true rfl) rfl rfl rfl rfl (c1) ?_ | refine aops_inc rfl rfl rfl (Nat.le_of_ble_eq_true rfl) rfl rfl (by omega) ?_ | refine aops_add rfl rfl rfl (Nat.le_of_ble_eq_true rfl) rfl rfl rfl (by omega) (by omega) ?_ | refine aops_sub rfl rfl rfl (Nat.le_of_ble_eq_true rfl) rfl rfl rfl (by omega) (by omega) ?_ | refine aops_list tabOk rfl rfl rfl (Nat.le_of_ble_eq_true rfl) rfl rfl rfl rfl rfl rfl rfl rfl rfl ?_ | refine aops_pure tabOk rfl rfl (Nat.le_of_ble_eq_true rfl) rfl ?_ | refine aops_alloc tabOk rfl rfl rfl (Nat.le_of_ble_eq_true rfl) rfl rfl rfl rfl rfl rfl ?_ | refine aops_loadm tabOk rfl rfl rfl (Nat.le_of_ble_eq_true rfl) rfl rfl rfl rfl ?_ | refine aops_storem tabOk rfl rfl rfl rfl rfl rfl rfl rfl rfl rfl rfl ?_ | refine aops_index tabOk rfl rfl rfl (Nat.le_of_ble_eq_true rfl) rfl rfl rfl rfl (by first | assumption | omega) ?_ | refine aops_index0 tabOk rfl rfl rfl (Nat.le_of_ble_eq_true rfl) rfl rfl rfl rfl (by first | rfl | omega) (by first | omega | simp) ?_ | refine aops_load1 tabOk rfl rfl rfl (Nat.le_of_ble_eq_true rfl) rfl rfl rfl (by assumption) ?_ | refine aops_load1 tabOk rfl rfl rfl (Nat.le_of_ble_eq_true rfl) rfl rfl rfl (ivs_get _ _ (by first | assumption | omega)) ?_ | refine aops_inc rfl rfl rfl (Nat.le_of_ble_eq_true rfl) rfl rfl (by omega) ?_ | ((fail_if_success (refine aops_lit (b := true) rfl rfl rfl ?_)); (fail_if_success (refine aops_lit (b := false) rfl rfl rfl ?_)); refine aops_guard rfl rfl rfl (fun hq => ?_) (fun hq => ?_) <;> first | subst hq | (first | (simp only [decide_eq_true_eq, decide_eq_false_iff_not, beq_iff_eq, beq_eq_false_iff_ne, bne_iff_ne, bne_eq_false_iff_eq, Bool.not_eq_true', Bool.not_eq_false'] at hq; first | (exfalso; omega) | skip) | skip)) | fail) | (refine awp_one ?_; first | refine awp_sreg ?_ | refine awp_seq ?_ | refine awp_region ?_ | refine awp_block ?_ | refine awp_ret ?_ | refine awp_exit ?_ | refine awp_skip ?_ | refine awp_cond (b := true) rfl (fun _ => ?_) (fun h => Bool.noConfusion h) | refine awp_cond (b := false) rfl (fun h => Bool.noConfusion h) (fun _ => ?_) | refine awp_scope ?_ | refine awp_label ?_ | refine awp_sdraw mixed (by kernel_rfl) ?_ | refine awp_region_draw mixed (by kernel_rfl) ?_ | (refine awp_cond rfl (fun hq => ?_) (fun hq => ?_) <;> first | subst hq | (first | (simp only [decide_eq_true_eq, decide_eq_false_iff_not, beq_iff_eq, beq_eq_false_iff_ne, bne_iff_ne, bne_eq_false_iff_eq, Bool.not_eq_true', Bool.not_eq_false'] at hq; first | (exfalso; omega) | skip) | skip)) | fail) | (refine then_one ?_; first | refine q_then ?_ | refine q_then_exit ?_ | refine q_then_ret ?_ | fail) | (refine block_one ?_; first | refine q_block ?_ | refine q_block_exit ?_ | refine q_block_pass (by decide) ?_ | refine q_block_ret ?_ | fail) | refine feet_one (feetOk_of (by kernel_rfl)) ?_ | fail)
      all_goals first
        | exact aexit_plain (by first | exact .inl rfl | exact .inr rfl) (results_1 rfl (resOk_tmp rfl)) rfl
        | exact absurd rfl (by assumption)
    · rw [if_neg h131] at hsz hok ⊢
      by_cases h132 : k = 132
      · subst h132
        rw [if_pos rfl]
        by_cases hn : n = 1
        · subst hn
          refine acalls_plain Try.func31 rfl rfl (Nat.le_of_ble_eq_true rfl) rfl ?_
          repeat' (first | refine aops_nil ?_ | (refine aops_one ?_; first | refine aops_quiet tabOk rfl rfl rfl (Nat.le_of_ble_eq_true rfl) rfl ?_ | refine aops_skip rfl rfl (Nat.le_of_ble_eq_true rfl) ?_ | (refine aops_cmp rfl rfl rfl (Nat.le_of_ble_eq_true rfl) rfl rfl rfl (fun hq => ?_) (fun hq => ?_) <;> (first | (simp only [decide_eq_true_eq, decide_eq_false_iff_not, beq_iff_eq, beq_eq_false_iff_ne, bne_iff_ne, bne_eq_false_iff_eq, Bool.not_eq_true', Bool.not_eq_false'] at hq; first | (exfalso; omega) | skip) | skip)) | refine aops_inc rfl rfl rfl (Nat.le_of_ble_eq_true rfl) rfl rfl (by omega) ?_ | refine aops_add rfl rfl rfl (Nat.le_of_ble_eq_true rfl) rfl rfl rfl (by omega) (by omega) ?_ | refine aops_sub rfl rfl rfl (Nat.le_of_ble_eq_true rfl) rfl rfl rfl (by omega) (by omega) ?_ | refine aops_list tabOk rfl rfl rfl (Nat.le_of_ble_eq_true rfl) rfl rfl rfl rfl rfl rfl rfl rfl rfl ?_ | refine aops_pure tabOk rfl rfl (Nat.le_of_ble_eq_true rfl) rfl ?_ | refine aops_alloc tabOk rfl rfl rfl (Nat.le_of_ble_eq_true rfl) rfl rfl rfl rfl rfl rfl ?_ | refine aops_loadm tabOk rfl rfl rfl (Nat.le_of_ble_eq_true rfl) rfl rfl rfl rfl ?_ | refine aops_storem tabOk rfl rfl rfl rfl rfl rfl rfl rfl rfl rfl rfl ?_ | refine aops_index tabOk rfl rfl rfl (Nat.le_of_ble_eq_true rfl) rfl rfl rfl rfl (by first | assumption | omega) ?_ | refine aops_index0 tabOk rfl rfl rfl (Nat.le_of_ble_eq_true rfl) rfl rfl rfl rfl (by first | rfl | omega) (by first | omega | simp) ?_ | refine aops_load1 tabOk rfl rfl rfl (Nat.le_of_ble_eq_true rfl) rfl rfl rfl (by assumption) ?_ | refine aops_load1 tabOk rfl rfl rfl (Nat.le_of_ble_eq_true rfl) rfl rfl rfl (ivs_get _ _ (by first | assumption | omega)) ?_ | refine aops_inc rfl rfl rfl (Nat.le_of_ble_eq_true rfl) rfl rfl (by omega) ?_ | ((fail_if_success (refine aops_lit (b := true) rfl rfl rfl ?_)); (fail_if_success (refine aops_lit (b := false) rfl rfl rfl ?_)); refine aops_guard rfl rfl rfl (fun hq => ?_) (fun hq => ?_) <;> first | subst hq | (first | (simp only [decide_eq_true_eq, decide_eq_false_iff_not, beq_iff_eq, beq_eq_false_iff_ne, bne_iff_ne, bne_eq_false_iff_eq, Bool.not_eq_true', Bool.not_eq_false'] at hq; first | (exfalso; omega) | skip) | skip)) | fail) | (refine awp_one ?_; first | refine awp_sreg ?_ | refine awp_seq ?_ | refine awp_region ?_ | refine awp_block ?_ | refine awp_ret ?_ | refine awp_exit ?_ | refine awp_skip ?_ | refine awp_cond (b := true) rfl (fun _ => ?_) (fun h => Bool.noConfusion h) | refine awp_cond (b := false) rfl (fun h => Bool.noConfusion h) (fun _ => ?_) | refine awp_scope ?_ | refine awp_label ?_ | refine awp_sdraw mixed (by kernel_rfl) ?_ | refine awp_region_draw mixed (by kernel_rfl) ?_ | (refine awp_cond rfl (fun hq => ?_) (fun hq => ?_) <;> first | subst hq | (first | (simp only [decide_eq_true_eq, decide_eq_false_iff_not, beq_iff_eq, beq_eq_false_iff_ne, bne_iff_ne, bne_eq_false_iff_eq, Bool.not_eq_true', Bool.not_eq_false'] at hq; first | (exfalso; omega) | skip) | skip)) | fail) | (refine then_one ?_; first | refine q_then ?_ | refine q_then_exit ?_ | refine q_then_ret ?_ | fail) | (refine block_one ?_; first | refine q_block ?_ | refine q_block_exit ?_ | refine q_block_pass (by decide) ?_ | refine q_block_ret ?_ | fail) | refine feet_one (feetOk_of (by kernel_rfl)) ?_ | fail)
          all_goals first
            | exact aexit_plain (by first | exact .inl rfl | exact .inr rfl) (results_1 rfl (resOk_tmp rfl)) rfl
            | exact absurd rfl (by assumption)
            | (exfalso; omega)
        · rw [if_neg hn]
          refine acalls_plain Try.func31 rfl rfl (Nat.le_of_ble_eq_true rfl) rfl ?_
          repeat' (first | refine aops_nil ?_ | (refine aops_one ?_; first | refine aops_quiet tabOk rfl rfl rfl (Nat.le_of_ble_eq_true rfl) rfl ?_ | refine aops_skip rfl rfl (Nat.le_of_ble_eq_true rfl) ?_ | (refine aops_cmp rfl rfl rfl (Nat.le_of_ble_eq_true rfl) rfl rfl rfl (fun hq => ?_) (fun hq => ?_) <;> (first | (simp only [decide_eq_true_eq, decide_eq_false_iff_not, beq_iff_eq, beq_eq_false_iff_ne, bne_iff_ne, bne_eq_false_iff_eq, Bool.not_eq_true', Bool.not_eq_false'] at hq; first | (exfalso; omega) | skip) | skip)) | refine aops_inc rfl rfl rfl (Nat.le_of_ble_eq_true rfl) rfl rfl (by omega) ?_ | refine aops_add rfl rfl rfl (Nat.le_of_ble_eq_true rfl) rfl rfl rfl (by omega) (by omega) ?_ | refine aops_sub rfl rfl rfl (Nat.le_of_ble_eq_true rfl) rfl rfl rfl (by omega) (by omega) ?_ | refine aops_list tabOk rfl rfl rfl (Nat.le_of_ble_eq_true rfl) rfl rfl rfl rfl rfl rfl rfl rfl rfl ?_ | refine aops_pure tabOk rfl rfl (Nat.le_of_ble_eq_true rfl) rfl ?_ | refine aops_alloc tabOk rfl rfl rfl (Nat.le_of_ble_eq_true rfl) rfl rfl rfl rfl rfl rfl ?_ | refine aops_loadm tabOk rfl rfl rfl (Nat.le_of_ble_eq_true rfl) rfl rfl rfl rfl ?_ | refine aops_storem tabOk rfl rfl rfl rfl rfl rfl rfl rfl rfl rfl rfl ?_ | refine aops_index tabOk rfl rfl rfl (Nat.le_of_ble_eq_true rfl) rfl rfl rfl rfl (by first | assumption | omega) ?_ | refine aops_index0 tabOk rfl rfl rfl (Nat.le_of_ble_eq_true rfl) rfl rfl rfl rfl (by first | rfl | omega) (by first | omega | simp) ?_ | refine aops_load1 tabOk rfl rfl rfl (Nat.le_of_ble_eq_true rfl) rfl rfl rfl (by assumption) ?_ | refine aops_load1 tabOk rfl rfl rfl (Nat.le_of_ble_eq_true rfl) rfl rfl rfl (ivs_get _ _ (by first | assumption | omega)) ?_ | refine aops_inc rfl rfl rfl (Nat.le_of_ble_eq_true rfl) rfl rfl (by omega) ?_ | ((fail_if_success (refine aops_lit (b := true) rfl rfl rfl ?_)); (fail_if_success (refine aops_lit (b := false) rfl rfl rfl ?_)); refine aops_guard rfl rfl rfl (fun hq => ?_) (fun hq => ?_) <;> first | subst hq | (first | (simp only [decide_eq_true_eq, decide_eq_false_iff_not, beq_iff_eq, beq_eq_false_iff_ne, bne_iff_ne, bne_eq_false_iff_eq, Bool.not_eq_true', Bool.not_eq_false'] at hq; first | (exfalso; omega) | skip) | skip)) | fail) | (refine awp_one ?_; first | refine awp_sreg ?_ | refine awp_seq ?_ | refine awp_region ?_ | refine awp_block ?_ | refine awp_ret ?_ | refine awp_exit ?_ | refine awp_skip ?_ | refine awp_cond (b := true) rfl (fun _ => ?_) (fun h => Bool.noConfusion h) | refine awp_cond (b := false) rfl (fun h => Bool.noConfusion h) (fun _ => ?_) | refine awp_scope ?_ | refine awp_label ?_ | refine awp_sdraw mixed (by kernel_rfl) ?_ | refine awp_region_draw mixed (by kernel_rfl) ?_ | (refine awp_cond rfl (fun hq => ?_) (fun hq => ?_) <;> first | subst hq | (first | (simp only [decide_eq_true_eq, decide_eq_false_iff_not, beq_iff_eq, beq_eq_false_iff_ne, bne_iff_ne, bne_eq_false_iff_eq, Bool.not_eq_true', Bool.not_eq_false'] at hq; first | (exfalso; omega) | skip) | skip)) | fail) | (refine then_one ?_; first | refine q_then ?_ | refine q_then_exit ?_ | refine q_then_ret ?_ | fail) | (refine block_one ?_; first | refine q_block ?_ | refine q_block_exit ?_ | refine q_block_pass (by decide) ?_ | refine q_block_ret ?_ | fail) | refine feet_one (feetOk_of (by kernel_rfl)) ?_ | fail)
          all_goals first
            | exact aexit_plain (by first | exact .inl rfl | exact .inr rfl) (results_1 rfl (resOk_tmp rfl)) rfl
            | exact absurd rfl (by assumption)
            | exact absurd (by assumption) hn
            | (exfalso; omega)
      · rw [if_neg h132] at hsz hok ⊢
        by_cases h133 : k = 133
        · subst h133
          rw [if_pos rfl]
          refine acalls_plain Try.func31 rfl rfl (Nat.le_of_ble_eq_true rfl) rfl ?_
          repeat' (first | refine aops_nil ?_ | (refine aops_one ?_; first | refine aops_quiet tabOk rfl rfl rfl (Nat.le_of_ble_eq_true rfl) rfl ?_ | refine aops_skip rfl rfl (Nat.le_of_ble_eq_true rfl) ?_ | (refine aops_cmp rfl rfl rfl (Nat.le_of_ble_eq_true rfl) rfl rfl rfl (fun hq => ?_) (fun hq => ?_) <;> (first | (simp only [decide_eq_true_eq, decide_eq_false_iff_not, beq_iff_eq, beq_eq_false_iff_ne, bne_iff_ne, bne_eq_false_iff_eq, Bool.not_eq_true', Bool.not_eq_false'] at hq; first | (exfalso; omega) | skip) | skip)) | refine aops_inc rfl rfl rfl (Nat.le_of_ble_eq_true rfl) rfl rfl (by omega) ?_ | refine aops_add rfl rfl rfl (Nat.le_of_ble_eq_true rfl) rfl rfl rfl (by omega) (by omega) ?_ | refine aops_sub rfl rfl rfl (Nat.le_of_ble_eq_true rfl) rfl rfl rfl (by omega) (by omega) ?_ | refine aops_list tabOk rfl rfl rfl (Nat.le_of_ble_eq_true rfl) rfl rfl rfl rfl rfl rfl rfl rfl rfl ?_ | refine aops_pure tabOk rfl rfl (Nat.le_of_ble_eq_true rfl) rfl ?_ | refine aops_alloc tabOk rfl rfl rfl (Nat.le_of_ble_eq_true rfl) rfl rfl rfl rfl rfl rfl ?_ | refine aops_loadm tabOk rfl rfl rfl (Nat.le_of_ble_eq_true rfl) rfl rfl rfl rfl ?_ | refine aops_storem tabOk rfl rfl rfl rfl rfl rfl rfl rfl rfl rfl rfl ?_ | refine aops_index tabOk rfl rfl rfl (Nat.le_of_ble_eq_true rfl) rfl rfl rfl rfl (by first | assumption | omega) ?_ | refine aops_index0 tabOk rfl rfl rfl (Nat.le_of_ble_eq_true rfl) rfl rfl rfl rfl (by first | rfl | omega) (by first | omega | simp) ?_ | refine aops_load1 tabOk rfl rfl rfl (Nat.le_of_ble_eq_true rfl) rfl rfl rfl (by assumption) ?_ | refine aops_load1 tabOk rfl rfl rfl (Nat.le_of_ble_eq_true rfl) rfl rfl rfl (ivs_get _ _ (by first | assumption | omega)) ?_ | refine aops_inc rfl rfl rfl (Nat.le_of_ble_eq_true rfl) rfl rfl (by omega) ?_ | ((fail_if_success (refine aops_lit (b := true) rfl rfl rfl ?_)); (fail_if_success (refine aops_lit (b := false) rfl rfl rfl ?_)); refine aops_guard rfl rfl rfl (fun hq => ?_) (fun hq => ?_) <;> first | subst hq | (first | (simp only [decide_eq_true_eq, decide_eq_false_iff_not, beq_iff_eq, beq_eq_false_iff_ne, bne_iff_ne, bne_eq_false_iff_eq, Bool.not_eq_true', Bool.not_eq_false'] at hq; first | (exfalso; omega) | skip) | skip)) | fail) | (refine awp_one ?_; first | refine awp_sreg ?_ | refine awp_seq ?_ | refine awp_region ?_ | refine awp_block ?_ | refine awp_ret ?_ | refine awp_exit ?_ | refine awp_skip ?_ | refine awp_cond (b := true) rfl (fun _ => ?_) (fun h => Bool.noConfusion h) | refine awp_cond (b := false) rfl (fun h => Bool.noConfusion h) (fun _ => ?_) | refine awp_scope ?_ | refine awp_label ?_ | refine awp_sdraw mixed (by kernel_rfl) ?_ | refine awp_region_draw mixed (by kernel_rfl) ?_ | (refine awp_cond rfl (fun hq => ?_) (fun hq => ?_) <;> first | subst hq | (first | (simp only [decide_eq_true_eq, decide_eq_false_iff_not, beq_iff_eq, beq_eq_false_iff_ne, bne_iff_ne, bne_eq_false_iff_eq, Bool.not_eq_true', Bool.not_eq_false'] at hq; first | (exfalso; omega) | skip) | skip)) | fail) | (refine then_one ?_; first | refine q_then ?_ | refine q_then_exit ?_ | refine q_then_ret ?_ | fail) | (refine block_one ?_; first | refine q_block ?_ | refine q_block_exit ?_ | refine q_block_pass (by decide) ?_ | refine q_block_ret ?_ | fail) | refine feet_one (feetOk_of (by kernel_rfl)) ?_ | fail)
          all_goals first
            | exact aexit_plain (by first | exact .inl rfl | exact .inr rfl) (results_1 rfl (resOk_tmp rfl)) rfl
            | exact absurd rfl (by assumption)
            | (exfalso; omega)
        · rw [if_neg h133] at hsz hok ⊢
          by_cases h146 : k = 146
          · subst h146
            rw [if_pos rfl] at hsz hok ⊢
            obtain ⟨x, y, rfl, hy⟩ := term_app ht
            rw [tx2] at hok
            have c1 := ih y (size_kid (by simp)) hy (wholes_mem hw (by simp)) (by have := size_kid (k := 146) (n := n) (a := a) (b := b) (kids := [x, y]) (t := y) (by simp); omega) (Nat.le_trans (wt_kid (by simp)) hwt) hok
            have hyz := tx_size y hy
            have hyw := wt_kid (k := 146) (n := n) (a := a) (b := b) (kids := [x, y]) (t := y) (by simp)
            rw [tx2]
            dsimp only
            have e5 : (⟨#[32, 40, 32]⟩ : ByteArray).size = 3 := rfl
            have e6 : (⟨#[32, 41]⟩ : ByteArray).size = 2 := rfl
            generalize txP y = R at *
            obtain ⟨R1, R2⟩ := R
            dsimp only at *
            refine acalls_plain Try.func31 rfl rfl (Nat.le_of_ble_eq_true rfl) rfl ?_
            repeat' (first | refine aops_nil ?_ | (refine aops_one ?_; first | refine aops_quiet tabOk rfl rfl rfl (Nat.le_of_ble_eq_true rfl) rfl ?_ | refine aops_skip rfl rfl (Nat.le_of_ble_eq_true rfl) ?_ | (refine aops_cmp rfl rfl rfl (Nat.le_of_ble_eq_true rfl) rfl rfl rfl (fun hq => ?_) (fun hq => ?_) <;> (first | (simp only [decide_eq_true_eq, decide_eq_false_iff_not, beq_iff_eq, beq_eq_false_iff_ne, bne_iff_ne, bne_eq_false_iff_eq, Bool.not_eq_true', Bool.not_eq_false'] at hq; first | (exfalso; omega) | skip) | skip))| refine aops_call rfl rfl (Nat.le_of_ble_eq_true rfl) rfl rfl rfl rfl (c1) ?_ | refine aops_concat rfl rfl rfl (Nat.le_of_ble_eq_true rfl) rfl rfl (by first | omega | (simp only [ba_size_append]; omega)) ?_ | refine aops_inc rfl rfl rfl (Nat.le_of_ble_eq_true rfl) rfl rfl (by omega) ?_ | refine aops_add rfl rfl rfl (Nat.le_of_ble_eq_true rfl) rfl rfl rfl (by omega) (by omega) ?_ | refine aops_sub rfl rfl rfl (Nat.le_of_ble_eq_true rfl) rfl rfl rfl (by omega) (by omega) ?_ | refine aops_list tabOk rfl rfl rfl (Nat.le_of_ble_eq_true rfl) rfl rfl rfl rfl rfl rfl rfl rfl rfl ?_ | refine aops_pure tabOk rfl rfl (Nat.le_of_ble_eq_true rfl) rfl ?_ | refine aops_alloc tabOk rfl rfl rfl (Nat.le_of_ble_eq_true rfl) rfl rfl rfl rfl rfl rfl ?_ | refine aops_loadm tabOk rfl rfl rfl (Nat.le_of_ble_eq_true rfl) rfl rfl rfl rfl ?_ | refine aops_storem tabOk rfl rfl rfl rfl rfl rfl rfl rfl rfl rfl rfl ?_ | refine aops_index tabOk rfl rfl rfl (Nat.le_of_ble_eq_true rfl) rfl rfl rfl rfl (by first | assumption | omega) ?_ | refine aops_index0 tabOk rfl rfl rfl (Nat.le_of_ble_eq_true rfl) rfl rfl rfl rfl (by first | rfl | omega) (by first | omega | simp) ?_ | refine aops_load1 tabOk rfl rfl rfl (Nat.le_of_ble_eq_true rfl) rfl rfl rfl (by assumption) ?_ | refine aops_load1 tabOk rfl rfl rfl (Nat.le_of_ble_eq_true rfl) rfl rfl rfl (ivs_get _ _ (by first | assumption | omega)) ?_ | refine aops_inc rfl rfl rfl (Nat.le_of_ble_eq_true rfl) rfl rfl (by omega) ?_ | ((fail_if_success (refine aops_lit (b := true) rfl rfl rfl ?_)); (fail_if_success (refine aops_lit (b := false) rfl rfl rfl ?_)); refine aops_guard rfl rfl rfl (fun hq => ?_) (fun hq => ?_) <;> first | subst hq | (first | (simp only [decide_eq_true_eq, decide_eq_false_iff_not, beq_iff_eq, beq_eq_false_iff_ne, bne_iff_ne, bne_eq_false_iff_eq, Bool.not_eq_true', Bool.not_eq_false'] at hq; first | (exfalso; omega) | skip) | skip)) | fail) | (refine awp_one ?_; first | refine awp_sreg ?_ | refine awp_seq ?_ | refine awp_region ?_ | refine awp_block ?_ | refine awp_ret ?_ | refine awp_exit ?_ | refine awp_skip ?_ | refine awp_cond (b := true) rfl (fun _ => ?_) (fun h => Bool.noConfusion h) | refine awp_cond (b := false) rfl (fun h => Bool.noConfusion h) (fun _ => ?_) | refine awp_scope ?_ | refine awp_label ?_ | refine awp_sdraw mixed (by kernel_rfl) ?_ | refine awp_region_draw mixed (by kernel_rfl) ?_ | (refine awp_cond rfl (fun hq => ?_) (fun hq => ?_) <;> first | subst hq | (first | (simp only [decide_eq_true_eq, decide_eq_false_iff_not, beq_iff_eq, beq_eq_false_iff_ne, bne_iff_ne, bne_eq_false_iff_eq, Bool.not_eq_true', Bool.not_eq_false'] at hq; first | (exfalso; omega) | skip) | skip)) | fail) | (refine then_one ?_; first | refine q_then ?_ | refine q_then_exit ?_ | refine q_then_ret ?_ | fail) | (refine block_one ?_; first | refine q_block ?_ | refine q_block_exit ?_ | refine q_block_pass (by decide) ?_ | refine q_block_ret ?_ | fail) | refine feet_one (feetOk_of (by kernel_rfl)) ?_ | fail)
            all_goals first
              | exact aexit_plain (by first | exact .inl rfl | exact .inr rfl) (results_1 rfl (resOk_tmp rfl)) rfl
              | exact absurd rfl (by assumption)
              | (exfalso; omega)
          · rw [if_neg h146] at hsz hok ⊢
            by_cases h136 : k = 136
            · subst h136
              rw [if_pos rfl] at hsz hok ⊢
              have hr := term_rec ht
              have hwk : (Tree.node 136 n a b ks).wt = 1 + a.size + b.size + Tree.wts ks := by rw [Tree.wt]
              rw [txRec_2] at hok
              have hall : ∀ t ∈ ks, (txK t).2 = true := by
                rw [(txKs_map ks).2, List.all_eq_true] at hok
                exact hok
              have hT : (txRec (txKs ks)).1 = recA (txKs ks).1 ++ tRec2 := by
                unfold txRec
                rw [if_pos hok, recA_end]
              rw [hT]
              have ez : recA [] = ⟨#[123]⟩ := rfl
              have e1' : (⟨#[32]⟩ : ByteArray).size = 1 := rfl
              have e2' : (⟨#[32, 44]⟩ : ByteArray).size = 2 := rfl
              have e3' : (⟨#[32, 61, 32]⟩ : ByteArray).size = 3 := rfl
              have e4' : (⟨#[32, 125]⟩ : ByteArray).size = 2 := rfl
              refine acalls_plain Try.func31 rfl rfl (Nat.le_of_ble_eq_true rfl) rfl ?_
              repeat' (first | refine aops_nil ?_ | (refine aops_one ?_; first | refine aops_quiet tabOk rfl rfl rfl (Nat.le_of_ble_eq_true rfl) rfl ?_ | refine aops_skip rfl rfl (Nat.le_of_ble_eq_true rfl) ?_ | (refine aops_cmp rfl rfl rfl (Nat.le_of_ble_eq_true rfl) rfl rfl rfl (fun hq => ?_) (fun hq => ?_) <;> (first | (simp only [decide_eq_true_eq, decide_eq_false_iff_not, beq_iff_eq, beq_eq_false_iff_ne, bne_iff_ne, bne_eq_false_iff_eq, Bool.not_eq_true', Bool.not_eq_false'] at hq; first | (exfalso; omega) | skip) | skip)) | refine aops_inc rfl rfl rfl (Nat.le_of_ble_eq_true rfl) rfl rfl (by omega) ?_ | refine aops_add rfl rfl rfl (Nat.le_of_ble_eq_true rfl) rfl rfl rfl (by omega) (by omega) ?_ | refine aops_sub rfl rfl rfl (Nat.le_of_ble_eq_true rfl) rfl rfl rfl (by omega) (by omega) ?_ | refine aops_list tabOk rfl rfl rfl (Nat.le_of_ble_eq_true rfl) rfl rfl rfl rfl rfl rfl rfl rfl rfl ?_ | refine aops_pure tabOk rfl rfl (Nat.le_of_ble_eq_true rfl) rfl ?_ | refine aops_alloc tabOk rfl rfl rfl (Nat.le_of_ble_eq_true rfl) rfl rfl rfl rfl rfl rfl ?_ | refine aops_loadm tabOk rfl rfl rfl (Nat.le_of_ble_eq_true rfl) rfl rfl rfl rfl ?_ | refine aops_storem tabOk rfl rfl rfl rfl rfl rfl rfl rfl rfl rfl rfl ?_ | refine aops_index tabOk rfl rfl rfl (Nat.le_of_ble_eq_true rfl) rfl rfl rfl rfl (by first | assumption | omega) ?_ | refine aops_index0 tabOk rfl rfl rfl (Nat.le_of_ble_eq_true rfl) rfl rfl rfl rfl (by first | rfl | omega) (by first | omega | simp) ?_ | refine aops_load1 tabOk rfl rfl rfl (Nat.le_of_ble_eq_true rfl) rfl rfl rfl (by assumption) ?_ | refine aops_load1 tabOk rfl rfl rfl (Nat.le_of_ble_eq_true rfl) rfl rfl rfl (ivs_get _ _ (by first | assumption | omega)) ?_ | refine aops_inc rfl rfl rfl (Nat.le_of_ble_eq_true rfl) rfl rfl (by omega) ?_ | ((fail_if_success (refine aops_lit (b := true) rfl rfl rfl ?_)); (fail_if_success (refine aops_lit (b := false) rfl rfl rfl ?_)); refine aops_guard rfl rfl rfl (fun hq => ?_) (fun hq => ?_) <;> first | subst hq | (first | (simp only [decide_eq_true_eq, decide_eq_false_iff_not, beq_iff_eq, beq_eq_false_iff_ne, bne_iff_ne, bne_eq_false_iff_eq, Bool.not_eq_true', Bool.not_eq_false'] at hq; first | (exfalso; omega) | skip) | skip)) | fail) | (refine awp_one ?_; first | refine awp_sreg ?_ | refine awp_seq ?_ | refine awp_region ?_ | refine awp_block ?_ | refine awp_ret ?_ | refine awp_exit ?_ | refine awp_skip ?_ | refine awp_cond (b := true) rfl (fun _ => ?_) (fun h => Bool.noConfusion h) | refine awp_cond (b := false) rfl (fun h => Bool.noConfusion h) (fun _ => ?_) | refine awp_scope ?_ | refine awp_label ?_ | refine awp_sdraw mixed (by kernel_rfl) ?_ | refine awp_region_draw mixed (by kernel_rfl) ?_ | (refine awp_cond rfl (fun hq => ?_) (fun hq => ?_) <;> first | subst hq | (first | (simp only [decide_eq_true_eq, decide_eq_false_iff_not, beq_iff_eq, beq_eq_false_iff_ne, bne_iff_ne, bne_eq_false_iff_eq, Bool.not_eq_true', Bool.not_eq_false'] at hq; first | (exfalso; omega) | skip) | skip)) | fail) | (refine then_one ?_; first | refine q_then ?_ | refine q_then_exit ?_ | refine q_then_ret ?_ | fail) | (refine block_one ?_; first | refine q_block ?_ | refine q_block_exit ?_ | refine q_block_pass (by decide) ?_ | refine q_block_ret ?_ | fail) | refine feet_one (feetOk_of (by kernel_rfl)) ?_ | fail)
              all_goals first | exact absurd rfl (by assumption) | (exfalso; omega) | skip
              refine awp_loop (ι := {j : Nat // j ≤ ks.length}) (fun j => S.f ⟨[(4, .imm (.lit (.int .i64 (j.1 : Int)))), (3, .imm (.lit (.string (recA (txKs (ks.take j.1)).1)))), (0, .imm (Tree.iv (.node 136 n a b ks)))], []⟩) (fun j => ks.length - j.1) ⟨0, Nat.zero_le _⟩ (le_of (by repeat' first | exact trivial | refine ⟨rfl, ?_⟩) (by repeat' first | exact trivial | refine ⟨rfl, ?_⟩)) ?_
              rintro ⟨j, hj⟩
              dsimp only
              have hcs := recA_size _ _ (txKs_size (ks.take j) (fun t h => hr t (List.mem_of_mem_take h)))
              have hwj := wts_take ks j
              by_cases hlt : j < ks.length
              · have hmem := List.getElem_mem hlt
                have hiv := ivs_get ks j hlt
                obtain ⟨k1, n1, a1, b1, c, e1, hc⟩ := hr _ hmem
                have hsn := txKs_snoc ks j hlt
                have hxk := hall _ hmem
                have s1 := size_kid (k := 136) (n := n) (a := a) (b := b) hmem
                have w1 := wt_kid (k := 136) (n := n) (a := a) (b := b) hmem
                have hwh := wholes_mem hw hmem
                rw [e1] at hiv hsn s1 w1 hwh hxk
                have s2 := size_kid (k := k1) (n := n1) (a := a1) (b := b1) (kids := [c]) (t := c) (by simp)
                have w2 := wt_kid (k := k1) (n := n1) (a := a1) (b := b1) (kids := [c]) (t := c) (by simp)
                rw [txK, tx1] at hsn hxk
                dsimp only at hsn hxk
                have c1 := ih c (by omega) hc (wholes_mem hwh (by simp)) (by omega) (by omega) hxk
                have hcz := tx_size c hc
                have ha1 : a1.size ≤ (Tree.node k1 n1 a1 b1 [c]).wt := by rw [Tree.wt]; omega
                have hA := recA_snoc (txKs (ks.take j)).1 a1 (txP c).1
                rw [← hsn] at hA
                have hpl : (txKs (ks.take j)).1.length = j := by rw [(txKs_map _).1, List.length_map, List.length_take]; omega
                rw [hpl] at hA
                change (Tree.ivs ks)[j * 1]? = some (.ptr [.lit (.int .i64 k1), .lit (.int .i64 n1), .lit (.string a1), .lit (.string b1), .sl false 1 [c.iv]] 0) at hiv
                generalize (txP c).1 = R1 at *
                generalize hAcc : recA (txKs (ks.take j)).1 = Acc at *
                by_cases h0 : j = 0
                · rw [if_pos h0] at hA
                  repeat' (first | refine aops_nil ?_ | (refine aops_one ?_; first | refine aops_quiet tabOk rfl rfl rfl (Nat.le_of_ble_eq_true rfl) rfl ?_ | refine aops_skip rfl rfl (Nat.le_of_ble_eq_true rfl) ?_ | (refine aops_cmp rfl rfl rfl (Nat.le_of_ble_eq_true rfl) rfl rfl rfl (fun hq => ?_) (fun hq => ?_) <;> (first | (simp only [decide_eq_true_eq, decide_eq_false_iff_not, beq_iff_eq, beq_eq_false_iff_ne, bne_iff_ne, bne_eq_false_iff_eq, Bool.not_eq_true', Bool.not_eq_false'] at hq; first | (exfalso; omega) | skip) | skip))| refine aops_call rfl rfl (Nat.le_of_ble_eq_true rfl) rfl rfl rfl rfl (c1) ?_ | refine aops_load1 tabOk rfl rfl rfl (Nat.le_of_ble_eq_true rfl) rfl rfl rfl hiv ?_ | refine aops_concat rfl rfl rfl (Nat.le_of_ble_eq_true rfl) rfl rfl (by first | omega | (simp only [ba_size_append]; omega)) ?_ | refine aops_inc rfl rfl rfl (Nat.le_of_ble_eq_true rfl) rfl rfl (by omega) ?_ | refine aops_add rfl rfl rfl (Nat.le_of_ble_eq_true rfl) rfl rfl rfl (by omega) (by omega) ?_ | refine aops_sub rfl rfl rfl (Nat.le_of_ble_eq_true rfl) rfl rfl rfl (by omega) (by omega) ?_ | refine aops_list tabOk rfl rfl rfl (Nat.le_of_ble_eq_true rfl) rfl rfl rfl rfl rfl rfl rfl rfl rfl ?_ | refine aops_pure tabOk rfl rfl (Nat.le_of_ble_eq_true rfl) rfl ?_ | refine aops_alloc tabOk rfl rfl rfl (Nat.le_of_ble_eq_true rfl) rfl rfl rfl rfl rfl rfl ?_ | refine aops_loadm tabOk rfl rfl rfl (Nat.le_of_ble_eq_true rfl) rfl rfl rfl rfl ?_ | refine aops_storem tabOk rfl rfl rfl rfl rfl rfl rfl rfl rfl rfl rfl ?_ | refine aops_index tabOk rfl rfl rfl (Nat.le_of_ble_eq_true rfl) rfl rfl rfl rfl (by first | assumption | omega) ?_ | refine aops_index0 tabOk rfl rfl rfl (Nat.le_of_ble_eq_true rfl) rfl rfl rfl rfl (by first | rfl | omega) (by first | omega | simp) ?_ | refine aops_load1 tabOk rfl rfl rfl (Nat.le_of_ble_eq_true rfl) rfl rfl rfl (by assumption) ?_ | refine aops_load1 tabOk rfl rfl rfl (Nat.le_of_ble_eq_true rfl) rfl rfl rfl (ivs_get _ _ (by first | assumption | omega)) ?_ | refine aops_inc rfl rfl rfl (Nat.le_of_ble_eq_true rfl) rfl rfl (by omega) ?_ | ((fail_if_success (refine aops_lit (b := true) rfl rfl rfl ?_)); (fail_if_success (refine aops_lit (b := false) rfl rfl rfl ?_)); refine aops_guard rfl rfl rfl (fun hq => ?_) (fun hq => ?_) <;> first | subst hq | (first | (simp only [decide_eq_true_eq, decide_eq_false_iff_not, beq_iff_eq, beq_eq_false_iff_ne, bne_iff_ne, bne_eq_false_iff_eq, Bool.not_eq_true', Bool.not_eq_false'] at hq; first | (exfalso; omega) | skip) | skip)) | fail) | (refine awp_one ?_; first | refine awp_sreg ?_ | refine awp_seq ?_ | refine awp_region ?_ | refine awp_block ?_ | refine awp_ret ?_ | refine awp_exit ?_ | refine awp_skip ?_ | refine awp_cond (b := true) rfl (fun _ => ?_) (fun h => Bool.noConfusion h) | refine awp_cond (b := false) rfl (fun h => Bool.noConfusion h) (fun _ => ?_) | refine awp_scope ?_ | refine awp_label ?_ | refine awp_sdraw mixed (by kernel_rfl) ?_ | refine awp_region_draw mixed (by kernel_rfl) ?_ | (refine awp_cond rfl (fun hq => ?_) (fun hq => ?_) <;> first | subst hq | (first | (simp only [decide_eq_true_eq, decide_eq_false_iff_not, beq_iff_eq, beq_eq_false_iff_ne, bne_iff_ne, bne_eq_false_iff_eq, Bool.not_eq_true', Bool.not_eq_false'] at hq; first | (exfalso; omega) | skip) | skip)) | fail) | (refine then_one ?_; first | refine q_then ?_ | refine q_then_exit ?_ | refine q_then_ret ?_ | fail) | (refine block_one ?_; first | refine q_block ?_ | refine q_block_exit ?_ | refine q_block_pass (by decide) ?_ | refine q_block_ret ?_ | fail) | refine feet_one (feetOk_of (by kernel_rfl)) ?_ | fail)
                  all_goals first
                    | (exfalso; omega)
                    | (refine ⟨⟨j + 1, hlt⟩, (by show ks.length - (j + 1) < ks.length - j; omega), ?_⟩; dsimp only; rw [hA]; exact (le_of (by repeat' first | exact trivial | refine ⟨rfl, ?_⟩) (by repeat' first | exact trivial | refine ⟨rfl, ?_⟩)))
                · rw [if_neg h0] at hA
                  repeat' (first | refine aops_nil ?_ | (refine aops_one ?_; first | refine aops_quiet tabOk rfl rfl rfl (Nat.le_of_ble_eq_true rfl) rfl ?_ | refine aops_skip rfl rfl (Nat.le_of_ble_eq_true rfl) ?_ | (refine aops_cmp rfl rfl rfl (Nat.le_of_ble_eq_true rfl) rfl rfl rfl (fun hq => ?_) (fun hq => ?_) <;> (first | (simp only [decide_eq_true_eq, decide_eq_false_iff_not, beq_iff_eq, beq_eq_false_iff_ne, bne_iff_ne, bne_eq_false_iff_eq, Bool.not_eq_true', Bool.not_eq_false'] at hq; first | (exfalso; omega) | skip) | skip))| refine aops_call rfl rfl (Nat.le_of_ble_eq_true rfl) rfl rfl rfl rfl (c1) ?_ | refine aops_load1 tabOk rfl rfl rfl (Nat.le_of_ble_eq_true rfl) rfl rfl rfl hiv ?_ | refine aops_concat rfl rfl rfl (Nat.le_of_ble_eq_true rfl) rfl rfl (by first | omega | (simp only [ba_size_append]; omega)) ?_ | refine aops_inc rfl rfl rfl (Nat.le_of_ble_eq_true rfl) rfl rfl (by omega) ?_ | refine aops_add rfl rfl rfl (Nat.le_of_ble_eq_true rfl) rfl rfl rfl (by omega) (by omega) ?_ | refine aops_sub rfl rfl rfl (Nat.le_of_ble_eq_true rfl) rfl rfl rfl (by omega) (by omega) ?_ | refine aops_list tabOk rfl rfl rfl (Nat.le_of_ble_eq_true rfl) rfl rfl rfl rfl rfl rfl rfl rfl rfl ?_ | refine aops_pure tabOk rfl rfl (Nat.le_of_ble_eq_true rfl) rfl ?_ | refine aops_alloc tabOk rfl rfl rfl (Nat.le_of_ble_eq_true rfl) rfl rfl rfl rfl rfl rfl ?_ | refine aops_loadm tabOk rfl rfl rfl (Nat.le_of_ble_eq_true rfl) rfl rfl rfl rfl ?_ | refine aops_storem tabOk rfl rfl rfl rfl rfl rfl rfl rfl rfl rfl rfl ?_ | refine aops_index tabOk rfl rfl rfl (Nat.le_of_ble_eq_true rfl) rfl rfl rfl rfl (by first | assumption | omega) ?_ | refine aops_index0 tabOk rfl rfl rfl (Nat.le_of_ble_eq_true rfl) rfl rfl rfl rfl (by first | rfl | omega) (by first | omega | simp) ?_ | refine aops_load1 tabOk rfl rfl rfl (Nat.le_of_ble_eq_true rfl) rfl rfl rfl (by assumption) ?_ | refine aops_load1 tabOk rfl rfl rfl (Nat.le_of_ble_eq_true rfl) rfl rfl rfl (ivs_get _ _ (by first | assumption | omega)) ?_ | refine aops_inc rfl rfl rfl (Nat.le_of_ble_eq_true rfl) rfl rfl (by omega) ?_ | ((fail_if_success (refine aops_lit (b := true) rfl rfl rfl ?_)); (fail_if_success (refine aops_lit (b := false) rfl rfl rfl ?_)); refine aops_guard rfl rfl rfl (fun hq => ?_) (fun hq => ?_) <;> first | subst hq | (first | (simp only [decide_eq_true_eq, decide_eq_false_iff_not, beq_iff_eq, beq_eq_false_iff_ne, bne_iff_ne, bne_eq_false_iff_eq, Bool.not_eq_true', Bool.not_eq_false'] at hq; first | (exfalso; omega) | skip) | skip)) | fail) | (refine awp_one ?_; first | refine awp_sreg ?_ | refine awp_seq ?_ | refine awp_region ?_ | refine awp_block ?_ | refine awp_ret ?_ | refine awp_exit ?_ | refine awp_skip ?_ | refine awp_cond (b := true) rfl (fun _ => ?_) (fun h => Bool.noConfusion h) | refine awp_cond (b := false) rfl (fun h => Bool.noConfusion h) (fun _ => ?_) | refine awp_scope ?_ | refine awp_label ?_ | refine awp_sdraw mixed (by kernel_rfl) ?_ | refine awp_region_draw mixed (by kernel_rfl) ?_ | (refine awp_cond rfl (fun hq => ?_) (fun hq => ?_) <;> first | subst hq | (first | (simp only [decide_eq_true_eq, decide_eq_false_iff_not, beq_iff_eq, beq_eq_false_iff_ne, bne_iff_ne, bne_eq_false_iff_eq, Bool.not_eq_true', Bool.not_eq_false'] at hq; first | (exfalso; omega) | skip) | skip)) | fail) | (refine then_one ?_; first | refine q_then ?_ | refine q_then_exit ?_ | refine q_then_ret ?_ | fail) | (refine block_one ?_; first | refine q_block ?_ | refine q_block_exit ?_ | refine q_block_pass (by decide) ?_ | refine q_block_ret ?_ | fail) | refine feet_one (feetOk_of (by kernel_rfl)) ?_ | fail)
                  all_goals first
                    | (exfalso; omega)
                    | (refine ⟨⟨j + 1, hlt⟩, (by show ks.length - (j + 1) < ks.length - j; omega), ?_⟩; dsimp only; rw [hA]; exact (le_of (by repeat' first | exact trivial | refine ⟨rfl, ?_⟩) (by repeat' first | exact trivial | refine ⟨rfl, ?_⟩)))
              · have ej : j = ks.length := by omega
                subst ej
                rw [List.take_length] at *
                repeat' (first | refine aops_nil ?_ | (refine aops_one ?_; first | refine aops_quiet tabOk rfl rfl rfl (Nat.le_of_ble_eq_true rfl) rfl ?_ | refine aops_skip rfl rfl (Nat.le_of_ble_eq_true rfl) ?_ | (refine aops_cmp rfl rfl rfl (Nat.le_of_ble_eq_true rfl) rfl rfl rfl (fun hq => ?_) (fun hq => ?_) <;> (first | (simp only [decide_eq_true_eq, decide_eq_false_iff_not, beq_iff_eq, beq_eq_false_iff_ne, bne_iff_ne, bne_eq_false_iff_eq, Bool.not_eq_true', Bool.not_eq_false'] at hq; first | (exfalso; omega) | skip) | skip))| refine aops_concat rfl rfl rfl (Nat.le_of_ble_eq_true rfl) rfl rfl (by first | omega | (simp only [ba_size_append]; omega)) ?_ | refine aops_inc rfl rfl rfl (Nat.le_of_ble_eq_true rfl) rfl rfl (by omega) ?_ | refine aops_add rfl rfl rfl (Nat.le_of_ble_eq_true rfl) rfl rfl rfl (by omega) (by omega) ?_ | refine aops_sub rfl rfl rfl (Nat.le_of_ble_eq_true rfl) rfl rfl rfl (by omega) (by omega) ?_ | refine aops_list tabOk rfl rfl rfl (Nat.le_of_ble_eq_true rfl) rfl rfl rfl rfl rfl rfl rfl rfl rfl ?_ | refine aops_pure tabOk rfl rfl (Nat.le_of_ble_eq_true rfl) rfl ?_ | refine aops_alloc tabOk rfl rfl rfl (Nat.le_of_ble_eq_true rfl) rfl rfl rfl rfl rfl rfl ?_ | refine aops_loadm tabOk rfl rfl rfl (Nat.le_of_ble_eq_true rfl) rfl rfl rfl rfl ?_ | refine aops_storem tabOk rfl rfl rfl rfl rfl rfl rfl rfl rfl rfl rfl ?_ | refine aops_index tabOk rfl rfl rfl (Nat.le_of_ble_eq_true rfl) rfl rfl rfl rfl (by first | assumption | omega) ?_ | refine aops_index0 tabOk rfl rfl rfl (Nat.le_of_ble_eq_true rfl) rfl rfl rfl rfl (by first | rfl | omega) (by first | omega | simp) ?_ | refine aops_load1 tabOk rfl rfl rfl (Nat.le_of_ble_eq_true rfl) rfl rfl rfl (by assumption) ?_ | refine aops_load1 tabOk rfl rfl rfl (Nat.le_of_ble_eq_true rfl) rfl rfl rfl (ivs_get _ _ (by first | assumption | omega)) ?_ | refine aops_inc rfl rfl rfl (Nat.le_of_ble_eq_true rfl) rfl rfl (by omega) ?_ | ((fail_if_success (refine aops_lit (b := true) rfl rfl rfl ?_)); (fail_if_success (refine aops_lit (b := false) rfl rfl rfl ?_)); refine aops_guard rfl rfl rfl (fun hq => ?_) (fun hq => ?_) <;> first | subst hq | (first | (simp only [decide_eq_true_eq, decide_eq_false_iff_not, beq_iff_eq, beq_eq_false_iff_ne, bne_iff_ne, bne_eq_false_iff_eq, Bool.not_eq_true', Bool.not_eq_false'] at hq; first | (exfalso; omega) | skip) | skip)) | fail) | (refine awp_one ?_; first | refine awp_sreg ?_ | refine awp_seq ?_ | refine awp_region ?_ | refine awp_block ?_ | refine awp_ret ?_ | refine awp_exit ?_ | refine awp_skip ?_ | refine awp_cond (b := true) rfl (fun _ => ?_) (fun h => Bool.noConfusion h) | refine awp_cond (b := false) rfl (fun h => Bool.noConfusion h) (fun _ => ?_) | refine awp_scope ?_ | refine awp_label ?_ | refine awp_sdraw mixed (by kernel_rfl) ?_ | refine awp_region_draw mixed (by kernel_rfl) ?_ | (refine awp_cond rfl (fun hq => ?_) (fun hq => ?_) <;> first | subst hq | (first | (simp only [decide_eq_true_eq, decide_eq_false_iff_not, beq_iff_eq, beq_eq_false_iff_ne, bne_iff_ne, bne_eq_false_iff_eq, Bool.not_eq_true', Bool.not_eq_false'] at hq; first | (exfalso; omega) | skip) | skip)) | fail) | (refine then_one ?_; first | refine q_then ?_ | refine q_then_exit ?_ | refine q_then_ret ?_ | fail) | (refine block_one ?_; first | refine q_block ?_ | refine q_block_exit ?_ | refine q_block_pass (by decide) ?_ | refine q_block_ret ?_ | fail) | refine feet_one (feetOk_of (by kernel_rfl)) ?_ | fail)
                all_goals first
                  | (exfalso; omega)
                  | exact aexit_plain (by first | exact .inl rfl | exact .inr rfl) (results_1 rfl (resOk_tmp rfl)) rfl
            · rw [if_neg h136] at hok
              exact absurd hok (by simp)
set_option maxHeartbeats 16000000 in
set_option maxRecDepth 10000 in
theorem rAlike_a (t : Tree) : ∀ u : Tree, isTermP t = true → isTermP u = true → (txP t).2 = true → (txP u).2 = true → t.whole = true → u.whole = true → t.size ≤ 65536 → u.size ≤ 65536 →
    ACalls Try.prog 33 [.imm t.iv, .imm u.iv] [] (.imm (.lit (.bool (likeP t u)))) [] := by
  induction t using Tree.sind with
  | h t ih =>
    intro u ht hu hxt hxu hwt hwu hst hsu
    have hvt := val_of_text t ht hxt
    have hvu := val_of_text u hu hxu
    obtain ⟨k, n, a, b, ks, rfl⟩ := whole_node hwt
    obtain ⟨k', n', a', b', ks', rfl⟩ := whole_node hwu
    have hl : ks.length < 1000000000 := by have := length_sizes ks hwt; simp only [Tree.size] at hst; omega
    have hl' : ks'.length < 1000000000 := by have := length_sizes ks' hwu; simp only [Tree.size] at hsu; omega
    by_cases hkk : k = k' ∧ n = n' ∧ a = a' ∧ ks.length = ks'.length
    · obtain ⟨rfl, rfl, rfl, hll⟩ := hkk
      have hb : (k == k) = true := beq_iff_eq.2 rfl
      have hb2 : (n == n) = true := beq_iff_eq.2 rfl
      rw [likeP, hb, hb2, eqB_refl]
      simp only [Bool.and_self, Bool.true_and]
      by_cases h146 : k = 146
      · subst h146
        rw [if_pos rfl]
        obtain ⟨x, y, rfl, hy⟩ := term_app ht
        obtain ⟨x', y', rfl, hy'⟩ := term_app hu
        rw [txP, if_neg (by decide), if_neg (by decide), if_neg (by decide), if_pos rfl, tx2] at hxt hxu
        have s1 := size_kid (k := 146) (n := n) (a := a) (b := b) (kids := [x, y]) (t := y) (by simp)
        have s2 := size_kid (k := 146) (n := n) (a := a) (b := b') (kids := [x', y']) (t := y') (by simp)
        have c1 := ih y s1 y' hy hy' hxt hxu (wholes_mem hwt (by simp)) (wholes_mem hwu (by simp)) (by omega) (by omega)
        rw [like2]
        refine acalls_plain Try.func33 rfl rfl (Nat.le_of_ble_eq_true rfl) rfl ?_
        repeat' (first | refine aops_nil ?_ | (refine aops_one ?_; first | refine aops_quiet tabOk rfl rfl rfl (Nat.le_of_ble_eq_true rfl) rfl ?_ | refine aops_skip rfl rfl (Nat.le_of_ble_eq_true rfl) ?_ | (refine aops_cmp rfl rfl rfl (Nat.le_of_ble_eq_true rfl) rfl rfl rfl (fun hq => ?_) (fun hq => ?_) <;> (first | (simp only [decide_eq_true_eq, decide_eq_false_iff_not, beq_iff_eq, beq_eq_false_iff_ne, bne_iff_ne, bne_eq_false_iff_eq, Bool.not_eq_true', Bool.not_eq_false'] at hq; first | (exfalso; omega) | skip) | skip))| refine aops_call rfl rfl (Nat.le_of_ble_eq_true rfl) rfl rfl rfl rfl (c1) ?_ | refine aops_inc rfl rfl rfl (Nat.le_of_ble_eq_true rfl) rfl rfl (by omega) ?_ | refine aops_add rfl rfl rfl (Nat.le_of_ble_eq_true rfl) rfl rfl rfl (by omega) (by omega) ?_ | refine aops_sub rfl rfl rfl (Nat.le_of_ble_eq_true rfl) rfl rfl rfl (by omega) (by omega) ?_ | refine aops_list tabOk rfl rfl rfl (Nat.le_of_ble_eq_true rfl) rfl rfl rfl rfl rfl rfl rfl rfl rfl ?_ | refine aops_pure tabOk rfl rfl (Nat.le_of_ble_eq_true rfl) rfl ?_ | refine aops_alloc tabOk rfl rfl rfl (Nat.le_of_ble_eq_true rfl) rfl rfl rfl rfl rfl rfl ?_ | refine aops_loadm tabOk rfl rfl rfl (Nat.le_of_ble_eq_true rfl) rfl rfl rfl rfl ?_ | refine aops_storem tabOk rfl rfl rfl rfl rfl rfl rfl rfl rfl rfl rfl ?_ | refine aops_index tabOk rfl rfl rfl (Nat.le_of_ble_eq_true rfl) rfl rfl rfl rfl (by first | assumption | omega) ?_ | refine aops_index0 tabOk rfl rfl rfl (Nat.le_of_ble_eq_true rfl) rfl rfl rfl rfl (by first | rfl | omega) (by first | omega | simp) ?_ | refine aops_load1 tabOk rfl rfl rfl (Nat.le_of_ble_eq_true rfl) rfl rfl rfl (by assumption) ?_ | refine aops_load1 tabOk rfl rfl rfl (Nat.le_of_ble_eq_true rfl) rfl rfl rfl (ivs_get _ _ (by first | assumption | omega)) ?_ | refine aops_inc rfl rfl rfl (Nat.le_of_ble_eq_true rfl) rfl rfl (by omega) ?_ | ((fail_if_success (refine aops_lit (b := true) rfl rfl rfl ?_)); (fail_if_success (refine aops_lit (b := false) rfl rfl rfl ?_)); refine aops_guard rfl rfl rfl (fun hq => ?_) (fun hq => ?_) <;> first | subst hq | (first | (simp only [decide_eq_true_eq, decide_eq_false_iff_not, beq_iff_eq, beq_eq_false_iff_ne, bne_iff_ne, bne_eq_false_iff_eq, Bool.not_eq_true', Bool.not_eq_false'] at hq; first | (exfalso; omega) | skip) | skip)) | fail) | (refine awp_one ?_; first | refine awp_sreg ?_ | refine awp_seq ?_ | refine awp_region ?_ | refine awp_block ?_ | refine awp_ret ?_ | refine awp_exit ?_ | refine awp_skip ?_ | refine awp_cond (b := true) rfl (fun _ => ?_) (fun h => Bool.noConfusion h) | refine awp_cond (b := false) rfl (fun h => Bool.noConfusion h) (fun _ => ?_) | refine awp_scope ?_ | refine awp_label ?_ | refine awp_sdraw mixed (by kernel_rfl) ?_ | refine awp_region_draw mixed (by kernel_rfl) ?_ | (refine awp_cond rfl (fun hq => ?_) (fun hq => ?_) <;> first | subst hq | (first | (simp only [decide_eq_true_eq, decide_eq_false_iff_not, beq_iff_eq, beq_eq_false_iff_ne, bne_iff_ne, bne_eq_false_iff_eq, Bool.not_eq_true', Bool.not_eq_false'] at hq; first | (exfalso; omega) | skip) | skip)) | fail) | (refine then_one ?_; first | refine q_then ?_ | refine q_then_exit ?_ | refine q_then_ret ?_ | fail) | (refine block_one ?_; first | refine q_block ?_ | refine q_block_exit ?_ | refine q_block_pass (by decide) ?_ | refine q_block_ret ?_ | fail) | refine feet_one (feetOk_of (by kernel_rfl)) ?_ | fail)
        all_goals first
          | exact aexit_plain (by first | exact .inl rfl | exact .inr rfl) (results_1 rfl (resOk_tmp rfl)) rfl
          | exact absurd rfl (by assumption)
          | (exfalso; omega)
      · rw [if_neg h146, likeKs_zip]
        have hkids : ∀ i (hi : i < ks.length) (hi' : i < ks'.length), ∃ k1 n1 a1 b1 c k2 n2 a2 b2 d, ks[i] = .node k1 n1 a1 b1 [c] ∧ ks'[i] = .node k2 n2 a2 b2 [d] ∧ ACalls Try.prog 33 [.imm c.iv, .imm d.iv] [] (.imm (.lit (.bool (likeP c d)))) [] := by
          intro i hi hi'
          have h136 : k = 136 := by
            rw [txP] at hxt
            by_cases h1 : k = 131 ∨ k = 132 ∨ k = 133
            · exfalso
              rw [isTermP] at ht
              simp only [Bool.and_eq_true] at ht
              have h2 := ht.2
              rw [if_pos (by omega), List.isEmpty_iff] at h2
              subst h2
              simp at hi
            · by_cases h2 : k = 136
              · exact h2
              · rw [if_neg (fun h => h1 (.inl h)), if_neg (fun h => h1 (.inr (.inl h))), if_neg (fun h => h1 (.inr (.inr h))), if_neg h146, if_neg h2] at hxt
                cases hxt
          subst h136
          obtain ⟨k1, n1, a1, b1, c, e1, hc⟩ := term_rec ht _ (List.getElem_mem hi)
          obtain ⟨k2, n2, a2, b2, d, e2, hd⟩ := term_rec hu _ (List.getElem_mem hi')
          have g1 : (txK ks[i]).2 = true := by
            rw [txP, if_neg (by decide), if_neg (by decide), if_neg (by decide), if_neg (by decide), if_pos rfl, txRec_2, (txKs_map ks).2, List.all_eq_true] at hxt
            exact hxt _ (List.getElem_mem hi)
          have g2 : (txK ks'[i]).2 = true := by
            rw [txP, if_neg (by decide), if_neg (by decide), if_neg (by decide), if_neg (by decide), if_pos rfl, txRec_2, (txKs_map ks').2, List.all_eq_true] at hxu
            exact hxu _ (List.getElem_mem hi')
          have s1 := size_kid (k := 136) (n := n) (a := a) (b := b) (List.getElem_mem hi)
          have s2 := size_kid (k := 136) (n := n) (a := a) (b := b') (List.getElem_mem hi')
          have w1 := wholes_mem hwt (List.getElem_mem hi)
          have w2 := wholes_mem hwu (List.getElem_mem hi')
          rw [e1] at g1 s1 w1
          rw [e2] at g2 s2 w2
          rw [txK, tx1] at g1 g2
          have s3 := size_kid (k := k1) (n := n1) (a := a1) (b := b1) (kids := [c]) (t := c) (by simp)
          have s4 := size_kid (k := k2) (n := n2) (a := a2) (b := b2) (kids := [d]) (t := d) (by simp)
          exact ⟨k1, n1, a1, b1, c, k2, n2, a2, b2, d, e1, e2, ih c (by omega) d hc hd g1 g2 (wholes_mem w1 (by simp)) (wholes_mem w2 (by simp)) (by omega) (by omega)⟩
        have hzi := zipP_idx likeK ks ks' hll
        refine acalls_plain Try.func33 rfl rfl (Nat.le_of_ble_eq_true rfl) rfl ?_
        repeat' (first | refine aops_nil ?_ | (refine aops_one ?_; first | refine aops_quiet tabOk rfl rfl rfl (Nat.le_of_ble_eq_true rfl) rfl ?_ | refine aops_skip rfl rfl (Nat.le_of_ble_eq_true rfl) ?_ | (refine aops_cmp rfl rfl rfl (Nat.le_of_ble_eq_true rfl) rfl rfl rfl (fun hq => ?_) (fun hq => ?_) <;> (first | (simp only [decide_eq_true_eq, decide_eq_false_iff_not, beq_iff_eq, beq_eq_false_iff_ne, bne_iff_ne, bne_eq_false_iff_eq, Bool.not_eq_true', Bool.not_eq_false'] at hq; first | (exfalso; omega) | skip) | skip)) | refine aops_inc rfl rfl rfl (Nat.le_of_ble_eq_true rfl) rfl rfl (by omega) ?_ | refine aops_add rfl rfl rfl (Nat.le_of_ble_eq_true rfl) rfl rfl rfl (by omega) (by omega) ?_ | refine aops_sub rfl rfl rfl (Nat.le_of_ble_eq_true rfl) rfl rfl rfl (by omega) (by omega) ?_ | refine aops_list tabOk rfl rfl rfl (Nat.le_of_ble_eq_true rfl) rfl rfl rfl rfl rfl rfl rfl rfl rfl ?_ | refine aops_pure tabOk rfl rfl (Nat.le_of_ble_eq_true rfl) rfl ?_ | refine aops_alloc tabOk rfl rfl rfl (Nat.le_of_ble_eq_true rfl) rfl rfl rfl rfl rfl rfl ?_ | refine aops_loadm tabOk rfl rfl rfl (Nat.le_of_ble_eq_true rfl) rfl rfl rfl rfl ?_ | refine aops_storem tabOk rfl rfl rfl rfl rfl rfl rfl rfl rfl rfl rfl ?_ | refine aops_index tabOk rfl rfl rfl (Nat.le_of_ble_eq_true rfl) rfl rfl rfl rfl (by first | assumption | omega) ?_ | refine aops_index0 tabOk rfl rfl rfl (Nat.le_of_ble_eq_true rfl) rfl rfl rfl rfl (by first | rfl | omega) (by first | omega | simp) ?_ | refine aops_load1 tabOk rfl rfl rfl (Nat.le_of_ble_eq_true rfl) rfl rfl rfl (by assumption) ?_ | refine aops_load1 tabOk rfl rfl rfl (Nat.le_of_ble_eq_true rfl) rfl rfl rfl (ivs_get _ _ (by first | assumption | omega)) ?_ | refine aops_inc rfl rfl rfl (Nat.le_of_ble_eq_true rfl) rfl rfl (by omega) ?_ | ((fail_if_success (refine aops_lit (b := true) rfl rfl rfl ?_)); (fail_if_success (refine aops_lit (b := false) rfl rfl rfl ?_)); refine aops_guard rfl rfl rfl (fun hq => ?_) (fun hq => ?_) <;> first | subst hq | (first | (simp only [decide_eq_true_eq, decide_eq_false_iff_not, beq_iff_eq, beq_eq_false_iff_ne, bne_iff_ne, bne_eq_false_iff_eq, Bool.not_eq_true', Bool.not_eq_false'] at hq; first | (exfalso; omega) | skip) | skip)) | fail) | (refine awp_one ?_; first | refine awp_sreg ?_ | refine awp_seq ?_ | refine awp_region ?_ | refine awp_block ?_ | refine awp_ret ?_ | refine awp_exit ?_ | refine awp_skip ?_ | refine awp_cond (b := true) rfl (fun _ => ?_) (fun h => Bool.noConfusion h) | refine awp_cond (b := false) rfl (fun h => Bool.noConfusion h) (fun _ => ?_) | refine awp_scope ?_ | refine awp_label ?_ | refine awp_sdraw mixed (by kernel_rfl) ?_ | refine awp_region_draw mixed (by kernel_rfl) ?_ | (refine awp_cond rfl (fun hq => ?_) (fun hq => ?_) <;> first | subst hq | (first | (simp only [decide_eq_true_eq, decide_eq_false_iff_not, beq_iff_eq, beq_eq_false_iff_ne, bne_iff_ne, bne_eq_false_iff_eq, Bool.not_eq_true', Bool.not_eq_false'] at hq; first | (exfalso; omega) | skip) | skip)) | fail) | (refine then_one ?_; first | refine q_then ?_ | refine q_then_exit ?_ | refine q_then_ret ?_ | fail) | (refine block_one ?_; first | refine q_block ?_ | refine q_block_exit ?_ | refine q_block_pass (by decide) ?_ | refine q_block_ret ?_ | fail) | refine feet_one (feetOk_of (by kernel_rfl)) ?_ | fail)
        all_goals first | exact absurd rfl (by assumption) | exact absurd (by assumption) h146 | (exfalso; omega) | skip
        refine awp_loop (ι := {j : Nat // j ≤ ks.length ∧ ∀ q (hq : q < ks.length) (hq' : q < ks'.length), q < j → likeK ks[q] ks'[q] = true}) (fun j => S.f ⟨[(5, .imm (.lit (.int .i64 (j.1 : Int)))), (0, .imm (Tree.iv (.node k n a b ks))), (1, .imm (Tree.iv (.node k n a b' ks')))], []⟩) (fun j => ks.length - j.1) ⟨0, Nat.zero_le _, fun q h h1 h2 => by omega⟩ (le_of (by repeat' first | exact trivial | refine ⟨rfl, ?_⟩) (by repeat' first | exact trivial | refine ⟨rfl, ?_⟩)) ?_
        rintro ⟨j, hj, hall⟩
        dsimp only
        by_cases hlt : j < ks.length
        · have hlt' : j < ks'.length := by omega
          obtain ⟨k1, n1, a1, b1, c, k2, n2, a2, b2, d, e1, e2, c1⟩ := hkids j hlt hlt'
          have hiv := ivs_get ks j hlt
          have hiv' := ivs_get ks' j hlt'
          have hbad : likeK ks[j] ks'[j] = false → zipP likeK ks ks' = false := fun h => by
            rw [Bool.eq_false_iff]
            intro hc
            have := hzi.1 hc j hlt hlt'
            rw [h] at this
            cases this
          have hall2 : likeK ks[j] ks'[j] = true → ∀ q (hq : q < ks.length) (hq' : q < ks'.length), q < j + 1 → likeK ks[q] ks'[q] = true := fun h q hq hq' h2 => by
            rcases Nat.lt_or_ge q j with h3 | h3
            · exact hall q hq hq' h3
            · have e : q = j := by omega
              subst e
              exact h
          rw [e1, e2] at hbad hall2
          rw [e1] at hiv
          rw [e2] at hiv'
          rw [likeK, like1] at hbad hall2
          change (Tree.ivs ks)[j * 1]? = some (.ptr [.lit (.int .i64 k1), .lit (.int .i64 n1), .lit (.string a1), .lit (.string b1), .sl false 1 [c.iv]] 0) at hiv
          change (Tree.ivs ks')[j * 1]? = some (.ptr [.lit (.int .i64 k2), .lit (.int .i64 n2), .lit (.string a2), .lit (.string b2), .sl false 1 [d.iv]] 0) at hiv'
          generalize likeP c d = L at *
          cases hE : eqB a1 a2 with
          | false =>
            rw [hbad (by rw [hE]; rfl)]
            unfold eqB at hE
            have hE := beq_eq_false_iff_ne.1 hE
            repeat' (first | refine aops_nil ?_ | (refine aops_one ?_; first | refine aops_quiet tabOk rfl rfl rfl (Nat.le_of_ble_eq_true rfl) rfl ?_ | refine aops_skip rfl rfl (Nat.le_of_ble_eq_true rfl) ?_ | (refine aops_cmp rfl rfl rfl (Nat.le_of_ble_eq_true rfl) rfl rfl rfl (fun hq => ?_) (fun hq => ?_) <;> (first | (simp only [decide_eq_true_eq, decide_eq_false_iff_not, beq_iff_eq, beq_eq_false_iff_ne, bne_iff_ne, bne_eq_false_iff_eq, Bool.not_eq_true', Bool.not_eq_false'] at hq; first | (exfalso; omega) | skip) | skip))| refine aops_call rfl rfl (Nat.le_of_ble_eq_true rfl) rfl rfl rfl rfl (c1) ?_ | refine aops_load1 tabOk rfl rfl rfl (Nat.le_of_ble_eq_true rfl) rfl rfl rfl hiv ?_ | refine aops_load1 tabOk rfl rfl rfl (Nat.le_of_ble_eq_true rfl) rfl rfl rfl hiv' ?_ | refine aops_inc rfl rfl rfl (Nat.le_of_ble_eq_true rfl) rfl rfl (by omega) ?_ | refine aops_add rfl rfl rfl (Nat.le_of_ble_eq_true rfl) rfl rfl rfl (by omega) (by omega) ?_ | refine aops_sub rfl rfl rfl (Nat.le_of_ble_eq_true rfl) rfl rfl rfl (by omega) (by omega) ?_ | refine aops_list tabOk rfl rfl rfl (Nat.le_of_ble_eq_true rfl) rfl rfl rfl rfl rfl rfl rfl rfl rfl ?_ | refine aops_pure tabOk rfl rfl (Nat.le_of_ble_eq_true rfl) rfl ?_ | refine aops_alloc tabOk rfl rfl rfl (Nat.le_of_ble_eq_true rfl) rfl rfl rfl rfl rfl rfl ?_ | refine aops_loadm tabOk rfl rfl rfl (Nat.le_of_ble_eq_true rfl) rfl rfl rfl rfl ?_ | refine aops_storem tabOk rfl rfl rfl rfl rfl rfl rfl rfl rfl rfl rfl ?_ | refine aops_index tabOk rfl rfl rfl (Nat.le_of_ble_eq_true rfl) rfl rfl rfl rfl (by first | assumption | omega) ?_ | refine aops_index0 tabOk rfl rfl rfl (Nat.le_of_ble_eq_true rfl) rfl rfl rfl rfl (by first | rfl | omega) (by first | omega | simp) ?_ | refine aops_load1 tabOk rfl rfl rfl (Nat.le_of_ble_eq_true rfl) rfl rfl rfl (by assumption) ?_ | refine aops_load1 tabOk rfl rfl rfl (Nat.le_of_ble_eq_true rfl) rfl rfl rfl (ivs_get _ _ (by first | assumption | omega)) ?_ | refine aops_inc rfl rfl rfl (Nat.le_of_ble_eq_true rfl) rfl rfl (by omega) ?_ | ((fail_if_success (refine aops_lit (b := true) rfl rfl rfl ?_)); (fail_if_success (refine aops_lit (b := false) rfl rfl rfl ?_)); refine aops_guard rfl rfl rfl (fun hq => ?_) (fun hq => ?_) <;> first | subst hq | (first | (simp only [decide_eq_true_eq, decide_eq_false_iff_not, beq_iff_eq, beq_eq_false_iff_ne, bne_iff_ne, bne_eq_false_iff_eq, Bool.not_eq_true', Bool.not_eq_false'] at hq; first | (exfalso; omega) | skip) | skip)) | fail) | (refine awp_one ?_; first | refine awp_sreg ?_ | refine awp_seq ?_ | refine awp_region ?_ | refine awp_block ?_ | refine awp_ret ?_ | refine awp_exit ?_ | refine awp_skip ?_ | refine awp_cond (b := true) rfl (fun _ => ?_) (fun h => Bool.noConfusion h) | refine awp_cond (b := false) rfl (fun h => Bool.noConfusion h) (fun _ => ?_) | refine awp_scope ?_ | refine awp_label ?_ | refine awp_sdraw mixed (by kernel_rfl) ?_ | refine awp_region_draw mixed (by kernel_rfl) ?_ | (refine awp_cond rfl (fun hq => ?_) (fun hq => ?_) <;> first | subst hq | (first | (simp only [decide_eq_true_eq, decide_eq_false_iff_not, beq_iff_eq, beq_eq_false_iff_ne, bne_iff_ne, bne_eq_false_iff_eq, Bool.not_eq_true', Bool.not_eq_false'] at hq; first | (exfalso; omega) | skip) | skip)) | fail) | (refine then_one ?_; first | refine q_then ?_ | refine q_then_exit ?_ | refine q_then_ret ?_ | fail) | (refine block_one ?_; first | refine q_block ?_ | refine q_block_exit ?_ | refine q_block_pass (by decide) ?_ | refine q_block_ret ?_ | fail) | refine feet_one (feetOk_of (by kernel_rfl)) ?_ | fail)
            all_goals first
              | exact aexit_plain (by first | exact .inl rfl | exact .inr rfl) (results_1 rfl (resOk_tmp rfl)) rfl
              | (exfalso; omega)
              | exact absurd (by assumption) hE
          | true =>
            cases L with
            | false =>
              rw [hbad (by rw [hE]; rfl)]
              repeat' (first | refine aops_nil ?_ | (refine aops_one ?_; first | refine aops_quiet tabOk rfl rfl rfl (Nat.le_of_ble_eq_true rfl) rfl ?_ | refine aops_skip rfl rfl (Nat.le_of_ble_eq_true rfl) ?_ | (refine aops_cmp rfl rfl rfl (Nat.le_of_ble_eq_true rfl) rfl rfl rfl (fun hq => ?_) (fun hq => ?_) <;> (first | (simp only [decide_eq_true_eq, decide_eq_false_iff_not, beq_iff_eq, beq_eq_false_iff_ne, bne_iff_ne, bne_eq_false_iff_eq, Bool.not_eq_true', Bool.not_eq_false'] at hq; first | (exfalso; omega) | skip) | skip))| refine aops_call rfl rfl (Nat.le_of_ble_eq_true rfl) rfl rfl rfl rfl (c1) ?_ | refine aops_load1 tabOk rfl rfl rfl (Nat.le_of_ble_eq_true rfl) rfl rfl rfl hiv ?_ | refine aops_load1 tabOk rfl rfl rfl (Nat.le_of_ble_eq_true rfl) rfl rfl rfl hiv' ?_ | refine aops_inc rfl rfl rfl (Nat.le_of_ble_eq_true rfl) rfl rfl (by omega) ?_ | refine aops_add rfl rfl rfl (Nat.le_of_ble_eq_true rfl) rfl rfl rfl (by omega) (by omega) ?_ | refine aops_sub rfl rfl rfl (Nat.le_of_ble_eq_true rfl) rfl rfl rfl (by omega) (by omega) ?_ | refine aops_list tabOk rfl rfl rfl (Nat.le_of_ble_eq_true rfl) rfl rfl rfl rfl rfl rfl rfl rfl rfl ?_ | refine aops_pure tabOk rfl rfl (Nat.le_of_ble_eq_true rfl) rfl ?_ | refine aops_alloc tabOk rfl rfl rfl (Nat.le_of_ble_eq_true rfl) rfl rfl rfl rfl rfl rfl ?_ | refine aops_loadm tabOk rfl rfl rfl (Nat.le_of_ble_eq_true rfl) rfl rfl rfl rfl ?_ | refine aops_storem tabOk rfl rfl rfl rfl rfl rfl rfl rfl rfl rfl rfl ?_ | refine aops_index tabOk rfl rfl rfl (Nat.le_of_ble_eq_true rfl) rfl rfl rfl rfl (by first | assumption | omega) ?_ | refine aops_index0 tabOk rfl rfl rfl (Nat.le_of_ble_eq_true rfl) rfl rfl rfl rfl (by first | rfl | omega) (by first | omega | simp) ?_ | refine aops_load1 tabOk rfl rfl rfl (Nat.le_of_ble_eq_true rfl) rfl rfl rfl (by assumption) ?_ | refine aops_load1 tabOk rfl rfl rfl (Nat.le_of_ble_eq_true rfl) rfl rfl rfl (ivs_get _ _ (by first | assumption | omega)) ?_ | refine aops_inc rfl rfl rfl (Nat.le_of_ble_eq_true rfl) rfl rfl (by omega) ?_ | ((fail_if_success (refine aops_lit (b := true) rfl rfl rfl ?_)); (fail_if_success (refine aops_lit (b := false) rfl rfl rfl ?_)); refine aops_guard rfl rfl rfl (fun hq => ?_) (fun hq => ?_) <;> first | subst hq | (first | (simp only [decide_eq_true_eq, decide_eq_false_iff_not, beq_iff_eq, beq_eq_false_iff_ne, bne_iff_ne, bne_eq_false_iff_eq, Bool.not_eq_true', Bool.not_eq_false'] at hq; first | (exfalso; omega) | skip) | skip)) | fail) | (refine awp_one ?_; first | refine awp_sreg ?_ | refine awp_seq ?_ | refine awp_region ?_ | refine awp_block ?_ | refine awp_ret ?_ | refine awp_exit ?_ | refine awp_skip ?_ | refine awp_cond (b := true) rfl (fun _ => ?_) (fun h => Bool.noConfusion h) | refine awp_cond (b := false) rfl (fun h => Bool.noConfusion h) (fun _ => ?_) | refine awp_scope ?_ | refine awp_label ?_ | refine awp_sdraw mixed (by kernel_rfl) ?_ | refine awp_region_draw mixed (by kernel_rfl) ?_ | (refine awp_cond rfl (fun hq => ?_) (fun hq => ?_) <;> first | subst hq | (first | (simp only [decide_eq_true_eq, decide_eq_false_iff_not, beq_iff_eq, beq_eq_false_iff_ne, bne_iff_ne, bne_eq_false_iff_eq, Bool.not_eq_true', Bool.not_eq_false'] at hq; first | (exfalso; omega) | skip) | skip)) | fail) | (refine then_one ?_; first | refine q_then ?_ | refine q_then_exit ?_ | refine q_then_ret ?_ | fail) | (refine block_one ?_; first | refine q_block ?_ | refine q_block_exit ?_ | refine q_block_pass (by decide) ?_ | refine q_block_ret ?_ | fail) | refine feet_one (feetOk_of (by kernel_rfl)) ?_ | fail)
              all_goals first
                | exact aexit_plain (by first | exact .inl rfl | exact .inr rfl) (results_1 rfl (resOk_tmp rfl)) rfl
                | (exfalso; omega)
            | true =>
              have hE2 := hE
              unfold eqB at hE
              have hE := beq_iff_eq.1 hE
              repeat' (first | refine aops_nil ?_ | (refine aops_one ?_; first | refine aops_quiet tabOk rfl rfl rfl (Nat.le_of_ble_eq_true rfl) rfl ?_ | refine aops_skip rfl rfl (Nat.le_of_ble_eq_true rfl) ?_ | (refine aops_cmp rfl rfl rfl (Nat.le_of_ble_eq_true rfl) rfl rfl rfl (fun hq => ?_) (fun hq => ?_) <;> (first | (simp only [decide_eq_true_eq, decide_eq_false_iff_not, beq_iff_eq, beq_eq_false_iff_ne, bne_iff_ne, bne_eq_false_iff_eq, Bool.not_eq_true', Bool.not_eq_false'] at hq; first | (exfalso; omega) | skip) | skip))| refine aops_call rfl rfl (Nat.le_of_ble_eq_true rfl) rfl rfl rfl rfl (c1) ?_ | refine aops_load1 tabOk rfl rfl rfl (Nat.le_of_ble_eq_true rfl) rfl rfl rfl hiv ?_ | refine aops_load1 tabOk rfl rfl rfl (Nat.le_of_ble_eq_true rfl) rfl rfl rfl hiv' ?_ | refine aops_inc rfl rfl rfl (Nat.le_of_ble_eq_true rfl) rfl rfl (by omega) ?_ | refine aops_add rfl rfl rfl (Nat.le_of_ble_eq_true rfl) rfl rfl rfl (by omega) (by omega) ?_ | refine aops_sub rfl rfl rfl (Nat.le_of_ble_eq_true rfl) rfl rfl rfl (by omega) (by omega) ?_ | refine aops_list tabOk rfl rfl rfl (Nat.le_of_ble_eq_true rfl) rfl rfl rfl rfl rfl rfl rfl rfl rfl ?_ | refine aops_pure tabOk rfl rfl (Nat.le_of_ble_eq_true rfl) rfl ?_ | refine aops_alloc tabOk rfl rfl rfl (Nat.le_of_ble_eq_true rfl) rfl rfl rfl rfl rfl rfl ?_ | refine aops_loadm tabOk rfl rfl rfl (Nat.le_of_ble_eq_true rfl) rfl rfl rfl rfl ?_ | refine aops_storem tabOk rfl rfl rfl rfl rfl rfl rfl rfl rfl rfl rfl ?_ | refine aops_index tabOk rfl rfl rfl (Nat.le_of_ble_eq_true rfl) rfl rfl rfl rfl (by first | assumption | omega) ?_ | refine aops_index0 tabOk rfl rfl rfl (Nat.le_of_ble_eq_true rfl) rfl rfl rfl rfl (by first | rfl | omega) (by first | omega | simp) ?_ | refine aops_load1 tabOk rfl rfl rfl (Nat.le_of_ble_eq_true rfl) rfl rfl rfl (by assumption) ?_ | refine aops_load1 tabOk rfl rfl rfl (Nat.le_of_ble_eq_true rfl) rfl rfl rfl (ivs_get _ _ (by first | assumption | omega)) ?_ | refine aops_inc rfl rfl rfl (Nat.le_of_ble_eq_true rfl) rfl rfl (by omega) ?_ | ((fail_if_success (refine aops_lit (b := true) rfl rfl rfl ?_)); (fail_if_success (refine aops_lit (b := false) rfl rfl rfl ?_)); refine aops_guard rfl rfl rfl (fun hq => ?_) (fun hq => ?_) <;> first | subst hq | (first | (simp only [decide_eq_true_eq, decide_eq_false_iff_not, beq_iff_eq, beq_eq_false_iff_ne, bne_iff_ne, bne_eq_false_iff_eq, Bool.not_eq_true', Bool.not_eq_false'] at hq; first | (exfalso; omega) | skip) | skip)) | fail) | (refine awp_one ?_; first | refine awp_sreg ?_ | refine awp_seq ?_ | refine awp_region ?_ | refine awp_block ?_ | refine awp_ret ?_ | refine awp_exit ?_ | refine awp_skip ?_ | refine awp_cond (b := true) rfl (fun _ => ?_) (fun h => Bool.noConfusion h) | refine awp_cond (b := false) rfl (fun h => Bool.noConfusion h) (fun _ => ?_) | refine awp_scope ?_ | refine awp_label ?_ | refine awp_sdraw mixed (by kernel_rfl) ?_ | refine awp_region_draw mixed (by kernel_rfl) ?_ | (refine awp_cond rfl (fun hq => ?_) (fun hq => ?_) <;> first | subst hq | (first | (simp only [decide_eq_true_eq, decide_eq_false_iff_not, beq_iff_eq, beq_eq_false_iff_ne, bne_iff_ne, bne_eq_false_iff_eq, Bool.not_eq_true', Bool.not_eq_false'] at hq; first | (exfalso; omega) | skip) | skip)) | fail) | (refine then_one ?_; first | refine q_then ?_ | refine q_then_exit ?_ | refine q_then_ret ?_ | fail) | (refine block_one ?_; first | refine q_block ?_ | refine q_block_exit ?_ | refine q_block_pass (by decide) ?_ | refine q_block_ret ?_ | fail) | refine feet_one (feetOk_of (by kernel_rfl)) ?_ | fail)
              all_goals first
                | exact ⟨⟨j + 1, hlt, hall2 (by rw [hE2]; rfl)⟩, (by show ks.length - (j + 1) < ks.length - j; omega), (le_of (by repeat' first | exact trivial | refine ⟨rfl, ?_⟩) (by repeat' first | exact trivial | refine ⟨rfl, ?_⟩))⟩
                | (exfalso; omega)
                | exact absurd hE (by assumption)
        · rw [hzi.2 (fun q hq hq' => hall q hq hq' (by omega))]
          repeat' (first | refine aops_nil ?_ | (refine aops_one ?_; first | refine aops_quiet tabOk rfl rfl rfl (Nat.le_of_ble_eq_true rfl) rfl ?_ | refine aops_skip rfl rfl (Nat.le_of_ble_eq_true rfl) ?_ | (refine aops_cmp rfl rfl rfl (Nat.le_of_ble_eq_true rfl) rfl rfl rfl (fun hq => ?_) (fun hq => ?_) <;> (first | (simp only [decide_eq_true_eq, decide_eq_false_iff_not, beq_iff_eq, beq_eq_false_iff_ne, bne_iff_ne, bne_eq_false_iff_eq, Bool.not_eq_true', Bool.not_eq_false'] at hq; first | (exfalso; omega) | skip) | skip)) | refine aops_inc rfl rfl rfl (Nat.le_of_ble_eq_true rfl) rfl rfl (by omega) ?_ | refine aops_add rfl rfl rfl (Nat.le_of_ble_eq_true rfl) rfl rfl rfl (by omega) (by omega) ?_ | refine aops_sub rfl rfl rfl (Nat.le_of_ble_eq_true rfl) rfl rfl rfl (by omega) (by omega) ?_ | refine aops_list tabOk rfl rfl rfl (Nat.le_of_ble_eq_true rfl) rfl rfl rfl rfl rfl rfl rfl rfl rfl ?_ | refine aops_pure tabOk rfl rfl (Nat.le_of_ble_eq_true rfl) rfl ?_ | refine aops_alloc tabOk rfl rfl rfl (Nat.le_of_ble_eq_true rfl) rfl rfl rfl rfl rfl rfl ?_ | refine aops_loadm tabOk rfl rfl rfl (Nat.le_of_ble_eq_true rfl) rfl rfl rfl rfl ?_ | refine aops_storem tabOk rfl rfl rfl rfl rfl rfl rfl rfl rfl rfl rfl ?_ | refine aops_index tabOk rfl rfl rfl (Nat.le_of_ble_eq_true rfl) rfl rfl rfl rfl (by first | assumption | omega) ?_ | refine aops_index0 tabOk rfl rfl rfl (Nat.le_of_ble_eq_true rfl) rfl rfl rfl rfl (by first | rfl | omega) (by first | omega | simp) ?_ | refine aops_load1 tabOk rfl rfl rfl (Nat.le_of_ble_eq_true rfl) rfl rfl rfl (by assumption) ?_ | refine aops_load1 tabOk rfl rfl rfl (Nat.le_of_ble_eq_true rfl) rfl rfl rfl (ivs_get _ _ (by first | assumption | omega)) ?_ | refine aops_inc rfl rfl rfl (Nat.le_of_ble_eq_true rfl) rfl rfl (by omega) ?_ | ((fail_if_success (refine aops_lit (b := true) rfl rfl rfl ?_)); (fail_if_success (refine aops_lit (b := false) rfl rfl rfl ?_)); refine aops_guard rfl rfl rfl (fun hq => ?_) (fun hq => ?_) <;> first | subst hq | (first | (simp only [decide_eq_true_eq, decide_eq_false_iff_not, beq_iff_eq, beq_eq_false_iff_ne, bne_iff_ne, bne_eq_false_iff_eq, Bool.not_eq_true', Bool.not_eq_false'] at hq; first | (exfalso; omega) | skip) | skip)) | fail) | (refine awp_one ?_; first | refine awp_sreg ?_ | refine awp_seq ?_ | refine awp_region ?_ | refine awp_block ?_ | refine awp_ret ?_ | refine awp_exit ?_ | refine awp_skip ?_ | refine awp_cond (b := true) rfl (fun _ => ?_) (fun h => Bool.noConfusion h) | refine awp_cond (b := false) rfl (fun h => Bool.noConfusion h) (fun _ => ?_) | refine awp_scope ?_ | refine awp_label ?_ | refine awp_sdraw mixed (by kernel_rfl) ?_ | refine awp_region_draw mixed (by kernel_rfl) ?_ | (refine awp_cond rfl (fun hq => ?_) (fun hq => ?_) <;> first | subst hq | (first | (simp only [decide_eq_true_eq, decide_eq_false_iff_not, beq_iff_eq, beq_eq_false_iff_ne, bne_iff_ne, bne_eq_false_iff_eq, Bool.not_eq_true', Bool.not_eq_false'] at hq; first | (exfalso; omega) | skip) | skip)) | fail) | (refine then_one ?_; first | refine q_then ?_ | refine q_then_exit ?_ | refine q_then_ret ?_ | fail) | (refine block_one ?_; first | refine q_block ?_ | refine q_block_exit ?_ | refine q_block_pass (by decide) ?_ | refine q_block_ret ?_ | fail) | refine feet_one (feetOk_of (by kernel_rfl)) ?_ | fail)
          all_goals first
            | exact aexit_plain (by first | exact .inl rfl | exact .inr rfl) (results_1 rfl (resOk_tmp rfl)) rfl
            | (exfalso; omega)
    · have hL : likeP (.node k n a b ks) (.node k' n' a' b' ks') = false := by
        rw [Bool.eq_false_iff]
        intro hc
        obtain ⟨p1, p2, p3, p4⟩ := like_parts hc
        refine hkk ⟨p1, p2, p3, ?_⟩
        by_cases h146 : k = 146
        · rw [if_pos h146] at p4
          obtain ⟨x, y, u, v, rfl, rfl, _⟩ := like_two p4
          rfl
        · rw [if_neg h146, likeKs_zip] at p4
          by_cases hll : ks.length = ks'.length
          · exact hll
          · rw [zipP_len likeK ks ks' hll] at p4
            cases p4
      rw [hL]
      refine acalls_plain Try.func33 rfl rfl (Nat.le_of_ble_eq_true rfl) rfl ?_
      repeat' (first | refine aops_nil ?_ | (refine aops_one ?_; first | refine aops_quiet tabOk rfl rfl rfl (Nat.le_of_ble_eq_true rfl) rfl ?_ | refine aops_skip rfl rfl (Nat.le_of_ble_eq_true rfl) ?_ | (refine aops_cmp rfl rfl rfl (Nat.le_of_ble_eq_true rfl) rfl rfl rfl (fun hq => ?_) (fun hq => ?_) <;> (first | (simp only [decide_eq_true_eq, decide_eq_false_iff_not, beq_iff_eq, beq_eq_false_iff_ne, bne_iff_ne, bne_eq_false_iff_eq, Bool.not_eq_true', Bool.not_eq_false'] at hq; first | (exfalso; omega) | skip) | skip))| (exfalso; exact hkk ⟨by omega, by omega, toListB_inj.1 (by assumption), by omega⟩) | refine aops_inc rfl rfl rfl (Nat.le_of_ble_eq_true rfl) rfl rfl (by omega) ?_ | refine aops_add rfl rfl rfl (Nat.le_of_ble_eq_true rfl) rfl rfl rfl (by omega) (by omega) ?_ | refine aops_sub rfl rfl rfl (Nat.le_of_ble_eq_true rfl) rfl rfl rfl (by omega) (by omega) ?_ | refine aops_list tabOk rfl rfl rfl (Nat.le_of_ble_eq_true rfl) rfl rfl rfl rfl rfl rfl rfl rfl rfl ?_ | refine aops_pure tabOk rfl rfl (Nat.le_of_ble_eq_true rfl) rfl ?_ | refine aops_alloc tabOk rfl rfl rfl (Nat.le_of_ble_eq_true rfl) rfl rfl rfl rfl rfl rfl ?_ | refine aops_loadm tabOk rfl rfl rfl (Nat.le_of_ble_eq_true rfl) rfl rfl rfl rfl ?_ | refine aops_storem tabOk rfl rfl rfl rfl rfl rfl rfl rfl rfl rfl rfl ?_ | refine aops_index tabOk rfl rfl rfl (Nat.le_of_ble_eq_true rfl) rfl rfl rfl rfl (by first | assumption | omega) ?_ | refine aops_index0 tabOk rfl rfl rfl (Nat.le_of_ble_eq_true rfl) rfl rfl rfl rfl (by first | rfl | omega) (by first | omega | simp) ?_ | refine aops_load1 tabOk rfl rfl rfl (Nat.le_of_ble_eq_true rfl) rfl rfl rfl (by assumption) ?_ | refine aops_load1 tabOk rfl rfl rfl (Nat.le_of_ble_eq_true rfl) rfl rfl rfl (ivs_get _ _ (by first | assumption | omega)) ?_ | refine aops_inc rfl rfl rfl (Nat.le_of_ble_eq_true rfl) rfl rfl (by omega) ?_ | ((fail_if_success (refine aops_lit (b := true) rfl rfl rfl ?_)); (fail_if_success (refine aops_lit (b := false) rfl rfl rfl ?_)); refine aops_guard rfl rfl rfl (fun hq => ?_) (fun hq => ?_) <;> first | subst hq | (first | (simp only [decide_eq_true_eq, decide_eq_false_iff_not, beq_iff_eq, beq_eq_false_iff_ne, bne_iff_ne, bne_eq_false_iff_eq, Bool.not_eq_true', Bool.not_eq_false'] at hq; first | (exfalso; omega) | skip) | skip)) | fail) | (refine awp_one ?_; first | refine awp_sreg ?_ | refine awp_seq ?_ | refine awp_region ?_ | refine awp_block ?_ | refine awp_ret ?_ | refine awp_exit ?_ | refine awp_skip ?_ | refine awp_cond (b := true) rfl (fun _ => ?_) (fun h => Bool.noConfusion h) | refine awp_cond (b := false) rfl (fun h => Bool.noConfusion h) (fun _ => ?_) | refine awp_scope ?_ | refine awp_label ?_ | refine awp_sdraw mixed (by kernel_rfl) ?_ | refine awp_region_draw mixed (by kernel_rfl) ?_ | (refine awp_cond rfl (fun hq => ?_) (fun hq => ?_) <;> first | subst hq | (first | (simp only [decide_eq_true_eq, decide_eq_false_iff_not, beq_iff_eq, beq_eq_false_iff_ne, bne_iff_ne, bne_eq_false_iff_eq, Bool.not_eq_true', Bool.not_eq_false'] at hq; first | (exfalso; omega) | skip) | skip)) | fail) | (refine then_one ?_; first | refine q_then ?_ | refine q_then_exit ?_ | refine q_then_ret ?_ | fail) | (refine block_one ?_; first | refine q_block ?_ | refine q_block_exit ?_ | refine q_block_pass (by decide) ?_ | refine q_block_ret ?_ | fail) | refine feet_one (feetOk_of (by kernel_rfl)) ?_ | fail)
      all_goals first
        | exact aexit_plain (by first | exact .inl rfl | exact .inr rfl) (results_1 rfl (resOk_tmp rfl)) rfl
        | (exfalso; refine hkk ⟨by omega, by omega, toListB_inj.1 (by assumption), by omega⟩)
        | skip
end Go.Proofs.Ytlbemgokilhdnaa.Ab
