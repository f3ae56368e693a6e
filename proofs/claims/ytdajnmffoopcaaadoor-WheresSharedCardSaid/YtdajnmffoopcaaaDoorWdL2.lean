/- Words, walks and laws under the claim's statement: what it uses of them. No condition of its own. -/
import Derived.Test.YtdajnmffoopcaaaDoorWdL1
namespace Go.Proofs.YtdajnmffoopcaaaDoor.Ab
set_option linter.unusedVariables false
set_option linter.unusedSimpArgs false
open Go.RowKit Go.Proofs.YtdajnmffoopcaaaDoor.RP
attribute [local irreducible] AWP AOps AExit AThen ABlock ANoGoto FeetOk
set_option maxHeartbeats 8000000 in
set_option maxRecDepth 10000 in
theorem occV_a (i n d : Int) (s : Bool) (hn0 : 0 ≤ n) (hn : n ≤ 65536) (hd0 : 0 ≤ d) (hd : d ≤ 1000000) :
    ACalls Tryd.prog 55 [.imm (varT n).iv, .imm (.lit (.int .i64 d)), .obj 1000 0, .obj 1001 0] [(1000, .cells [.imm (.lit (.bool s))]), (1001, .cells [.imm (.lit (.int .i64 i))])]
      (.imm (occV i n d s).1.iv) [(1000, .cells [.imm (.lit (.bool (occV i n d s).2))]), (1001, .cells [.imm (.lit (.int .i64 i))])] := by
  cases s with
  | true =>
    have e : occV i n d true = (varT n, true) := rfl
    rw [e]
    unfold varT
    refine acalls_foot [1000, 1001] Tryd.func55 rfl rfl (Nat.le_of_ble_eq_true rfl) rfl rfl ?_
    repeat' (first | refine aops_nil ?_ | (refine aops_one ?_;  first | refine aops_quiet tabOk rfl rfl rfl (Nat.le_of_ble_eq_true rfl) rfl ?_ | refine aops_skip rfl rfl (Nat.le_of_ble_eq_true rfl) ?_ | refine aops_loadm tabOk rfl rfl rfl (Nat.le_of_ble_eq_true rfl) rfl rfl rfl rfl ?_ | refine aops_storem tabOk rfl rfl rfl rfl rfl rfl rfl rfl rfl rfl rfl ?_) | (refine awp_one ?_;  first | refine awp_sreg ?_ | refine awp_seq ?_ | refine awp_ret ?_ | refine awp_region_draw mixed (by kernel_rfl) ?_) | (refine then_one ?_;  first | refine q_then ?_) | refine feet_one (feetOk_of (by kernel_rfl)) ?_)
    all_goals first
      | exact absurd rfl (by assumption)
      | (exfalso; omega)
      | (refine gexit_same (aexit_foot (by first | exact .inl rfl | exact .inr rfl) (results_1 rfl (resOk_tmp rfl)) rfl (by repeat' first | exact trivial | refine ⟨rfl, ?_⟩) rfl ?_); rfl)
  | false =>
    by_cases h : 0 ≤ i ∧ d ≤ n ∧ n - d = i
    · have e : occV i n d false = (varT n, true) := by unfold occV; rw [decide_eq_true h]; rfl
      rw [e]
      unfold varT
      obtain ⟨h1, h2, h3⟩ := h
      refine acalls_foot [1000, 1001] Tryd.func55 rfl rfl (Nat.le_of_ble_eq_true rfl) rfl rfl ?_
      repeat' (first | refine aops_nil ?_ | (refine aops_one ?_;  first | refine aops_quiet tabOk rfl rfl rfl (Nat.le_of_ble_eq_true rfl) rfl ?_ | (refine aops_cmp rfl rfl rfl (Nat.le_of_ble_eq_true rfl) rfl rfl rfl (fun hq => ?_) (fun hq => ?_) <;> (first | (simp only [decide_eq_true_eq, decide_eq_false_iff_not, beq_iff_eq, beq_eq_false_iff_ne, bne_iff_ne, bne_eq_false_iff_eq, Bool.not_eq_true', Bool.not_eq_false'] at hq; first | (exfalso; omega) | skip) | skip)) | refine aops_sub rfl rfl rfl (Nat.le_of_ble_eq_true rfl) rfl rfl rfl (by omega) (by omega) ?_ | refine aops_loadm tabOk rfl rfl rfl (Nat.le_of_ble_eq_true rfl) rfl rfl rfl rfl ?_ | refine aops_storem tabOk rfl rfl rfl rfl rfl rfl rfl rfl rfl rfl rfl ?_) | (refine awp_one ?_;  first | refine awp_sreg ?_ | refine awp_seq ?_ | refine awp_ret ?_ | refine awp_region_draw mixed (by kernel_rfl) ?_) | (refine then_one ?_;  first | refine q_then ?_) | refine feet_one (feetOk_of (by kernel_rfl)) ?_)
      all_goals first
        | exact absurd rfl (by assumption)
        | (exfalso; omega)
        | (refine gexit_same (aexit_foot (by first | exact .inl rfl | exact .inr rfl) (results_1 rfl (resOk_tmp rfl)) rfl (by repeat' first | exact trivial | refine ⟨rfl, ?_⟩) rfl ?_); rfl)
    · have e : occV i n d false = (varT n, false) := by unfold occV; rw [decide_eq_false h]; rfl
      rw [e]
      unfold varT
      refine acalls_foot [1000, 1001] Tryd.func55 rfl rfl (Nat.le_of_ble_eq_true rfl) rfl rfl ?_
      repeat' (first | refine aops_nil ?_ | (refine aops_one ?_;  first | refine aops_quiet tabOk rfl rfl rfl (Nat.le_of_ble_eq_true rfl) rfl ?_ | refine aops_skip rfl rfl (Nat.le_of_ble_eq_true rfl) ?_ | (refine aops_cmp rfl rfl rfl (Nat.le_of_ble_eq_true rfl) rfl rfl rfl (fun hq => ?_) (fun hq => ?_) <;> (first | (simp only [decide_eq_true_eq, decide_eq_false_iff_not, beq_iff_eq, beq_eq_false_iff_ne, bne_iff_ne, bne_eq_false_iff_eq, Bool.not_eq_true', Bool.not_eq_false'] at hq; first | (exfalso; omega) | skip) | skip)) | refine aops_sub rfl rfl rfl (Nat.le_of_ble_eq_true rfl) rfl rfl rfl (by omega) (by omega) ?_ | refine aops_loadm tabOk rfl rfl rfl (Nat.le_of_ble_eq_true rfl) rfl rfl rfl rfl ?_ | refine aops_storem tabOk rfl rfl rfl rfl rfl rfl rfl rfl rfl rfl rfl ?_) | (refine awp_one ?_;  first | refine awp_sreg ?_ | refine awp_seq ?_ | refine awp_ret ?_ | refine awp_region_draw mixed (by kernel_rfl) ?_) | (refine then_one ?_;  first | refine q_then ?_) | refine feet_one (feetOk_of (by kernel_rfl)) ?_)
      all_goals first
        | exact absurd rfl (by assumption)
        | (exfalso; omega)
        | (refine gexit_same (aexit_foot (by first | exact .inl rfl | exact .inr rfl) (results_1 rfl (resOk_tmp rfl)) rfl (by repeat' first | exact trivial | refine ⟨rfl, ?_⟩) rfl ?_); rfl)
set_option maxHeartbeats 8000000 in
set_option maxRecDepth 10000 in
theorem Occurs_a (t : Tree) (i : Int) (hs : t.size ≤ 1000000) : ACalls Tryd.prog 37 [.imm t.iv, .imm (.lit (.int .i64 i))] [] (.imm (.lit (.bool (occP t i)))) [] := by
  have c1 := Check_any t hs
  unfold occP
  by_cases hc : checkP isConP t = 0
  · rw [decide_eq_true hc, Bool.true_and]
    obtain ⟨hw, hz, hf⟩ := checkP_whole hc
    have hv := okVars_con t hf
    have cw := (walk2_a (σ := Bool) (occV i) 55 (fun s => .lit (.bool s)) (fun _ => .lit (.int .i64 i)) (fun _ => True)
      (fun n d s _ h1 h2 h3 h4 => ⟨occV_a i n d s h1 h2 h3 h4, trivial, by unfold occV varT; simp⟩) t 0 false hv hw (Int.le_refl _) (by omega) trivial).1
    rw [occ_cnt i t 0 false hv, Bool.false_or] at cw
    rw [hc] at c1
    generalize decide (0 ≤ i ∧ 0 < cntP i t 0) = Q at *
    generalize (walkS (occV i) t 0 false).1 = W at *
    clear hc hw hz hf hv
    refine acalls_plain Tryd.func37 rfl rfl (Nat.le_of_ble_eq_true rfl) rfl ?_
    repeat' (first | refine aops_nil ?_ | (refine aops_one ?_;  first | refine aops_quiet tabOk rfl rfl rfl (Nat.le_of_ble_eq_true rfl) rfl ?_ | (refine aops_cmp rfl rfl rfl (Nat.le_of_ble_eq_true rfl) rfl rfl rfl (fun hq => ?_) (fun hq => ?_) <;> (first | (simp only [decide_eq_true_eq, decide_eq_false_iff_not, beq_iff_eq, beq_eq_false_iff_ne, bne_iff_ne, bne_eq_false_iff_eq, Bool.not_eq_true', Bool.not_eq_false'] at hq; first | (exfalso; omega) | skip) | skip)) | refine aops_call rfl rfl (Nat.le_of_ble_eq_true rfl) rfl rfl rfl rfl (c1) ?_ | refine aops_boxg 1001 (d := 3) rfl rfl rfl (Nat.le_of_ble_eq_true rfl) rfl rfl rfl rfl rfl rfl rfl ?_ | refine aops_allocg 1000 tabOk rfl rfl rfl (Nat.le_of_ble_eq_true rfl) rfl rfl rfl rfl rfl rfl ?_ | refine aops_callm rfl rfl (Nat.le_of_ble_eq_true rfl) rfl rfl rfl rfl cw (by repeat' first | exact trivial | refine ⟨rfl, ?_⟩) rfl (by show ([1000, 1001] : List Nat).Nodup; decide) ?_ | refine aops_loadm tabOk rfl rfl rfl (Nat.le_of_ble_eq_true rfl) rfl rfl rfl rfl ?_ | refine aops_storem tabOk rfl rfl rfl rfl rfl rfl rfl rfl rfl rfl rfl ?_) | (refine awp_one ?_;  first | refine awp_sreg ?_ | refine awp_seq ?_ | refine awp_region ?_ | refine awp_ret ?_ | refine awp_cond (b := true) rfl (fun _ => ?_) (fun h => Bool.noConfusion h)) | (refine then_one ?_;  first | refine q_then ?_))
    all_goals first
      | exact absurd rfl (by assumption)
      | (exfalso; omega)
      | (refine aexit_eq (by first | exact .inl rfl | exact .inr rfl) (results_1 rfl (resOk_tmp rfl)) rfl ?_; rfl)
  · rw [decide_eq_false hc, Bool.false_and]
    generalize checkP isConP t = C at *
    refine acalls_plain Tryd.func37 rfl rfl (Nat.le_of_ble_eq_true rfl) rfl ?_
    repeat' (first | refine aops_nil ?_ | (refine aops_one ?_;  first | refine aops_quiet tabOk rfl rfl rfl (Nat.le_of_ble_eq_true rfl) rfl ?_ | (refine aops_cmp rfl rfl rfl (Nat.le_of_ble_eq_true rfl) rfl rfl rfl (fun hq => ?_) (fun hq => ?_) <;> (first | (simp only [decide_eq_true_eq, decide_eq_false_iff_not, beq_iff_eq, beq_eq_false_iff_ne, bne_iff_ne, bne_eq_false_iff_eq, Bool.not_eq_true', Bool.not_eq_false'] at hq; first | (exfalso; omega) | skip) | skip)) | refine aops_call rfl rfl (Nat.le_of_ble_eq_true rfl) rfl rfl rfl rfl (c1) ?_ | refine aops_boxg 1001 (d := 3) rfl rfl rfl (Nat.le_of_ble_eq_true rfl) rfl rfl rfl rfl rfl rfl rfl ?_ | refine aops_allocg 1000 tabOk rfl rfl rfl (Nat.le_of_ble_eq_true rfl) rfl rfl rfl rfl rfl rfl ?_ | refine aops_loadm tabOk rfl rfl rfl (Nat.le_of_ble_eq_true rfl) rfl rfl rfl rfl ?_ | refine aops_storem tabOk rfl rfl rfl rfl rfl rfl rfl rfl rfl rfl rfl ?_) | (refine awp_one ?_;  first | refine awp_sreg ?_ | refine awp_seq ?_ | refine awp_ret ?_ | refine awp_skip ?_ | refine awp_cond (b := false) rfl (fun h => Bool.noConfusion h) (fun _ => ?_)) | (refine then_one ?_;  first | refine q_then ?_))
    all_goals first
      | exact absurd (by assumption) hc
      | (exfalso; omega)
      | (refine aexit_eq (by first | exact .inl rfl | exact .inr rfl) (results_1 rfl (resOk_tmp rfl)) rfl ?_; rfl)
set_option maxHeartbeats 4000000 in
set_option maxRecDepth 10000 in
theorem wex_a (N : Int) (pc : List IV) : ACalls Tryd.prog 40 [.imm (.lit (.int .i64 N)), .imm (.ptr pc 0)] [] (.imm (.ptr [.lit (.int .i64 164), .lit (.int .i64 N), .lit (.string ⟨#[]⟩), .lit (.string ⟨#[]⟩), .sl false 1 [.ptr pc 0]] 0)) [] := by
  refine acalls_plain Tryd.func40 rfl rfl (Nat.le_of_ble_eq_true rfl) rfl ?_
  repeat' (first | refine aops_nil ?_ | (refine aops_one ?_;  first | refine aops_quiet tabOk rfl rfl rfl (Nat.le_of_ble_eq_true rfl) rfl ?_ | refine aops_list tabOk rfl rfl rfl (Nat.le_of_ble_eq_true rfl) rfl rfl rfl rfl rfl rfl rfl rfl rfl ?_ | refine aops_pure tabOk rfl rfl (Nat.le_of_ble_eq_true rfl) rfl ?_) | (refine awp_one ?_;  first | refine awp_sreg ?_ | refine awp_ret ?_))
  all_goals (refine aexit_eq (by first | exact .inl rfl | exact .inr rfl) (results_1 rfl (resOk_tmp rfl)) rfl ?_; rfl)
theorem exT_iv (N : Int) {s : Tree} {pc : List IV} (h : s.iv = .ptr pc 0) : (exT N s).iv = .ptr [.lit (.int .i64 164), .lit (.int .i64 N), .lit (.string ⟨#[]⟩), .lit (.string ⟨#[]⟩), .sl false 1 [.ptr pc 0]] 0 := by
  unfold exT
  rw [Tree.iv, Tree.ivs, Tree.ivs, h]; rfl
def abstractP (n : Tree) : Int := if checkP sformP n ≠ 0 then checkP sformP n else if n.kind ≠ 164 then 16 else 0
set_option maxHeartbeats 4000000 in
set_option maxRecDepth 10000 in
theorem abstract_a (n : Tree) (hs : n.size ≤ 1000000) : ACalls Tryd.prog 16 [.imm n.iv] [] (.imm (.lit (.int .i64 (abstractP n)))) [] := by
  have c1 := sCheck_any n hs
  unfold abstractP
  by_cases hc : checkP sformP n = 0
  · rw [if_neg (by simpa using hc)]
    rw [hc] at c1
    obtain ⟨k, m, a, b, kids, rfl⟩ := whole_node (checkP_whole hc).1
    by_cases hk : k = 164
    · subst hk
      rw [if_neg (by show ¬ ((164 : Int) ≠ 164); simp)]
      refine acalls_plain Tryd.func16 rfl rfl (Nat.le_of_ble_eq_true rfl) rfl ?_
      repeat' (first | refine aops_nil ?_ | (refine aops_one ?_;  first | refine aops_quiet tabOk rfl rfl rfl (Nat.le_of_ble_eq_true rfl) rfl ?_ | (refine aops_cmp rfl rfl rfl (Nat.le_of_ble_eq_true rfl) rfl rfl rfl (fun hq => ?_) (fun hq => ?_) <;> (first | (simp only [decide_eq_true_eq, decide_eq_false_iff_not, beq_iff_eq, beq_eq_false_iff_ne, bne_iff_ne, bne_eq_false_iff_eq, Bool.not_eq_true', Bool.not_eq_false'] at hq; first | (exfalso; omega) | skip) | skip)) | refine aops_call rfl rfl (Nat.le_of_ble_eq_true rfl) rfl rfl rfl rfl (c1) ?_) | (refine awp_one ?_;  first | refine awp_sreg ?_ | refine awp_seq ?_ | refine awp_ret ?_ | refine awp_skip ?_ | refine awp_cond (b := false) rfl (fun h => Bool.noConfusion h) (fun _ => ?_)) | (refine then_one ?_;  first | refine q_then ?_))
      all_goals first
        | exact absurd rfl (by assumption)
        | (refine aexit_eq (by first | exact .inl rfl | exact .inr rfl) (results_1 rfl (resOk_tmp rfl)) rfl ?_; rfl)
    · rw [if_pos (by show k ≠ 164; exact hk)]
      refine acalls_plain Tryd.func16 rfl rfl (Nat.le_of_ble_eq_true rfl) rfl ?_
      repeat' (first | refine aops_nil ?_ | (refine aops_one ?_;  first | refine aops_quiet tabOk rfl rfl rfl (Nat.le_of_ble_eq_true rfl) rfl ?_ | (refine aops_cmp rfl rfl rfl (Nat.le_of_ble_eq_true rfl) rfl rfl rfl (fun hq => ?_) (fun hq => ?_) <;> (first | (simp only [decide_eq_true_eq, decide_eq_false_iff_not, beq_iff_eq, beq_eq_false_iff_ne, bne_iff_ne, bne_eq_false_iff_eq, Bool.not_eq_true', Bool.not_eq_false'] at hq; first | (exfalso; omega) | skip) | skip)) | refine aops_call rfl rfl (Nat.le_of_ble_eq_true rfl) rfl rfl rfl rfl (c1) ?_) | (refine awp_one ?_;  first | refine awp_sreg ?_ | refine awp_seq ?_ | refine awp_ret ?_ | refine awp_skip ?_ | refine awp_cond (b := true) rfl (fun _ => ?_) (fun h => Bool.noConfusion h) | refine awp_cond (b := false) rfl (fun h => Bool.noConfusion h) (fun _ => ?_)) | (refine then_one ?_;  first | refine q_then ?_ | refine q_then_ret ?_))
      all_goals first
        | exact absurd rfl (by assumption)
        | exact absurd (by assumption) hk
        | (refine aexit_eq (by first | exact .inl rfl | exact .inr rfl) (results_1 rfl (resOk_tmp rfl)) rfl ?_; rfl)
  · rw [if_pos hc]
    generalize checkP sformP n = C at *
    refine acalls_plain Tryd.func16 rfl rfl (Nat.le_of_ble_eq_true rfl) rfl ?_
    repeat' (first | refine aops_nil ?_ | (refine aops_one ?_;  first | refine aops_quiet tabOk rfl rfl rfl (Nat.le_of_ble_eq_true rfl) rfl ?_ | (refine aops_cmp rfl rfl rfl (Nat.le_of_ble_eq_true rfl) rfl rfl rfl (fun hq => ?_) (fun hq => ?_) <;> (first | (simp only [decide_eq_true_eq, decide_eq_false_iff_not, beq_iff_eq, beq_eq_false_iff_ne, bne_iff_ne, bne_eq_false_iff_eq, Bool.not_eq_true', Bool.not_eq_false'] at hq; first | (exfalso; omega) | skip) | skip)) | refine aops_call rfl rfl (Nat.le_of_ble_eq_true rfl) rfl rfl rfl rfl (c1) ?_) | (refine awp_one ?_;  first | refine awp_sreg ?_ | refine awp_seq ?_ | refine awp_ret ?_ | refine awp_cond (b := true) rfl (fun _ => ?_) (fun h => Bool.noConfusion h)) | (refine then_one ?_;  first | refine q_then_ret ?_))
    all_goals first
      | exact absurd rfl (by assumption)
      | exact absurd (by assumption) hc
      | (refine aexit_eq (by first | exact .inl rfl | exact .inr rfl) (results_1 rfl (resOk_tmp rfl)) rfl ?_; rfl)
set_option maxHeartbeats 16000000 in
set_option maxRecDepth 10000 in
theorem Solve_a (n : Tree) (i : Int) (c : Tree) (hn : n.size ≤ 1000000) (hcs : c.size ≤ 1000000) (hm : n.size * c.size ≤ 1000000) :
    ACalls Tryd.prog 19 [.imm n.iv, .imm (.lit (.int .i64 i)), .imm c.iv] [] (.imm (.tup [(solveP n i c).1.iv, .lit (.int .i64 (solveP n i c).2)])) [] := by
  have c1 := sCheck_any n hn
  have c2 := Check_any c hcs
  obtain ⟨Q, hQ⟩ : ∃ Q, solveP n i c = Q := ⟨_, rfl⟩
  rw [hQ]
  unfold solveP at hQ
  by_cases h1 : checkP sformP n = 0
  · rw [if_neg (by simpa using h1)] at hQ
    rw [h1] at c1
    by_cases h2 : checkP isConP c = 0
    · rw [if_neg (by simpa using h2)] at hQ
      rw [h2] at c2
      by_cases h3 : n.kind = 164
      · rw [if_neg (by simpa using h3)] at hQ
        obtain ⟨N, s, rfl, n0, n1, hs, hw, hz⟩ := ex_of h1 h3
        have ek : kid0 (exT N s) = s := rfl
        have en : (exT N s).num = N := rfl
        rw [ek, en] at hQ
        unfold solve1 at hQ
        have hzn := (checkP_whole h1).2.1
        have hsc : checkP sformP s = 0 := by rw [checkP_ok sformP s hw (by omega), if_pos (by unfold sformP; rw [hs]; rfl)]
        by_cases h4 : i < 0 ∨ N ≤ i
        · rw [if_pos h4] at hQ
          subst hQ
          unfold exT at *
          refine acalls_plain Tryd.func19 rfl rfl (Nat.le_of_ble_eq_true rfl) rfl ?_
          repeat' (first | refine aops_nil ?_ | (refine aops_one ?_;  first | refine aops_quiet tabOk rfl rfl rfl (Nat.le_of_ble_eq_true rfl) rfl ?_ | refine aops_skip rfl rfl (Nat.le_of_ble_eq_true rfl) ?_ | (refine aops_cmp rfl rfl rfl (Nat.le_of_ble_eq_true rfl) rfl rfl rfl (fun hq => ?_) (fun hq => ?_) <;> (first | (simp only [decide_eq_true_eq, decide_eq_false_iff_not, beq_iff_eq, beq_eq_false_iff_ne, bne_iff_ne, bne_eq_false_iff_eq, Bool.not_eq_true', Bool.not_eq_false'] at hq; first | (exfalso; omega) | skip) | skip)) | refine aops_call rfl rfl (Nat.le_of_ble_eq_true rfl) rfl rfl rfl rfl (c1) ?_ | refine aops_call rfl rfl (Nat.le_of_ble_eq_true rfl) rfl rfl rfl rfl (c2) ?_) | (refine awp_one ?_;  first | refine awp_sreg ?_ | refine awp_seq ?_ | refine awp_block ?_ | refine awp_ret ?_ | refine awp_skip ?_ | refine awp_cond (b := true) rfl (fun _ => ?_) (fun h => Bool.noConfusion h) | refine awp_cond (b := false) rfl (fun h => Bool.noConfusion h) (fun _ => ?_)) | (refine then_one ?_;  first | refine q_then ?_ | refine q_then_ret ?_) | (refine block_one ?_;  first | refine q_block_ret ?_))
          all_goals first
            | exact absurd rfl (by assumption)
            | (exfalso; omega)
            | (refine aexit_eq (by first | exact .inl rfl | exact .inr rfl) (results_2 rfl (resOk_tmp rfl) (resOk_tmp rfl)) rfl ?_; rfl)
        · rw [if_neg h4] at hQ
          have c3 := Occurs_a c i hcs
          by_cases h5 : occP c i = true
          · rw [if_pos h5] at hQ
            subst hQ
            rw [h5] at c3
            unfold exT at *
            refine acalls_plain Tryd.func19 rfl rfl (Nat.le_of_ble_eq_true rfl) rfl ?_
            repeat' (first | refine aops_nil ?_ | (refine aops_one ?_;  first | refine aops_quiet tabOk rfl rfl rfl (Nat.le_of_ble_eq_true rfl) rfl ?_ | (refine aops_cmp rfl rfl rfl (Nat.le_of_ble_eq_true rfl) rfl rfl rfl (fun hq => ?_) (fun hq => ?_) <;> (first | (simp only [decide_eq_true_eq, decide_eq_false_iff_not, beq_iff_eq, beq_eq_false_iff_ne, bne_iff_ne, bne_eq_false_iff_eq, Bool.not_eq_true', Bool.not_eq_false'] at hq; first | (exfalso; omega) | skip) | skip)) | refine aops_call rfl rfl (Nat.le_of_ble_eq_true rfl) rfl rfl rfl rfl (c1) ?_ | refine aops_call rfl rfl (Nat.le_of_ble_eq_true rfl) rfl rfl rfl rfl (c2) ?_ | refine aops_call rfl rfl (Nat.le_of_ble_eq_true rfl) rfl rfl rfl rfl (c3) ?_) | (refine awp_one ?_;  first | refine awp_sreg ?_ | refine awp_seq ?_ | refine awp_block ?_ | refine awp_ret ?_ | refine awp_skip ?_ | refine awp_cond (b := true) rfl (fun _ => ?_) (fun h => Bool.noConfusion h) | refine awp_cond (b := false) rfl (fun h => Bool.noConfusion h) (fun _ => ?_)) | (refine then_one ?_;  first | refine q_then ?_ | refine q_then_ret ?_) | (refine block_one ?_;  first | refine q_block_ret ?_))
            all_goals first
              | exact absurd rfl (by assumption)
              | (exfalso; omega)
              | (refine aexit_eq (by first | exact .inl rfl | exact .inr rfl) (results_2 rfl (resOk_tmp rfl) (resOk_tmp rfl)) rfl ?_; rfl)
          · rw [if_neg h5] at hQ
            have h5 : occP c i = false := by simpa using h5
            rw [h5] at c3
            have c4 := Shift_a c (-1) i hcs
            unfold solve2 at hQ
            by_cases h6 : (shiftP c (-1) i).2 = 0
            · rw [if_neg (by simpa using h6)] at hQ
              obtain ⟨s1, s2, s3, s4⟩ := shift_ok h2 (by omega : 0 ≤ i) h6
              have hle : (shiftP c (-1) i).1.size ≤ c.size := by rw [s2]; dsimp only; omega
              have hcB : checkP isConP (shiftP c (-1) i).1 = 0 := by rw [s2]; exact s3
              rw [h6] at c4
              generalize (shiftP c (-1) i).1 = B at *
              have hsm : (swalkP (ssubC i B) s 0).1.size ≤ 1000000 := by
                have q1 := ssub_le i B s hsc hcB
                have q2 : s.size * B.size ≤ (exT N s).size * c.size := Nat.mul_le_mul (by omega) hle
                omega
              have c5 := sSubst_a s i B (by omega) (by omega) hsm
              unfold solve3 at hQ
              by_cases h7 : (ssubstP s i B).2 = 0
              · rw [if_neg (by simpa using h7)] at hQ
                obtain ⟨_, _, _, _, _, g6, g7⟩ := ssubst_inv h7
                have c6 := Small_a (ssubstP s i B).1 (by omega)
                rw [h7] at c5
                obtain ⟨px, hpx⟩ := iv_ptr (whole_ne g6)
                generalize (ssubstP s i B).1 = S at *
                have c7 := wex_a (N - 1) px
                have hex := exT_iv (N - 1) hpx
                clear hle hcB hsm s1 s2 s3 s4 h6 h7 hsc hz hzn hs hw
                by_cases h8 : ssmallP S = 0
                · rw [if_neg (by simpa using h8)] at hQ
                  subst hQ
                  dsimp only
                  rw [hex]
                  rw [h8] at c6
                  rw [hpx] at c5 c6
                  unfold exT at *
                  refine acalls_plain Tryd.func19 rfl rfl (Nat.le_of_ble_eq_true rfl) rfl ?_
                  repeat' (first | refine aops_nil ?_ | (refine aops_one ?_;  first | refine aops_quiet tabOk rfl rfl rfl (Nat.le_of_ble_eq_true rfl) rfl ?_ | (refine aops_cmp rfl rfl rfl (Nat.le_of_ble_eq_true rfl) rfl rfl rfl (fun hq => ?_) (fun hq => ?_) <;> (first | (simp only [decide_eq_true_eq, decide_eq_false_iff_not, beq_iff_eq, beq_eq_false_iff_ne, bne_iff_ne, bne_eq_false_iff_eq, Bool.not_eq_true', Bool.not_eq_false'] at hq; first | (exfalso; omega) | skip) | skip)) | refine aops_call rfl rfl (Nat.le_of_ble_eq_true rfl) rfl rfl rfl rfl (c1) ?_ | refine aops_call rfl rfl (Nat.le_of_ble_eq_true rfl) rfl rfl rfl rfl (c2) ?_ | refine aops_call rfl rfl (Nat.le_of_ble_eq_true rfl) rfl rfl rfl rfl (c3) ?_ | refine aops_call rfl rfl (Nat.le_of_ble_eq_true rfl) rfl rfl rfl rfl (c4) ?_ | refine aops_call rfl rfl (Nat.le_of_ble_eq_true rfl) rfl rfl rfl rfl (c5) ?_ | refine aops_call rfl rfl (Nat.le_of_ble_eq_true rfl) rfl rfl rfl rfl (c6) ?_ | refine aops_call rfl rfl (Nat.le_of_ble_eq_true rfl) rfl rfl rfl rfl (c7) ?_ | refine aops_sub rfl rfl rfl (Nat.le_of_ble_eq_true rfl) rfl rfl rfl (by omega) (by omega) ?_ | refine aops_index0 tabOk rfl rfl rfl (Nat.le_of_ble_eq_true rfl) rfl rfl rfl rfl (by first | rfl | omega) (by first | omega | simp) ?_) | (refine awp_one ?_;  first | refine awp_sreg ?_ | refine awp_seq ?_ | refine awp_block ?_ | refine awp_ret ?_ | refine awp_skip ?_ | refine awp_cond (b := false) rfl (fun h => Bool.noConfusion h) (fun _ => ?_)) | (refine then_one ?_;  first | refine q_then ?_) | (refine block_one ?_;  first | refine q_block ?_))
                  all_goals first
                    | exact absurd rfl (by assumption)
                    | (exfalso; omega)
                    | (refine aexit_eq (by first | exact .inl rfl | exact .inr rfl) (results_2 rfl (resOk_tmp rfl) (resOk_tmp rfl)) rfl ?_; rfl)
                · rw [if_pos h8] at hQ
                  subst hQ
                  generalize ssmallP S = D at *
                  unfold exT at *
                  refine acalls_plain Tryd.func19 rfl rfl (Nat.le_of_ble_eq_true rfl) rfl ?_
                  repeat' (first | refine aops_nil ?_ | (refine aops_one ?_;  first | refine aops_quiet tabOk rfl rfl rfl (Nat.le_of_ble_eq_true rfl) rfl ?_ | (refine aops_cmp rfl rfl rfl (Nat.le_of_ble_eq_true rfl) rfl rfl rfl (fun hq => ?_) (fun hq => ?_) <;> (first | (simp only [decide_eq_true_eq, decide_eq_false_iff_not, beq_iff_eq, beq_eq_false_iff_ne, bne_iff_ne, bne_eq_false_iff_eq, Bool.not_eq_true', Bool.not_eq_false'] at hq; first | (exfalso; omega) | skip) | skip)) | refine aops_call rfl rfl (Nat.le_of_ble_eq_true rfl) rfl rfl rfl rfl (c1) ?_ | refine aops_call rfl rfl (Nat.le_of_ble_eq_true rfl) rfl rfl rfl rfl (c2) ?_ | refine aops_call rfl rfl (Nat.le_of_ble_eq_true rfl) rfl rfl rfl rfl (c3) ?_ | refine aops_call rfl rfl (Nat.le_of_ble_eq_true rfl) rfl rfl rfl rfl (c4) ?_ | refine aops_call rfl rfl (Nat.le_of_ble_eq_true rfl) rfl rfl rfl rfl (c5) ?_ | refine aops_call rfl rfl (Nat.le_of_ble_eq_true rfl) rfl rfl rfl rfl (c6) ?_ | refine aops_index0 tabOk rfl rfl rfl (Nat.le_of_ble_eq_true rfl) rfl rfl rfl rfl (by first | rfl | omega) (by first | omega | simp) ?_) | (refine awp_one ?_;  first | refine awp_sreg ?_ | refine awp_seq ?_ | refine awp_block ?_ | refine awp_ret ?_ | refine awp_skip ?_ | refine awp_cond (b := true) rfl (fun _ => ?_) (fun h => Bool.noConfusion h) | refine awp_cond (b := false) rfl (fun h => Bool.noConfusion h) (fun _ => ?_)) | (refine then_one ?_;  first | refine q_then ?_ | refine q_then_ret ?_) | (refine block_one ?_;  first | refine q_block ?_))
                  all_goals first
                    | exact absurd rfl (by assumption)
                    | exact absurd (by assumption) h8
                    | (exfalso; omega)
                    | (refine aexit_eq (by first | exact .inl rfl | exact .inr rfl) (results_2 rfl (resOk_tmp rfl) (resOk_tmp rfl)) rfl ?_; rfl)
              · rw [if_pos h7] at hQ
                subst hQ
                generalize ssubstP s i B = S at *
                unfold exT at *
                refine acalls_plain Tryd.func19 rfl rfl (Nat.le_of_ble_eq_true rfl) rfl ?_
                repeat' (first | refine aops_nil ?_ | (refine aops_one ?_;  first | refine aops_quiet tabOk rfl rfl rfl (Nat.le_of_ble_eq_true rfl) rfl ?_ | (refine aops_cmp rfl rfl rfl (Nat.le_of_ble_eq_true rfl) rfl rfl rfl (fun hq => ?_) (fun hq => ?_) <;> (first | (simp only [decide_eq_true_eq, decide_eq_false_iff_not, beq_iff_eq, beq_eq_false_iff_ne, bne_iff_ne, bne_eq_false_iff_eq, Bool.not_eq_true', Bool.not_eq_false'] at hq; first | (exfalso; omega) | skip) | skip)) | refine aops_call rfl rfl (Nat.le_of_ble_eq_true rfl) rfl rfl rfl rfl (c1) ?_ | refine aops_call rfl rfl (Nat.le_of_ble_eq_true rfl) rfl rfl rfl rfl (c2) ?_ | refine aops_call rfl rfl (Nat.le_of_ble_eq_true rfl) rfl rfl rfl rfl (c3) ?_ | refine aops_call rfl rfl (Nat.le_of_ble_eq_true rfl) rfl rfl rfl rfl (c4) ?_ | refine aops_call rfl rfl (Nat.le_of_ble_eq_true rfl) rfl rfl rfl rfl (c5) ?_ | refine aops_index0 tabOk rfl rfl rfl (Nat.le_of_ble_eq_true rfl) rfl rfl rfl rfl (by first | rfl | omega) (by first | omega | simp) ?_) | (refine awp_one ?_;  first | refine awp_sreg ?_ | refine awp_seq ?_ | refine awp_block ?_ | refine awp_ret ?_ | refine awp_skip ?_ | refine awp_cond (b := true) rfl (fun _ => ?_) (fun h => Bool.noConfusion h) | refine awp_cond (b := false) rfl (fun h => Bool.noConfusion h) (fun _ => ?_)) | (refine then_one ?_;  first | refine q_then ?_ | refine q_then_ret ?_) | (refine block_one ?_;  first | refine q_block ?_))
                all_goals first
                  | exact absurd rfl (by assumption)
                  | exact absurd (by assumption) h7
                  | (exfalso; omega)
                  | (refine aexit_eq (by first | exact .inl rfl | exact .inr rfl) (results_2 rfl (resOk_tmp rfl) (resOk_tmp rfl)) rfl ?_; rfl)
            · rw [if_pos h6] at hQ
              subst hQ
              generalize shiftP c (-1) i = B at *
              unfold exT at *
              refine acalls_plain Tryd.func19 rfl rfl (Nat.le_of_ble_eq_true rfl) rfl ?_
              repeat' (first | refine aops_nil ?_ | (refine aops_one ?_;  first | refine aops_quiet tabOk rfl rfl rfl (Nat.le_of_ble_eq_true rfl) rfl ?_ | (refine aops_cmp rfl rfl rfl (Nat.le_of_ble_eq_true rfl) rfl rfl rfl (fun hq => ?_) (fun hq => ?_) <;> (first | (simp only [decide_eq_true_eq, decide_eq_false_iff_not, beq_iff_eq, beq_eq_false_iff_ne, bne_iff_ne, bne_eq_false_iff_eq, Bool.not_eq_true', Bool.not_eq_false'] at hq; first | (exfalso; omega) | skip) | skip)) | refine aops_call rfl rfl (Nat.le_of_ble_eq_true rfl) rfl rfl rfl rfl (c1) ?_ | refine aops_call rfl rfl (Nat.le_of_ble_eq_true rfl) rfl rfl rfl rfl (c2) ?_ | refine aops_call rfl rfl (Nat.le_of_ble_eq_true rfl) rfl rfl rfl rfl (c3) ?_ | refine aops_call rfl rfl (Nat.le_of_ble_eq_true rfl) rfl rfl rfl rfl (c4) ?_) | (refine awp_one ?_;  first | refine awp_sreg ?_ | refine awp_seq ?_ | refine awp_block ?_ | refine awp_ret ?_ | refine awp_skip ?_ | refine awp_cond (b := true) rfl (fun _ => ?_) (fun h => Bool.noConfusion h) | refine awp_cond (b := false) rfl (fun h => Bool.noConfusion h) (fun _ => ?_)) | (refine then_one ?_;  first | refine q_then ?_ | refine q_then_ret ?_) | (refine block_one ?_;  first | refine q_block ?_))
              all_goals first
                | exact absurd rfl (by assumption)
                | exact absurd (by assumption) h6
                | (exfalso; omega)
                | (refine aexit_eq (by first | exact .inl rfl | exact .inr rfl) (results_2 rfl (resOk_tmp rfl) (resOk_tmp rfl)) rfl ?_; rfl)
      · rw [if_pos h3] at hQ
        subst hQ
        obtain ⟨k, m, a, b, kids, rfl⟩ := whole_node (checkP_whole h1).1
        have h3 : ¬ k = 164 := h3
        refine acalls_plain Tryd.func19 rfl rfl (Nat.le_of_ble_eq_true rfl) rfl ?_
        repeat' (first | refine aops_nil ?_ | (refine aops_one ?_;  first | refine aops_quiet tabOk rfl rfl rfl (Nat.le_of_ble_eq_true rfl) rfl ?_ | (refine aops_cmp rfl rfl rfl (Nat.le_of_ble_eq_true rfl) rfl rfl rfl (fun hq => ?_) (fun hq => ?_) <;> (first | (simp only [decide_eq_true_eq, decide_eq_false_iff_not, beq_iff_eq, beq_eq_false_iff_ne, bne_iff_ne, bne_eq_false_iff_eq, Bool.not_eq_true', Bool.not_eq_false'] at hq; first | (exfalso; omega) | skip) | skip)) | refine aops_call rfl rfl (Nat.le_of_ble_eq_true rfl) rfl rfl rfl rfl (c1) ?_ | refine aops_call rfl rfl (Nat.le_of_ble_eq_true rfl) rfl rfl rfl rfl (c2) ?_) | (refine awp_one ?_;  first | refine awp_sreg ?_ | refine awp_seq ?_ | refine awp_block ?_ | refine awp_ret ?_ | refine awp_skip ?_ | refine awp_cond (b := true) rfl (fun _ => ?_) (fun h => Bool.noConfusion h) | refine awp_cond (b := false) rfl (fun h => Bool.noConfusion h) (fun _ => ?_)) | (refine then_one ?_;  first | refine q_then ?_ | refine q_then_ret ?_) | (refine block_one ?_;  first | refine q_block_ret ?_))
        all_goals first
          | exact absurd rfl (by assumption)
          | exact absurd (by assumption) h3
          | (refine aexit_eq (by first | exact .inl rfl | exact .inr rfl) (results_2 rfl (resOk_tmp rfl) (resOk_tmp rfl)) rfl ?_; rfl)
    · rw [if_pos h2] at hQ
      subst hQ
      generalize checkP isConP c = C at *
      refine acalls_plain Tryd.func19 rfl rfl (Nat.le_of_ble_eq_true rfl) rfl ?_
      repeat' (first | refine aops_nil ?_ | (refine aops_one ?_;  first | refine aops_quiet tabOk rfl rfl rfl (Nat.le_of_ble_eq_true rfl) rfl ?_ | (refine aops_cmp rfl rfl rfl (Nat.le_of_ble_eq_true rfl) rfl rfl rfl (fun hq => ?_) (fun hq => ?_) <;> (first | (simp only [decide_eq_true_eq, decide_eq_false_iff_not, beq_iff_eq, beq_eq_false_iff_ne, bne_iff_ne, bne_eq_false_iff_eq, Bool.not_eq_true', Bool.not_eq_false'] at hq; first | (exfalso; omega) | skip) | skip)) | refine aops_call rfl rfl (Nat.le_of_ble_eq_true rfl) rfl rfl rfl rfl (c1) ?_ | refine aops_call rfl rfl (Nat.le_of_ble_eq_true rfl) rfl rfl rfl rfl (c2) ?_) | (refine awp_one ?_;  first | refine awp_sreg ?_ | refine awp_seq ?_ | refine awp_ret ?_ | refine awp_skip ?_ | refine awp_cond (b := true) rfl (fun _ => ?_) (fun h => Bool.noConfusion h) | refine awp_cond (b := false) rfl (fun h => Bool.noConfusion h) (fun _ => ?_)) | (refine then_one ?_;  first | refine q_then ?_ | refine q_then_ret ?_))
      all_goals first
        | exact absurd rfl (by assumption)
        | exact absurd (by assumption) h2
        | (refine aexit_eq (by first | exact .inl rfl | exact .inr rfl) (results_2 rfl (resOk_tmp rfl) (resOk_tmp rfl)) rfl ?_; rfl)
  · rw [if_pos h1] at hQ
    subst hQ
    generalize checkP sformP n = C at *
    refine acalls_plain Tryd.func19 rfl rfl (Nat.le_of_ble_eq_true rfl) rfl ?_
    repeat' (first | refine aops_nil ?_ | (refine aops_one ?_;  first | refine aops_quiet tabOk rfl rfl rfl (Nat.le_of_ble_eq_true rfl) rfl ?_ | (refine aops_cmp rfl rfl rfl (Nat.le_of_ble_eq_true rfl) rfl rfl rfl (fun hq => ?_) (fun hq => ?_) <;> (first | (simp only [decide_eq_true_eq, decide_eq_false_iff_not, beq_iff_eq, beq_eq_false_iff_ne, bne_iff_ne, bne_eq_false_iff_eq, Bool.not_eq_true', Bool.not_eq_false'] at hq; first | (exfalso; omega) | skip) | skip)) | refine aops_call rfl rfl (Nat.le_of_ble_eq_true rfl) rfl rfl rfl rfl (c1) ?_) | (refine awp_one ?_;  first | refine awp_sreg ?_ | refine awp_seq ?_ | refine awp_ret ?_ | refine awp_cond (b := true) rfl (fun _ => ?_) (fun h => Bool.noConfusion h)) | (refine then_one ?_;  first | refine q_then_ret ?_))
    all_goals first
      | exact absurd rfl (by assumption)
      | exact absurd (by assumption) h1
      | (refine aexit_eq (by first | exact .inl rfl | exact .inr rfl) (results_2 rfl (resOk_tmp rfl) (resOk_tmp rfl)) rfl ?_; rfl)
set_option maxHeartbeats 8000000 in
set_option maxRecDepth 10000 in
theorem at_a (N : Int) (s : Tree) (long : ByteArray) (hs : s.size ≤ 100000) (hw : s.whole = true) (hl : long.size ≤ 100000) :
    ACalls Tryd.prog 17 [.imm (exT N s).iv, .imm (.lit (.string long))] [] (.imm (.tup [(atE s long).1.iv, .lit (.int .i64 (atE s long).2)])) [] := by
  have c1 := At_a s ⟨#[116]⟩ long hs (by decide) hl
  obtain ⟨ps, hps⟩ := iv_ptr (whole_ne hw)
  have hex := exT_iv N hps
  rw [hps] at c1
  unfold atE atK
  by_cases h1 : (sAtP s ⟨#[116]⟩ long).2 = 0
  · rw [if_neg (by simpa using h1)]
    obtain ⟨g1, g2, _, _⟩ := sAtP_ok h1
    rw [h1] at c1
    generalize (sAtP s ⟨#[116]⟩ long).1 = R at *
    obtain ⟨k, m, a, b, kids, rfl⟩ := whole_node g2
    by_cases h2 : k = 161
    · subst h2
      rw [if_neg (by show ¬ ((161 : Int) ≠ 161); simp)]
      rcases sig_kids g1 with ⟨_, x, rfl, hc⟩ | ⟨h3, _⟩
      · show ACalls _ _ _ _ (.imm (.tup [x.iv, .lit (.int .i64 0)])) _
        rw [hex]
        clear hex hps g1 g2 h1
        refine acalls_plain Tryd.func17 rfl rfl (Nat.le_of_ble_eq_true rfl) rfl ?_
        repeat' (first | refine aops_nil ?_ | (refine aops_one ?_;  first | refine aops_quiet tabOk rfl rfl rfl (Nat.le_of_ble_eq_true rfl) rfl ?_ | (refine aops_cmp rfl rfl rfl (Nat.le_of_ble_eq_true rfl) rfl rfl rfl (fun hq => ?_) (fun hq => ?_) <;> (first | (simp only [decide_eq_true_eq, decide_eq_false_iff_not, beq_iff_eq, beq_eq_false_iff_ne, bne_iff_ne, bne_eq_false_iff_eq, Bool.not_eq_true', Bool.not_eq_false'] at hq; first | (exfalso; omega) | skip) | skip)) | refine aops_call rfl rfl (Nat.le_of_ble_eq_true rfl) rfl rfl rfl rfl (c1) ?_ | refine aops_index0 tabOk rfl rfl rfl (Nat.le_of_ble_eq_true rfl) rfl rfl rfl rfl (by first | rfl | omega) (by first | omega | simp) ?_) | (refine awp_one ?_;  first | refine awp_sreg ?_ | refine awp_seq ?_ | refine awp_block ?_ | refine awp_ret ?_ | refine awp_skip ?_ | refine awp_cond (b := false) rfl (fun h => Bool.noConfusion h) (fun _ => ?_)) | (refine then_one ?_;  first | refine q_then ?_) | (refine block_one ?_;  first | refine q_block ?_))
        all_goals first
          | exact absurd rfl (by assumption)
          | (refine aexit_eq (by first | exact .inl rfl | exact .inr rfl) (results_2 rfl (resOk_tmp rfl) (resOk_tmp rfl)) rfl ?_; rfl)
      · omega
    · rw [if_pos (by show k ≠ 161; exact h2), hex]
      clear hex hps g1 g2 h1
      refine acalls_plain Tryd.func17 rfl rfl (Nat.le_of_ble_eq_true rfl) rfl ?_
      repeat' (first | refine aops_nil ?_ | (refine aops_one ?_;  first | refine aops_quiet tabOk rfl rfl rfl (Nat.le_of_ble_eq_true rfl) rfl ?_ | (refine aops_cmp rfl rfl rfl (Nat.le_of_ble_eq_true rfl) rfl rfl rfl (fun hq => ?_) (fun hq => ?_) <;> (first | (simp only [decide_eq_true_eq, decide_eq_false_iff_not, beq_iff_eq, beq_eq_false_iff_ne, bne_iff_ne, bne_eq_false_iff_eq, Bool.not_eq_true', Bool.not_eq_false'] at hq; first | (exfalso; omega) | skip) | skip)) | refine aops_call rfl rfl (Nat.le_of_ble_eq_true rfl) rfl rfl rfl rfl (c1) ?_ | refine aops_index0 tabOk rfl rfl rfl (Nat.le_of_ble_eq_true rfl) rfl rfl rfl rfl (by first | rfl | omega) (by first | omega | simp) ?_) | (refine awp_one ?_;  first | refine awp_sreg ?_ | refine awp_seq ?_ | refine awp_block ?_ | refine awp_ret ?_ | refine awp_cond (b := true) rfl (fun _ => ?_) (fun h => Bool.noConfusion h) | refine awp_cond (b := false) rfl (fun h => Bool.noConfusion h) (fun _ => ?_)) | (refine then_one ?_;  first | refine q_then_ret ?_) | (refine block_one ?_;  first | refine q_block_ret ?_))
      all_goals first
        | exact absurd rfl (by assumption)
        | exact absurd (by assumption) h2
        | (refine aexit_eq (by first | exact .inl rfl | exact .inr rfl) (results_2 rfl (resOk_tmp rfl) (resOk_tmp rfl)) rfl ?_; rfl)
  · rw [if_pos h1, hex]
    generalize sAtP s ⟨#[116]⟩ long = R at *
    refine acalls_plain Tryd.func17 rfl rfl (Nat.le_of_ble_eq_true rfl) rfl ?_
    repeat' (first | refine aops_nil ?_ | (refine aops_one ?_;  first | refine aops_quiet tabOk rfl rfl rfl (Nat.le_of_ble_eq_true rfl) rfl ?_ | (refine aops_cmp rfl rfl rfl (Nat.le_of_ble_eq_true rfl) rfl rfl rfl (fun hq => ?_) (fun hq => ?_) <;> (first | (simp only [decide_eq_true_eq, decide_eq_false_iff_not, beq_iff_eq, beq_eq_false_iff_ne, bne_iff_ne, bne_eq_false_iff_eq, Bool.not_eq_true', Bool.not_eq_false'] at hq; first | (exfalso; omega) | skip) | skip)) | refine aops_call rfl rfl (Nat.le_of_ble_eq_true rfl) rfl rfl rfl rfl (c1) ?_ | refine aops_index0 tabOk rfl rfl rfl (Nat.le_of_ble_eq_true rfl) rfl rfl rfl rfl (by first | rfl | omega) (by first | omega | simp) ?_) | (refine awp_one ?_;  first | refine awp_sreg ?_ | refine awp_seq ?_ | refine awp_block ?_ | refine awp_ret ?_ | refine awp_cond (b := true) rfl (fun _ => ?_) (fun h => Bool.noConfusion h)) | (refine then_one ?_;  first | refine q_then_ret ?_) | (refine block_one ?_;  first | refine q_block_ret ?_))
    all_goals first
      | exact absurd rfl (by assumption)
      | exact absurd (by assumption) h1
      | (refine aexit_eq (by first | exact .inl rfl | exact .inr rfl) (results_2 rfl (resOk_tmp rfl) (resOk_tmp rfl)) rfl ?_; rfl)
set_option maxHeartbeats 4000000 in
set_option maxRecDepth 10000 in
theorem bound_a (n x : Tree) (hn : n.whole = true) (hx : x.whole = true) : ACalls Tryd.prog 18 [.imm n.iv, .imm x.iv] [] (.imm (.lit (.bool (boundP n.num x)))) [] := by
  obtain ⟨k, m, a, b, kids, rfl⟩ := whole_node hn
  obtain ⟨k', m', a', b', kids', rfl⟩ := whole_node hx
  have e : boundP (Tree.node k m a b kids).num (.node k' m' a' b' kids') = (decide (k' = 110) && decide (m' < m)) := rfl
  rw [e]
  refine acalls_plain Tryd.func18 rfl rfl (Nat.le_of_ble_eq_true rfl) rfl ?_
  repeat' (first | refine aops_nil ?_ | (refine aops_one ?_;  first | refine aops_quiet tabOk rfl rfl rfl (Nat.le_of_ble_eq_true rfl) rfl ?_ | refine aops_skip rfl rfl (Nat.le_of_ble_eq_true rfl) ?_ | (refine aops_cmp rfl rfl rfl (Nat.le_of_ble_eq_true rfl) rfl rfl rfl (fun hq => ?_) (fun hq => ?_) <;> (first | (simp only [decide_eq_true_eq, decide_eq_false_iff_not, beq_iff_eq, beq_eq_false_iff_ne, bne_iff_ne, bne_eq_false_iff_eq, Bool.not_eq_true', Bool.not_eq_false'] at hq; first | (exfalso; omega) | skip) | skip))) | (refine awp_one ?_;  first | refine awp_sreg ?_ | refine awp_seq ?_ | refine awp_ret ?_ | refine awp_region_draw mixed (by kernel_rfl) ?_) | (refine then_one ?_;  first | refine q_then ?_) | refine feet_one (feetOk_of (by kernel_rfl)) ?_)
  all_goals (refine aexit_eq (by first | exact .inl rfl | exact .inr rfl) (results_1 rfl (resOk_tmp rfl)) rfl ?_; refine bool_eq ?_; simp_all <;> omega)
end Go.Proofs.YtdajnmffoopcaaaDoor.Ab
namespace Go.Proofs.YtdajnmffoopcaaaDoor.Ab
set_option linter.unusedVariables false
set_option linter.unusedSimpArgs false
open Go.RowKit Go.Proofs.YtdajnmffoopcaaaDoor.RP
attribute [local irreducible] AWP AOps AExit AThen ABlock ANoGoto FeetOk
theorem abstract_ex {N : Int} {s : Tree} (h : checkP sformP (exT N s) = 0) : abstractP (exT N s) = 0 := by
  unfold abstractP
  rw [if_neg (by simpa using h), if_neg (by show ¬ ((164 : Int) ≠ 164); simp)]
set_option maxHeartbeats 16000000 in
set_option maxRecDepth 10000 in
theorem Where_a (n : Tree) (long : ByteArray) (c : Tree) (hn : n.size ≤ 100000) (hl : long.size ≤ 100000) (hcs : c.size ≤ 100000) (hm : n.size * c.size ≤ 1000000) :
    ACalls Tryd.prog 7 [.imm n.iv, .imm (.lit (.string long)), .imm c.iv] [] (.imm (.tup [(whereP n long c).1.iv, .lit (.int .i64 (whereP n long c).2)])) [] := by
  have c1 := sCheck_any n (by omega)
  have c2 := Check_any c (by omega)
  have c3 := abstract_a n (by omega)
  obtain ⟨Q, hQ⟩ : ∃ Q, whereP n long c = Q := ⟨_, rfl⟩
  rw [hQ]
  unfold whereP at hQ
  by_cases h1 : checkP sformP n = 0
  · rw [if_neg (by simpa using h1)] at hQ
    rw [h1] at c1
    by_cases h2 : checkP isConP c = 0
    · rw [if_neg (by simpa using h2)] at hQ
      rw [h2] at c2
      by_cases h3 : n.kind = 164
      · rw [if_neg (by simpa using h3)] at hQ
        obtain ⟨N, s, rfl, n0, n1, hs, hw, hz⟩ := ex_of h1 h3
        have hwn := (checkP_whole h1).1
        have ek : kid0 (exT N s) = s := rfl
        have en : (exT N s).num = N := rfl
        rw [ek, en] at hQ
        rw [abstract_ex h1] at c3
        have c4 := at_a N s long (by omega) hw hl
        have c5 := Shift_a c N 0 (by omega)
        have hXok := @atE_ok s long
        unfold where1 at hQ
        rw [en] at hQ
        generalize atE s long = X at *
        obtain ⟨X1, X2⟩ := X
        dsimp only at hQ c4 hXok
        by_cases hX : X2 = 0
        · subst hX
          rw [if_neg (by simp)] at hQ
          obtain ⟨x0, _, _, _⟩ := hXok rfl
          have hxw := (checkP_whole x0).1
          have hxz := (checkP_whole x0).2.1
          by_cases hY : (shiftP c N 0).2 = 0
          · rw [if_neg (by simpa using hY)] at hQ
            obtain ⟨y1, y2, y3, y4⟩ := shift_ok h2 (Int.le_refl 0) hY
            rw [hY] at c5
            have hyz : (shiftP c N 0).1.size = c.size := by rw [y2]; exact y4
            have hyw : (shiftP c N 0).1.whole = true := by rw [y2]; exact (checkP_whole y3).1
            generalize (shiftP c N 0).1 = Y at *
            have c6 := bound_a (exT N s) X1 hwn hxw
            rw [en] at c6
            by_cases hb : boundP N X1 = true
            · rw [if_pos hb] at hQ
              rw [hb] at c6
              obtain ⟨i, rfl, i0, i1, i2⟩ := bound_var x0 hb
              have enum : (varT i).num = i := rfl
              rw [enum] at hQ
              have c7 := Solve_a (exT N s) i Y (by omega) (by omega) (by rw [hyz]; exact hm)
              rw [hQ] at c7
              clear hQ hXok x0 hxw hxz hY y1 y2 y3 y4 hyz hyw h1 h2 h3 ek en hwn hb hm hz hn
              unfold exT varT at *
              obtain ⟨Q1, Q2⟩ := Q
              dsimp only at *
              refine acalls_plain Tryd.func7 rfl rfl (Nat.le_of_ble_eq_true rfl) rfl ?_
              repeat' (first | refine aops_nil ?_ | (refine aops_one ?_;  first | refine aops_quiet tabOk rfl rfl rfl (Nat.le_of_ble_eq_true rfl) rfl ?_ | (refine aops_cmp rfl rfl rfl (Nat.le_of_ble_eq_true rfl) rfl rfl rfl (fun hq => ?_) (fun hq => ?_) <;> (first | (simp only [decide_eq_true_eq, decide_eq_false_iff_not, beq_iff_eq, beq_eq_false_iff_ne, bne_iff_ne, bne_eq_false_iff_eq, Bool.not_eq_true', Bool.not_eq_false'] at hq; first | (exfalso; omega) | skip) | skip)) | refine aops_call rfl rfl (Nat.le_of_ble_eq_true rfl) rfl rfl rfl rfl (c1) ?_ | refine aops_call rfl rfl (Nat.le_of_ble_eq_true rfl) rfl rfl rfl rfl (c2) ?_ | refine aops_call rfl rfl (Nat.le_of_ble_eq_true rfl) rfl rfl rfl rfl (c3) ?_ | refine aops_call rfl rfl (Nat.le_of_ble_eq_true rfl) rfl rfl rfl rfl (c4) ?_ | refine aops_call rfl rfl (Nat.le_of_ble_eq_true rfl) rfl rfl rfl rfl (c5) ?_ | refine aops_call rfl rfl (Nat.le_of_ble_eq_true rfl) rfl rfl rfl rfl (c6) ?_ | refine aops_call rfl rfl (Nat.le_of_ble_eq_true rfl) rfl rfl rfl rfl (c7) ?_) | (refine awp_one ?_;  first | refine awp_sreg ?_ | refine awp_seq ?_ | refine awp_block ?_ | refine awp_ret ?_ | refine awp_skip ?_ | refine awp_cond (b := true) rfl (fun _ => ?_) (fun h => Bool.noConfusion h) | refine awp_cond (b := false) rfl (fun h => Bool.noConfusion h) (fun _ => ?_)) | (refine then_one ?_;  first | refine q_then ?_ | refine q_then_ret ?_) | (refine block_one ?_;  first | refine q_block_ret ?_))
              all_goals first
                | exact absurd rfl (by assumption)
                | (exfalso; omega)
                | (refine aexit_eq (by first | exact .inl rfl | exact .inr rfl) (results_2 rfl (resOk_tmp rfl) (resOk_tmp rfl)) rfl ?_; rfl)
            · rw [if_neg hb] at hQ
              have hb : boundP N X1 = false := by simpa using hb
              rw [hb] at c6
              have c7 := Same_a X1 Y (.inr hxw) (.inr hyw) (by omega) (by omega)
              by_cases hsm : sameP X1 Y = true
              · rw [if_pos hsm] at hQ
                rw [hsm] at c7
                subst hQ
                obtain ⟨ps, hps⟩ := iv_ptr (whole_ne hw)
                clear hXok x0 hxw hxz hY y1 y2 y3 y4 hyz hyw h1 h2 h3 ek en hwn hb hm hz hn hsm
                unfold exT at *
                dsimp only at *
                refine acalls_plain Tryd.func7 rfl rfl (Nat.le_of_ble_eq_true rfl) rfl ?_
                repeat' (first | refine aops_nil ?_ | (refine aops_one ?_;  first | refine aops_quiet tabOk rfl rfl rfl (Nat.le_of_ble_eq_true rfl) rfl ?_ | (refine aops_cmp rfl rfl rfl (Nat.le_of_ble_eq_true rfl) rfl rfl rfl (fun hq => ?_) (fun hq => ?_) <;> (first | (simp only [decide_eq_true_eq, decide_eq_false_iff_not, beq_iff_eq, beq_eq_false_iff_ne, bne_iff_ne, bne_eq_false_iff_eq, Bool.not_eq_true', Bool.not_eq_false'] at hq; first | (exfalso; omega) | skip) | skip)) | refine aops_call rfl rfl (Nat.le_of_ble_eq_true rfl) rfl rfl rfl rfl (c1) ?_ | refine aops_call rfl rfl (Nat.le_of_ble_eq_true rfl) rfl rfl rfl rfl (c2) ?_ | refine aops_call rfl rfl (Nat.le_of_ble_eq_true rfl) rfl rfl rfl rfl (c3) ?_ | refine aops_call rfl rfl (Nat.le_of_ble_eq_true rfl) rfl rfl rfl rfl (c4) ?_ | refine aops_call rfl rfl (Nat.le_of_ble_eq_true rfl) rfl rfl rfl rfl (c5) ?_ | refine aops_call rfl rfl (Nat.le_of_ble_eq_true rfl) rfl rfl rfl rfl (c6) ?_ | refine aops_call rfl rfl (Nat.le_of_ble_eq_true rfl) rfl rfl rfl rfl (c7) ?_) | (refine awp_one ?_;  first | refine awp_sreg ?_ | refine awp_seq ?_ | refine awp_block ?_ | refine awp_ret ?_ | refine awp_skip ?_ | refine awp_cond (b := false) rfl (fun h => Bool.noConfusion h) (fun _ => ?_)) | (refine then_one ?_;  first | refine q_then ?_) | (refine block_one ?_;  first | refine q_block ?_))
                all_goals first
                  | exact absurd rfl (by assumption)
                  | (exfalso; omega)
                  | (refine aexit_eq (by first | exact .inl rfl | exact .inr rfl) (results_2 rfl (resOk_tmp rfl) (resOk_tmp rfl)) rfl ?_; rfl)
              · rw [if_neg hsm] at hQ
                have hsm : sameP X1 Y = false := by simpa using hsm
                rw [hsm] at c7
                subst hQ
                clear hXok x0 hxw hxz hY y1 y2 y3 y4 hyz hyw h1 h2 h3 ek en hwn hb hm hz hn hsm
                unfold exT at *
                dsimp only at *
                refine acalls_plain Tryd.func7 rfl rfl (Nat.le_of_ble_eq_true rfl) rfl ?_
                repeat' (first | refine aops_nil ?_ | (refine aops_one ?_;  first | refine aops_quiet tabOk rfl rfl rfl (Nat.le_of_ble_eq_true rfl) rfl ?_ | (refine aops_cmp rfl rfl rfl (Nat.le_of_ble_eq_true rfl) rfl rfl rfl (fun hq => ?_) (fun hq => ?_) <;> (first | (simp only [decide_eq_true_eq, decide_eq_false_iff_not, beq_iff_eq, beq_eq_false_iff_ne, bne_iff_ne, bne_eq_false_iff_eq, Bool.not_eq_true', Bool.not_eq_false'] at hq; first | (exfalso; omega) | skip) | skip)) | refine aops_call rfl rfl (Nat.le_of_ble_eq_true rfl) rfl rfl rfl rfl (c1) ?_ | refine aops_call rfl rfl (Nat.le_of_ble_eq_true rfl) rfl rfl rfl rfl (c2) ?_ | refine aops_call rfl rfl (Nat.le_of_ble_eq_true rfl) rfl rfl rfl rfl (c3) ?_ | refine aops_call rfl rfl (Nat.le_of_ble_eq_true rfl) rfl rfl rfl rfl (c4) ?_ | refine aops_call rfl rfl (Nat.le_of_ble_eq_true rfl) rfl rfl rfl rfl (c5) ?_ | refine aops_call rfl rfl (Nat.le_of_ble_eq_true rfl) rfl rfl rfl rfl (c6) ?_ | refine aops_call rfl rfl (Nat.le_of_ble_eq_true rfl) rfl rfl rfl rfl (c7) ?_) | (refine awp_one ?_;  first | refine awp_sreg ?_ | refine awp_seq ?_ | refine awp_block ?_ | refine awp_ret ?_ | refine awp_skip ?_ | refine awp_cond (b := true) rfl (fun _ => ?_) (fun h => Bool.noConfusion h) | refine awp_cond (b := false) rfl (fun h => Bool.noConfusion h) (fun _ => ?_)) | (refine then_one ?_;  first | refine q_then ?_ | refine q_then_ret ?_) | (refine block_one ?_;  first | refine q_block_ret ?_))
                all_goals first
                  | exact absurd rfl (by assumption)
                  | (exfalso; omega)
                  | (refine aexit_eq (by first | exact .inl rfl | exact .inr rfl) (results_2 rfl (resOk_tmp rfl) (resOk_tmp rfl)) rfl ?_; rfl)
          · rw [if_pos hY] at hQ
            subst hQ
            generalize shiftP c N 0 = Y at *
            clear hXok x0 hxw hxz h1 h2 h3 ek en hwn hm hz hn
            unfold exT at *
            refine acalls_plain Tryd.func7 rfl rfl (Nat.le_of_ble_eq_true rfl) rfl ?_
            repeat' (first | refine aops_nil ?_ | (refine aops_one ?_;  first | refine aops_quiet tabOk rfl rfl rfl (Nat.le_of_ble_eq_true rfl) rfl ?_ | (refine aops_cmp rfl rfl rfl (Nat.le_of_ble_eq_true rfl) rfl rfl rfl (fun hq => ?_) (fun hq => ?_) <;> (first | (simp only [decide_eq_true_eq, decide_eq_false_iff_not, beq_iff_eq, beq_eq_false_iff_ne, bne_iff_ne, bne_eq_false_iff_eq, Bool.not_eq_true', Bool.not_eq_false'] at hq; first | (exfalso; omega) | skip) | skip)) | refine aops_call rfl rfl (Nat.le_of_ble_eq_true rfl) rfl rfl rfl rfl (c1) ?_ | refine aops_call rfl rfl (Nat.le_of_ble_eq_true rfl) rfl rfl rfl rfl (c2) ?_ | refine aops_call rfl rfl (Nat.le_of_ble_eq_true rfl) rfl rfl rfl rfl (c3) ?_ | refine aops_call rfl rfl (Nat.le_of_ble_eq_true rfl) rfl rfl rfl rfl (c4) ?_ | refine aops_call rfl rfl (Nat.le_of_ble_eq_true rfl) rfl rfl rfl rfl (c5) ?_) | (refine awp_one ?_;  first | refine awp_sreg ?_ | refine awp_seq ?_ | refine awp_block ?_ | refine awp_ret ?_ | refine awp_skip ?_ | refine awp_cond (b := true) rfl (fun _ => ?_) (fun h => Bool.noConfusion h) | refine awp_cond (b := false) rfl (fun h => Bool.noConfusion h) (fun _ => ?_)) | (refine then_one ?_;  first | refine q_then ?_ | refine q_then_ret ?_) | (refine block_one ?_;  first | refine q_block_ret ?_))
            all_goals first
              | exact absurd rfl (by assumption)
              | exact absurd (by assumption) hY
              | (exfalso; omega)
              | (refine aexit_eq (by first | exact .inl rfl | exact .inr rfl) (results_2 rfl (resOk_tmp rfl) (resOk_tmp rfl)) rfl ?_; rfl)
        · rw [if_pos hX] at hQ
          subst hQ
          clear hXok h1 h2 h3 ek en hwn hm hz hn
          unfold exT at *
          refine acalls_plain Tryd.func7 rfl rfl (Nat.le_of_ble_eq_true rfl) rfl ?_
          repeat' (first | refine aops_nil ?_ | (refine aops_one ?_;  first | refine aops_quiet tabOk rfl rfl rfl (Nat.le_of_ble_eq_true rfl) rfl ?_ | (refine aops_cmp rfl rfl rfl (Nat.le_of_ble_eq_true rfl) rfl rfl rfl (fun hq => ?_) (fun hq => ?_) <;> (first | (simp only [decide_eq_true_eq, decide_eq_false_iff_not, beq_iff_eq, beq_eq_false_iff_ne, bne_iff_ne, bne_eq_false_iff_eq, Bool.not_eq_true', Bool.not_eq_false'] at hq; first | (exfalso; omega) | skip) | skip)) | refine aops_call rfl rfl (Nat.le_of_ble_eq_true rfl) rfl rfl rfl rfl (c1) ?_ | refine aops_call rfl rfl (Nat.le_of_ble_eq_true rfl) rfl rfl rfl rfl (c2) ?_ | refine aops_call rfl rfl (Nat.le_of_ble_eq_true rfl) rfl rfl rfl rfl (c3) ?_ | refine aops_call rfl rfl (Nat.le_of_ble_eq_true rfl) rfl rfl rfl rfl (c4) ?_) | (refine awp_one ?_;  first | refine awp_sreg ?_ | refine awp_seq ?_ | refine awp_ret ?_ | refine awp_skip ?_ | refine awp_cond (b := true) rfl (fun _ => ?_) (fun h => Bool.noConfusion h) | refine awp_cond (b := false) rfl (fun h => Bool.noConfusion h) (fun _ => ?_)) | (refine then_one ?_;  first | refine q_then ?_ | refine q_then_ret ?_))
          all_goals first
            | exact absurd rfl (by assumption)
            | exact absurd (by assumption) hX
            | (exfalso; omega)
            | (refine aexit_eq (by first | exact .inl rfl | exact .inr rfl) (results_2 rfl (resOk_tmp rfl) (resOk_tmp rfl)) rfl ?_; rfl)
      · rw [if_pos h3] at hQ
        subst hQ
        have ha : abstractP n = 16 := by unfold abstractP; rw [if_neg (by simpa using h1), if_pos h3]
        rw [ha] at c3
        clear hm
        refine acalls_plain Tryd.func7 rfl rfl (Nat.le_of_ble_eq_true rfl) rfl ?_
        repeat' (first | refine aops_nil ?_ | (refine aops_one ?_;  first | refine aops_quiet tabOk rfl rfl rfl (Nat.le_of_ble_eq_true rfl) rfl ?_ | (refine aops_cmp rfl rfl rfl (Nat.le_of_ble_eq_true rfl) rfl rfl rfl (fun hq => ?_) (fun hq => ?_) <;> (first | (simp only [decide_eq_true_eq, decide_eq_false_iff_not, beq_iff_eq, beq_eq_false_iff_ne, bne_iff_ne, bne_eq_false_iff_eq, Bool.not_eq_true', Bool.not_eq_false'] at hq; first | (exfalso; omega) | skip) | skip)) | refine aops_call rfl rfl (Nat.le_of_ble_eq_true rfl) rfl rfl rfl rfl (c1) ?_ | refine aops_call rfl rfl (Nat.le_of_ble_eq_true rfl) rfl rfl rfl rfl (c2) ?_ | refine aops_call rfl rfl (Nat.le_of_ble_eq_true rfl) rfl rfl rfl rfl (c3) ?_) | (refine awp_one ?_;  first | refine awp_sreg ?_ | refine awp_seq ?_ | refine awp_ret ?_ | refine awp_skip ?_ | refine awp_cond (b := true) rfl (fun _ => ?_) (fun h => Bool.noConfusion h) | refine awp_cond (b := false) rfl (fun h => Bool.noConfusion h) (fun _ => ?_)) | (refine then_one ?_;  first | refine q_then ?_ | refine q_then_ret ?_))
        all_goals first
          | exact absurd rfl (by assumption)
          | (refine aexit_eq (by first | exact .inl rfl | exact .inr rfl) (results_2 rfl (resOk_tmp rfl) (resOk_tmp rfl)) rfl ?_; rfl)
    · rw [if_pos h2] at hQ
      subst hQ
      clear hm c3
      generalize checkP isConP c = C at *
      refine acalls_plain Tryd.func7 rfl rfl (Nat.le_of_ble_eq_true rfl) rfl ?_
      repeat' (first | refine aops_nil ?_ | (refine aops_one ?_;  first | refine aops_quiet tabOk rfl rfl rfl (Nat.le_of_ble_eq_true rfl) rfl ?_ | (refine aops_cmp rfl rfl rfl (Nat.le_of_ble_eq_true rfl) rfl rfl rfl (fun hq => ?_) (fun hq => ?_) <;> (first | (simp only [decide_eq_true_eq, decide_eq_false_iff_not, beq_iff_eq, beq_eq_false_iff_ne, bne_iff_ne, bne_eq_false_iff_eq, Bool.not_eq_true', Bool.not_eq_false'] at hq; first | (exfalso; omega) | skip) | skip)) | refine aops_call rfl rfl (Nat.le_of_ble_eq_true rfl) rfl rfl rfl rfl (c1) ?_ | refine aops_call rfl rfl (Nat.le_of_ble_eq_true rfl) rfl rfl rfl rfl (c2) ?_) | (refine awp_one ?_;  first | refine awp_sreg ?_ | refine awp_seq ?_ | refine awp_ret ?_ | refine awp_skip ?_ | refine awp_cond (b := true) rfl (fun _ => ?_) (fun h => Bool.noConfusion h) | refine awp_cond (b := false) rfl (fun h => Bool.noConfusion h) (fun _ => ?_)) | (refine then_one ?_;  first | refine q_then ?_ | refine q_then_ret ?_))
      all_goals first
        | exact absurd rfl (by assumption)
        | exact absurd (by assumption) h2
        | (refine aexit_eq (by first | exact .inl rfl | exact .inr rfl) (results_2 rfl (resOk_tmp rfl) (resOk_tmp rfl)) rfl ?_; rfl)
  · rw [if_pos h1] at hQ
    subst hQ
    clear hm c3
    generalize checkP sformP n = C at *
    refine acalls_plain Tryd.func7 rfl rfl (Nat.le_of_ble_eq_true rfl) rfl ?_
    repeat' (first | refine aops_nil ?_ | (refine aops_one ?_;  first | refine aops_quiet tabOk rfl rfl rfl (Nat.le_of_ble_eq_true rfl) rfl ?_ | (refine aops_cmp rfl rfl rfl (Nat.le_of_ble_eq_true rfl) rfl rfl rfl (fun hq => ?_) (fun hq => ?_) <;> (first | (simp only [decide_eq_true_eq, decide_eq_false_iff_not, beq_iff_eq, beq_eq_false_iff_ne, bne_iff_ne, bne_eq_false_iff_eq, Bool.not_eq_true', Bool.not_eq_false'] at hq; first | (exfalso; omega) | skip) | skip)) | refine aops_call rfl rfl (Nat.le_of_ble_eq_true rfl) rfl rfl rfl rfl (c1) ?_) | (refine awp_one ?_;  first | refine awp_sreg ?_ | refine awp_seq ?_ | refine awp_ret ?_ | refine awp_cond (b := true) rfl (fun _ => ?_) (fun h => Bool.noConfusion h)) | (refine then_one ?_;  first | refine q_then_ret ?_))
    all_goals first
      | exact absurd rfl (by assumption)
      | exact absurd (by assumption) h1
      | (refine aexit_eq (by first | exact .inl rfl | exact .inr rfl) (results_2 rfl (resOk_tmp rfl) (resOk_tmp rfl)) rfl ?_; rfl)
def knownT (N : Int) (c : Tree) : Tree := exT N (.node 162 0 emptyB emptyB [.node 163 0 ⟨#[116, 58, 116]⟩ emptyB [.node 161 0 emptyB emptyB [c]]])
set_option maxHeartbeats 4000000 in
set_option maxRecDepth 10000 in
theorem rEx20_a (N : Int) (pc : List IV) : ACalls Tryd.prog 41 [.imm (.lit (.int .i64 N)), .imm (.ptr pc 0)] [] (.imm (.ptr [.lit (.int .i64 164), .lit (.int .i64 N), .lit (.string ⟨#[]⟩), .lit (.string ⟨#[]⟩), .sl false 1 [.ptr pc 0]] 0)) [] := by
  refine acalls_plain Tryd.func41 rfl rfl (Nat.le_of_ble_eq_true rfl) rfl ?_
  repeat' (first | refine aops_nil ?_ | (refine aops_one ?_;  first | refine aops_quiet tabOk rfl rfl rfl (Nat.le_of_ble_eq_true rfl) rfl ?_ | refine aops_list tabOk rfl rfl rfl (Nat.le_of_ble_eq_true rfl) rfl rfl rfl rfl rfl rfl rfl rfl rfl ?_ | refine aops_pure tabOk rfl rfl (Nat.le_of_ble_eq_true rfl) rfl ?_) | (refine awp_one ?_;  first | refine awp_sreg ?_ | refine awp_ret ?_))
  all_goals (refine aexit_eq (by first | exact .inl rfl | exact .inr rfl) (results_1 rfl (resOk_tmp rfl)) rfl ?_; rfl)
set_option maxHeartbeats 4000000 in
set_option maxRecDepth 10000 in
theorem known_a (N : Int) (c : Tree) (hc : c.whole = true) : ACalls Tryd.prog 20 [.imm (.lit (.int .i64 N)), .imm c.iv] [] (.imm (knownT N c).iv) [] := by
  obtain ⟨pc, hpc⟩ := iv_ptr (whole_ne hc)
  have e : (knownT N c).iv = .ptr [.lit (.int .i64 164), .lit (.int .i64 N), .lit (.string ⟨#[]⟩), .lit (.string ⟨#[]⟩), .sl false 1 [.ptr [.lit (.int .i64 162), .lit (.int .i64 0), .lit (.string ⟨#[]⟩), .lit (.string ⟨#[]⟩), .sl false 1 [.ptr [.lit (.int .i64 163), .lit (.int .i64 0), .lit (.string ⟨#[116, 58, 116]⟩), .lit (.string ⟨#[]⟩), .sl false 1 [.ptr [.lit (.int .i64 161), .lit (.int .i64 0), .lit (.string ⟨#[]⟩), .lit (.string ⟨#[]⟩), .sl false 1 [.ptr pc 0]] 0]] 0]] 0]] 0 := by
    unfold knownT exT
    simp only [Tree.iv, Tree.ivs, hpc]
    rfl
  rw [e, hpc]
  refine acalls_plain Tryd.func20 rfl rfl (Nat.le_of_ble_eq_true rfl) rfl ?_
  repeat' (first | refine aops_nil ?_ | (refine aops_one ?_;  first | refine aops_quiet tabOk rfl rfl rfl (Nat.le_of_ble_eq_true rfl) rfl ?_ | refine aops_call rfl rfl (Nat.le_of_ble_eq_true rfl) rfl rfl rfl rfl ((rEx20_a _ _)) ?_ | refine aops_list tabOk rfl rfl rfl (Nat.le_of_ble_eq_true rfl) rfl rfl rfl rfl rfl rfl rfl rfl rfl ?_ | refine aops_pure tabOk rfl rfl (Nat.le_of_ble_eq_true rfl) rfl ?_) | (refine awp_one ?_;  first | refine awp_sreg ?_ | refine awp_ret ?_))
  all_goals (refine aexit_eq (by first | exact .inl rfl | exact .inr rfl) (results_1 rfl (resOk_tmp rfl)) rfl ?_; rfl)
def intT : Tree := .node 111 0 emptyB emptyB []
theorem ex20_where : whereP (knownT 1 (varT 0)) ⟨#[116]⟩ intT = (knownT 0 intT, 0) := by decide +kernel
set_option maxHeartbeats 4000000 in
set_option maxRecDepth 10000 in
theorem works20_a : ACalls Tryd.prog 8 [] [] (.imm (.lit (.bool true))) [] := by
  have c1 := known_a 1 (varT 0) rfl
  have c2 := known_a 0 intT rfl
  have c3 := Where_a (knownT 1 (varT 0)) ⟨#[116]⟩ intT (by decide) (by decide) (by decide) (by decide)
  rw [ex20_where] at c3
  have c4 := rSame_a (knownT 0 intT) (knownT 0 intT) (.inr rfl) (.inr rfl) (by decide) (by decide)
  rw [(sameP_iff _ _).2 rfl] at c4
  dsimp only at c3
  generalize (knownT 1 (varT 0)).iv = K1 at *
  generalize (knownT 0 intT).iv = K0 at *
  unfold varT intT at *
  refine acalls_plain Tryd.func8 rfl rfl (Nat.le_of_ble_eq_true rfl) rfl ?_
  repeat' (first | refine aops_nil ?_ | (refine aops_one ?_;  first | refine aops_quiet tabOk rfl rfl rfl (Nat.le_of_ble_eq_true rfl) rfl ?_ | (refine aops_cmp rfl rfl rfl (Nat.le_of_ble_eq_true rfl) rfl rfl rfl (fun hq => ?_) (fun hq => ?_) <;> (first | (simp only [decide_eq_true_eq, decide_eq_false_iff_not, beq_iff_eq, beq_eq_false_iff_ne, bne_iff_ne, bne_eq_false_iff_eq, Bool.not_eq_true', Bool.not_eq_false'] at hq; first | (exfalso; omega) | skip) | skip)) | refine aops_call rfl rfl (Nat.le_of_ble_eq_true rfl) rfl rfl rfl rfl (c1) ?_ | refine aops_call rfl rfl (Nat.le_of_ble_eq_true rfl) rfl rfl rfl rfl (c2) ?_ | refine aops_call rfl rfl (Nat.le_of_ble_eq_true rfl) rfl rfl rfl rfl (c3) ?_ | refine aops_call rfl rfl (Nat.le_of_ble_eq_true rfl) rfl rfl rfl rfl (c4) ?_ | refine aops_pure tabOk rfl rfl (Nat.le_of_ble_eq_true rfl) rfl ?_) | (refine awp_one ?_;  first | refine awp_sreg ?_ | refine awp_ret ?_))
  all_goals first
    | exact aexit_plain (by first | exact .inl rfl | exact .inr rfl) (results_1 rfl (resOk_tmp rfl)) rfl
    | exact absurd rfl (by assumption)
    | (exfalso; omega)
theorem min_natW (n K : Nat) : (if (K : Int) < (n : Int) then (K : Int) else (n : Int)) = ((min n K : Nat) : Int) := by split <;> omega
def few20 (s : ByteArray) : ByteArray := s.extract 0 (min s.size 140)
theorem few20_size (s : ByteArray) : (few20 s).size ≤ 140 := by unfold few20; rw [ByteArray.size_extract]; omega
set_option maxHeartbeats 4000000 in
set_option maxRecDepth 10000 in
theorem few20_a (s : ByteArray) : ACalls Tryd.prog 6 [.imm (.lit (.string s))] [] (.imm (.lit (.string (few20 s)))) [] := by
  refine acalls_plain Tryd.func6 rfl rfl (Nat.le_of_ble_eq_true rfl) rfl ?_
  repeat' (first | refine aops_nil ?_ | (refine aops_one ?_;  first | refine aops_quiet tabOk rfl rfl rfl (Nat.le_of_ble_eq_true rfl) rfl ?_ | refine aops_min rfl rfl rfl (Nat.le_of_ble_eq_true rfl) rfl rfl (min_natW s.size 140) ?_ | refine aops_cut tabOk rfl rfl rfl (Nat.le_of_ble_eq_true rfl) rfl rfl rfl rfl (by omega) (by omega) rfl ?_ | refine aops_pure tabOk rfl rfl (Nat.le_of_ble_eq_true rfl) rfl ?_) | (refine awp_one ?_;  first | refine awp_sreg ?_ | refine awp_ret ?_))
  exact aexit_plain (by first | exact .inl rfl | exact .inr rfl) (results_1 rfl (resOk_tmp rfl)) rfl
theorem solveP_bad {n : Tree} {i : Int} {c : Tree} (h : (solveP n i c).2 ≠ 0) : (solveP n i c).1 = .nil := by
  unfold solveP at h ⊢
  split
  · rfl
  · rename_i h1
    rw [if_neg h1] at h
    split
    · rfl
    · rename_i h2
      rw [if_neg h2] at h
      split
      · rfl
      · rename_i h3
        rw [if_neg h3] at h
        unfold solve1 at h ⊢
        split
        · rfl
        · rename_i h4
          rw [if_neg h4] at h
          split
          · rfl
          · rename_i h5
            rw [if_neg h5] at h
            unfold solve2 at h ⊢
            split
            · rfl
            · rename_i h6
              rw [if_neg h6] at h
              unfold solve3 at h ⊢
              split
              · rfl
              · rename_i h7
                rw [if_neg h7] at h
                split
                · rfl
                · rename_i h8; rw [if_neg h8] at h; exact absurd rfl h
theorem whereP_bad {n : Tree} {long : ByteArray} {c : Tree} (h : (whereP n long c).2 ≠ 0) : (whereP n long c).1 = .nil := by
  unfold whereP at h ⊢
  split
  · rfl
  · rename_i h1
    rw [if_neg h1] at h
    split
    · rfl
    · rename_i h2
      rw [if_neg h2] at h
      split
      · rfl
      · rename_i h3
        rw [if_neg h3] at h
        unfold where1 at h ⊢
        split
        · rfl
        · rename_i h4
          rw [if_neg h4] at h
          split
          · rfl
          · rename_i h5
            rw [if_neg h5] at h
            split
            · rename_i h6; rw [if_pos h6] at h; exact solveP_bad h
            · rename_i h6
              rw [if_neg h6] at h
              split
              · rename_i h7; rw [if_pos h7] at h; exact absurd rfl h
              · rfl
end Go.Proofs.YtdajnmffoopcaaaDoor.Ab
namespace Go.Proofs.YtdajnmffoopcaaaDoor.Ab
set_option linter.unusedVariables false
set_option linter.unusedSimpArgs false
open Go.RowKit Go.Proofs.YtdajnmffoopcaaaDoor.RP
attribute [local irreducible] AWP AOps AExit AThen ABlock ANoGoto FeetOk
set_option maxHeartbeats 16000000 in
set_option maxRecDepth 10000 in
theorem WheresStands_a (l m : List CellD) (hl : ∀ c ∈ l, c.f = false) (hm : ∀ c ∈ m, c.f = false) (a : ByteArray) : ACalls Tryd.prog 3 [.imm (.agg [.sl false l.length (cellIVs l)]), .imm (.lit (.string a)), .imm (.agg [.sl false m.length (cellIVs m)])] [] (.imm (.lit (.bool true))) [] := by
  obtain ⟨x, x1, _, x3, d1⟩ := few10_s l hl
  obtain ⟨y, y1, _, y3, d2⟩ := few10_s m hm
  have c0 := few20_a a
  have hL := few20_size a
  generalize few20 a = L at *
  have hxy : x.size * y.size ≤ 60 * 60 := Nat.mul_le_mul x1 y1
  have c1 := Where_a x L y (by omega) (by omega) (by omega) (by omega)
  by_cases h : (whereP x L y).2 = 0
  · obtain ⟨N, s, ex, w1, w2, n0, n1, ws, ww, wz, _⟩ := where_inv h
    obtain ⟨N', s', z, e1, e2, e3, e4, e5, e6, e7, e8, e9, e10, e11, e12⟩ := where_stands x y L (by omega) (by omega) h
    rw [h, e1] at c1
    have hwex : (exT N' s').whole = true := by
      show Tree.wholes [s'] = true
      rw [Tree.wholes, e6]; rfl
    have hzex : (exT N' s').size = s'.size + 1 := by unfold exT; simp only [Tree.size, Tree.sizes]; omega
    have c2 := At_a s' ⟨#[116]⟩ L (by omega) (by decide) (by omega)
    rw [e8] at c2
    have c3 := Shift_a y N' 0 (by omega)
    rw [e9] at c3
    have hq : (exT N' s').size * y.size ≤ 10001 * 60 := Nat.mul_le_mul (by omega) y1
    have c4 := Where_a (exT N' s') L y (by omega) (by omega) (by omega) (by omega)
    rw [e12] at c4
    obtain ⟨zw, zz, _⟩ := checkP_whole e10
    have s1 := Same_a z z (.inr zw) (.inr zw) (by omega) (by omega)
    rw [(sameP_iff _ _).2 rfl] at s1
    have s2 := Same_a (exT N' s') (exT N' s') (.inr hwex) (.inr hwex) (by omega) (by omega)
    rw [(sameP_iff _ _).2 rfl] at s2
    subst ex
    have en : (exT N s).num = N := rfl
    rw [en] at e2 e3
    clear h w1 w2 ws ww wz e1 e4 e5 e6 e7 e8 e9 e10 e11 e12 hwex hzex hq zw zz hxy x1 y1 x3 y3
    unfold exT at *
    dsimp only at *
    refine acalls_plain Tryd.func3 rfl rfl (Nat.le_of_ble_eq_true rfl) rfl ?_
    repeat' (first | refine aops_nil ?_ | (refine aops_one ?_;  first | refine aops_quiet tabOk rfl rfl rfl (Nat.le_of_ble_eq_true rfl) rfl ?_ | refine aops_skip rfl rfl (Nat.le_of_ble_eq_true rfl) ?_ | (refine aops_cmp rfl rfl rfl (Nat.le_of_ble_eq_true rfl) rfl rfl rfl (fun hq => ?_) (fun hq => ?_) <;> (first | (simp only [decide_eq_true_eq, decide_eq_false_iff_not, beq_iff_eq, beq_eq_false_iff_ne, bne_iff_ne, bne_eq_false_iff_eq, Bool.not_eq_true', Bool.not_eq_false'] at hq; first | (exfalso; omega) | skip) | skip)) | refine aops_call rfl rfl (Nat.le_of_ble_eq_true rfl) rfl rfl rfl rfl (d1) ?_ | refine aops_call rfl rfl (Nat.le_of_ble_eq_true rfl) rfl rfl rfl rfl (d2) ?_ | refine aops_call rfl rfl (Nat.le_of_ble_eq_true rfl) rfl rfl rfl rfl (c0) ?_ | refine aops_call rfl rfl (Nat.le_of_ble_eq_true rfl) rfl rfl rfl rfl (c1) ?_ | refine aops_call rfl rfl (Nat.le_of_ble_eq_true rfl) rfl rfl rfl rfl (c2) ?_ | refine aops_call rfl rfl (Nat.le_of_ble_eq_true rfl) rfl rfl rfl rfl (c3) ?_ | refine aops_call rfl rfl (Nat.le_of_ble_eq_true rfl) rfl rfl rfl rfl (c4) ?_ | refine aops_call rfl rfl (Nat.le_of_ble_eq_true rfl) rfl rfl rfl rfl (s1) ?_ | refine aops_call rfl rfl (Nat.le_of_ble_eq_true rfl) rfl rfl rfl rfl (s2) ?_ | refine aops_call rfl rfl (Nat.le_of_ble_eq_true rfl) rfl rfl rfl rfl (works20_a) ?_ | refine aops_sub rfl rfl rfl (Nat.le_of_ble_eq_true rfl) rfl rfl rfl (by omega) (by omega) ?_ | refine aops_pure tabOk rfl rfl (Nat.le_of_ble_eq_true rfl) rfl ?_ | refine aops_index0 tabOk rfl rfl rfl (Nat.le_of_ble_eq_true rfl) rfl rfl rfl rfl (by first | rfl | omega) (by first | omega | simp) ?_) | (refine awp_one ?_;  first | refine awp_sreg ?_ | refine awp_seq ?_ | refine awp_ret ?_ | refine awp_skip ?_ | refine awp_cond (b := true) rfl (fun _ => ?_) (fun h => Bool.noConfusion h) | refine awp_cond (b := false) rfl (fun h => Bool.noConfusion h) (fun _ => ?_) | refine awp_region_draw mixed (by kernel_rfl) ?_) | (refine then_one ?_;  first | refine q_then ?_ | refine q_then_ret ?_) | refine feet_one (feetOk_of (by kernel_rfl)) ?_)
    all_goals first
      | exact aexit_plain (by first | exact .inl rfl | exact .inr rfl) (results_1 rfl (resOk_tmp rfl)) rfl
      | exact absurd rfl (by assumption)
      | (exfalso; omega)
  · rw [whereP_bad h] at c1
    generalize (whereP x L y).2 = E at *
    refine acalls_plain Tryd.func3 rfl rfl (Nat.le_of_ble_eq_true rfl) rfl ?_
    repeat' (first | refine aops_nil ?_ | (refine aops_one ?_;  first | refine aops_quiet tabOk rfl rfl rfl (Nat.le_of_ble_eq_true rfl) rfl ?_ | (refine aops_cmp rfl rfl rfl (Nat.le_of_ble_eq_true rfl) rfl rfl rfl (fun hq => ?_) (fun hq => ?_) <;> (first | (simp only [decide_eq_true_eq, decide_eq_false_iff_not, beq_iff_eq, beq_eq_false_iff_ne, bne_iff_ne, bne_eq_false_iff_eq, Bool.not_eq_true', Bool.not_eq_false'] at hq; first | (exfalso; omega) | skip) | skip)) | refine aops_call rfl rfl (Nat.le_of_ble_eq_true rfl) rfl rfl rfl rfl (d1) ?_ | refine aops_call rfl rfl (Nat.le_of_ble_eq_true rfl) rfl rfl rfl rfl (d2) ?_ | refine aops_call rfl rfl (Nat.le_of_ble_eq_true rfl) rfl rfl rfl rfl (c0) ?_ | refine aops_call rfl rfl (Nat.le_of_ble_eq_true rfl) rfl rfl rfl rfl (c1) ?_ | refine aops_call rfl rfl (Nat.le_of_ble_eq_true rfl) rfl rfl rfl rfl (works20_a) ?_ | refine aops_pure tabOk rfl rfl (Nat.le_of_ble_eq_true rfl) rfl ?_) | (refine awp_one ?_;  first | refine awp_sreg ?_ | refine awp_seq ?_ | refine awp_ret ?_ | refine awp_cond (b := true) rfl (fun _ => ?_) (fun h => Bool.noConfusion h) | refine awp_region_draw mixed (by kernel_rfl) ?_) | (refine then_one ?_;  first | refine q_then ?_ | refine q_then_ret ?_) | refine feet_one (feetOk_of (by kernel_rfl)) ?_)
    all_goals first
      | exact aexit_plain (by first | exact .inl rfl | exact .inr rfl) (results_1 rfl (resOk_tmp rfl)) rfl
      | exact absurd (by assumption) h
      | exact absurd rfl (by assumption)
      | (exfalso; omega)
theorem WheresStands_law (xs : List IV) (h : FitsAll [tyTree, .string, tyTree] xs) : ACalls Tryd.prog 3 (xs.map .imm) [] (.imm (.lit (.bool true))) [] := by
  cases h with
  | cons h1 h =>
    cases h with
    | cons h2 h =>
      cases h with
      | cons h3 h =>
        cases h
        obtain ⟨l, rfl, hl⟩ := fits_tree h1
        obtain ⟨m, rfl, hm⟩ := fits_tree h3
        cases h2 with
        | string a ha => exact WheresStands_a l m hl hm a
end Go.Proofs.YtdajnmffoopcaaaDoor.Ab
namespace Go.Proofs.YtdajnmffoopcaaaDoor.Ab
set_option linter.unusedVariables false
set_option linter.unusedSimpArgs false
open Go.Proofs.YtdajnmffoopcaaaDoor.RP
theorem subst_free (i own : Int) (B : Tree) (z : Int) (t : Tree) : ∀ d, okVars t = true → cntP i t d = 0 → walkS (substV i own B) t d (z, 0) = (mapV (shG (-1) i) t d, (z, 0)) := by
  induction t using Tree.ind with
  | h1 => intro d h; simp [okVars] at h
  | h2 k n a b kids ih =>
    intro d hv hc
    by_cases hk : k = 110
    · obtain ⟨_, _, rfl, rfl, rfl⟩ := okVars_var hk hv
      subst hk
      rw [walkS_var, mapV_var]
      rw [cntP] at hc
      have hne : ¬ (d ≤ n ∧ n - d = i) := fun h => by rw [if_pos ⟨rfl, h⟩] at hc; omega
      unfold substV shG
      by_cases h1 : n < d ∨ n - d < i
      · rw [if_pos (.inr h1), if_pos h1]
      · rw [if_neg (by intro h; rcases h with h | h; exact h rfl; exact h1 h), if_pos (by omega), if_neg h1]
        rfl
    · have hvs := okVars_kids hk hv
      rw [cntP, if_neg fun h1 => hk h1.1, Nat.zero_add] at hc
      rw [walkS_any _ _ _ _ kids hk, mapV_node _ _ hk]
      have key : ∀ l : List Tree, (∀ t ∈ l, t ∈ kids) → cntPs i l (d + bindsP k) = 0 → walkSs (substV i own B) l (d + bindsP k) (z, 0) = (l.map fun t => mapV (shG (-1) i) t (d + bindsP k), (z, 0)) := by
        intro l
        induction l with
        | nil => intro _ _; rw [walkSs]; rfl
        | cons t ts ih2 =>
          intro hm hz
          rw [cntPs] at hz
          rw [walkSs, ih t (hm t (by simp)) _ (hvs t (hm t (by simp))) (by omega)]
          dsimp only
          rw [ih2 (fun t' h' => hm t' (by simp [h'])) (by omega)]
          rfl
      rw [key kids (fun _ h => h) hc]
theorem ssubC_free {i : Int} (h0 : 0 ≤ i) (h1 : i ≤ 65536) {B Y : Tree} (hb : checkP isConP B = 0) (hy : checkP isConP Y = 0) (ho : occP Y i = false) (h : (ssubC i B Y 0).2 = 0) : (ssubC i B Y 0).1 = mapV (shG (-1) i) Y 0 := by
  obtain ⟨_, _, hcon⟩ := checkP_whole hy
  have hc : cntP i Y 0 = 0 := by
    unfold occP at ho
    rw [decide_eq_true hy, Bool.true_and, decide_eq_false_iff_not] at ho
    by_cases hz : cntP i Y 0 = 0
    · exact hz
    · exact absurd ⟨h0, by omega⟩ ho
  unfold ssubC at h ⊢
  rw [if_neg (by omega), shift_zero hb, if_neg (by simp), Int.add_zero] at h ⊢
  dsimp only at h ⊢
  unfold substP at h ⊢
  rw [if_neg (by simpa using hy), if_neg (by simpa using hb), if_neg (by omega), subst_free i B.size B 0 Y 0 (okVars_con Y hcon) hc] at h ⊢
  split at h
  · cases h
  · rename_i hq; rw [if_neg hq]
/-- Walks that keep sizes keep what is small. -/
theorem small_walk (C : Tree → Int → Tree × Int) (hC : ∀ c, checkP isConP c = 0 → c.size ≤ 40000 → (C c 0).2 = 0 → checkP isConP (C c 0).1 = 0 ∧ (C c 0).1.size = c.size) (s : Tree) : isSigP s = true → s.whole = true → s.size ≤ 40000 → (swalkP C s 0).2 = 0 → (swalkP smallC (swalkP C s 0).1 0).2 = (swalkP smallC s 0).2 := by
  induction s using Tree.sind with
  | h s ih =>
    intro hs hw hsz h0
    obtain ⟨k, n, a, b, kids, rfl⟩ := whole_node hw
    have two : ∀ (k n : Int) (a b : ByteArray) (l : List Tree), ¬ k < 160 → sbindsP k n = 0 → (swalkP smallC (.node k n a b l) 0).2 = (swalkPs smallC l 0).2 := fun k n a b l hk hsb => by
      rw [swalkP, if_neg hk, hsb, Int.add_zero]
      by_cases hq : (swalkPs smallC l 0).2 = 0
      · rw [if_neg (by simpa using hq), hq]
      · rw [if_pos hq]
    have hk160 : ¬ k < 160 := by rcases sig_kids hs with ⟨h1, _⟩ | ⟨h1, _⟩ <;> omega
    have hsb : sbindsP k n = 0 := sbinds_0 (by rcases sig_kids hs with ⟨h1, _⟩ | ⟨h1, _⟩ <;> omega)
    obtain ⟨g1, g2⟩ := swalkP_node hk160 h0
    rw [hsb, Int.add_zero] at g1 g2
    rw [g2, two _ _ _ _ _ hk160 hsb, two _ _ _ _ _ hk160 hsb]
    have el : ∀ f ∈ kids, (swalkP smallC (swalkP C f 0).1 0).2 = (swalkP smallC f 0).2 := fun f hm => by
      have hz := size_kid (k := k) (n := n) (a := a) (b := b) hm
      have hwf := wholes_mem hw hm
      have hf0 := g1 f hm
      rcases sig_kids hs with ⟨_, c, rfl, hc⟩ | ⟨rfl, hf, _⟩
      · obtain rfl := List.mem_singleton.1 hm
        rw [swalkP_con hc] at hf0 ⊢
        obtain ⟨q1, q2⟩ := hC f hc (by omega) hf0
        rw [swalkP_con q1, swalkP_con hc]
        unfold smallC
        rw [q2]
        split <;> rfl
      · obtain ⟨n', a', b', c, rfl, hcs⟩ := okSField_form (hf f hm)
        have hz2 := size_kid (k := 163) (n := n') (a := a') (b := b') (kids := [c]) (t := c) (by simp)
        have hsf : sbindsP 163 n' = 0 := sbinds_0 (by decide)
        obtain ⟨j1, j2⟩ := swalkP_node (by decide) hf0
        rw [hsf, Int.add_zero] at j1 j2
        have := ih c (by omega) hcs (wholes_mem hwf (by simp)) (by omega) (j1 c (by simp))
        rw [j2, two _ _ _ _ _ (by decide) hsf, two _ _ _ _ _ (by decide) hsf]
        simp only [List.map_cons, List.map_nil]
        rw [swalkPs, swalkPs, swalkPs, swalkPs, this]
        dsimp only
        split <;> rfl
    have key : ∀ l : List Tree, (∀ f ∈ l, f ∈ kids) → (swalkPs smallC (l.map fun t => (swalkP C t 0).1) 0).2 = (swalkPs smallC l 0).2 := by
      intro l
      induction l with
      | nil => intro _; rfl
      | cons f fs ih2 =>
        intro hm
        have ih2 := ih2 fun f' h' => hm f' (by simp [h'])
        rw [List.map_cons, swalkPs, swalkPs, el f (hm f (by simp)), ih2]
        split
        · rfl
        · split <;> rfl
    exact key kids fun _ h => h
/-- A variable in another one's place is a rule of variables. -/
def pvG (i j : Int) (n d : Int) : Int := if n < d ∨ n - d < i then n else if n - d > i then n - 1 else j + d
theorem put_var (i j : Int) (hi : 0 ≤ i) (hj0 : 0 ≤ j) (hj : j ≤ 10000) (t : Tree) : ∀ (d : Int), okVars t = true → 0 ≤ d → d + t.size ≤ 50000 → walkS (putV i (varT j)) t d true = (mapV (pvG i j) t d, true) := by
  induction t using Tree.ind with
  | h1 => intro d h; simp [okVars] at h
  | h2 k n a b kids ih =>
    intro d hv hd hz
    by_cases hk : k = 110
    · obtain ⟨_, _, rfl, rfl, rfl⟩ := okVars_var hk hv
      subst hk
      rw [walkS_var, mapV_var]
      simp only [Tree.size, Tree.sizes] at hz
      unfold putV pvG
      by_cases h1 : n < d ∨ n - d < i
      · rw [if_pos h1, if_pos h1]
      · rw [if_neg h1, if_neg h1]
        by_cases h2 : n - d > i
        · rw [if_pos h2, if_pos h2]
        · have e : walkS (shiftV d 0) (varT j) 0 true = (varT (j + d), true) := by
            unfold varT
            rw [walkS_var]
            unfold shiftV
            rw [if_neg (by omega), if_pos ⟨rfl, by omega, by omega⟩]
            rfl
          rw [if_neg h2, if_neg h2, e, if_pos ⟨rfl, rfl⟩]
    · have hvs := okVars_kids hk hv
      have hb := bindsP_le k
      rw [walkS_any _ _ _ _ kids hk, mapV_node _ _ hk]
      simp only [Tree.size] at hz
      have key : ∀ l : List Tree, (∀ t ∈ l, t ∈ kids) → walkSs (putV i (varT j)) l (d + bindsP k) true = (l.map fun t => mapV (pvG i j) t (d + bindsP k), true) := by
        intro l
        induction l with
        | nil => intro _; rw [walkSs]; rfl
        | cons t ts ih2 =>
          intro hm
          have hzt := sizes_mem (hm t (by simp))
          rw [walkSs, ih t (hm t (by simp)) _ (hvs t (hm t (by simp))) (by omega) (by omega)]
          dsimp only
          rw [ih2 fun t' h' => hm t' (by simp [h'])]
          rfl
      rw [key kids fun _ h => h]
theorem ssubC_var_ok {i j : Int} (hi : 0 ≤ i) (hi1 : i ≤ 10000) (hj0 : 0 ≤ j) (hj : j ≤ 10000) {c : Tree} (hc : checkP isConP c = 0) (hz : c.size ≤ 40000) : (ssubC i (varT j) c 0).2 = 0 ∧ checkP isConP (ssubC i (varT j) c 0).1 = 0 ∧ (ssubC i (varT j) c 0).1.size = c.size := by
  have hvj := var_con hj0 (by omega : j ≤ 65536)
  obtain ⟨hw, hzc, hcon⟩ := checkP_whole hc
  have hv := okVars_con c hcon
  have hp := put_var i j hi hj0 hj c 0 hv (by omega) (by omega)
  have hcl := cntP_le i c 0
  unfold ssubC
  rw [if_neg (by omega), shift_zero hvj, if_neg (by simp), Int.add_zero]
  dsimp only
  rw [substP_ref c i (varT j) hc hvj hi, size_varT, hp, if_neg (by simp; omega)]
  have hsz := mapV_size (pvG i j) c 0 hv
  refine ⟨rfl, ?_, hsz⟩
  dsimp only
  rw [checkP_ok isConP _ (mapV_whole _ c 0 hw) (by omega), if_pos]
  exact con_bound (by omega) c hcon (by omega)
where
  con_bound {i j : Int} (hb : 0 ≤ j ∧ j ≤ 10000 ∧ 0 ≤ i) (c : Tree) (hcon : isConP c = true) (hz : c.size ≤ 40000) : isConP (mapV (pvG i j) c 0) = true := by
    have key : ∀ t : Tree, okVars t = true → ∀ d : Int, 0 ≤ d → d + t.size ≤ 50000 → allV (fun n x => decide (0 ≤ x ∧ x ≤ 50000)) t d = true := by
      intro t
      induction t using Tree.ind with
      | h1 => intro h; simp [okVars] at h
      | h2 k n a b kids ih =>
        intro hv d hd hz
        by_cases hk : k = 110
        · subst hk
          rw [allV_var, decide_eq_true_eq]
          exact ⟨hd, by omega⟩
        · have hvs := okVars_kids hk hv
          have hbd := bindsP_le k
          simp only [Tree.size] at hz
          rw [allV_node _ _ hk, List.all_eq_true]
          intro t ht
          have hzt := sizes_mem ht
          exact ih t ht (hvs t ht) _ (by omega) (by omega)
    have hv := okVars_con c hcon
    refine mapV_con _ c 0 hcon (allV_imp _ _ c 0 hv (key c hv 0 (by omega) (by omega)) fun n x h1 h2 h3 h4 => ?_)
    rw [decide_eq_true_eq] at h4 ⊢
    unfold pvG
    split
    · omega
    · split <;> omega
/-- A walk that keeps constructors and sizes keeps signatures. -/
theorem sig_keep (C : Tree → Int → Tree × Int) (hC : ∀ c, checkP isConP c = 0 → c.size ≤ 40000 → (C c 0).2 = 0 ∧ checkP isConP (C c 0).1 = 0 ∧ (C c 0).1.size = c.size) (t : Tree) : isSigP t = true → t.whole = true → t.size ≤ 40000 → ∃ W, swalkP C t 0 = (W, 0) ∧ isSigP W = true ∧ W.whole = true ∧ W.size = t.size := by
  induction t using Tree.sind with
  | h t ih =>
    intro hs hw hz0
    obtain ⟨k, n, a, b', kids, rfl⟩ := whole_node hw
    rcases sig_kids hs with ⟨hk, c, rfl, hc⟩ | ⟨rfl, hf, hr⟩
    · have hk160 : ¬ k < 160 := by omega
      have hsb : sbindsP k n = 0 := sbinds_0 (by omega)
      have hsz : (Tree.node k n a b' [c]).size = c.size + 1 := by simp only [Tree.size, Tree.sizes]; omega
      obtain ⟨q1, q2, q3⟩ := hC c hc (by omega)
      refine ⟨.node k n a b' [(C c 0).1], ?_, ?_, ?_, ?_⟩
      · rw [swalkP_of hk160 (by intro u hu; rw [List.mem_singleton.1 hu, hsb, Int.add_zero, swalkP_con hc, q1]), hsb, Int.add_zero]
        simp only [List.map_cons, List.map_nil]
        rw [swalkP_con hc]
      · rw [isSigP, Bool.and_eq_true] at hs ⊢
        refine ⟨hs.1, ?_⟩
        rw [if_pos hk]
        show (checkP isConP (C c 0).1 == 0) = true
        rw [q2]; rfl
      · show Tree.wholes [(C c 0).1] = true
        rw [Tree.wholes, (checkP_whole q2).1]; rfl
      · simp only [Tree.size, Tree.sizes, q3]
    · have hk160 : ¬ (162 : Int) < 160 := by decide
      have hsb : sbindsP 162 n = 0 := sbinds_0 (by decide)
      have key : ∀ f ∈ kids, ∃ n' a' b'' c mc, f = .node 163 n' a' b'' [c] ∧ swalkP C f 0 = (.node 163 n' a' b'' [mc], 0) ∧ isSigP mc = true ∧ mc.whole = true ∧ mc.size = c.size := fun f hm => by
        have hz := size_kid (k := 162) (n := n) (a := a) (b := b') hm
        have hwf := wholes_mem hw hm
        obtain ⟨n', a', b'', c, rfl, hcs⟩ := okSField_form (hf f hm)
        have hz2 := size_kid (k := 163) (n := n') (a := a') (b := b'') (kids := [c]) (t := c) (by simp)
        have hsf : sbindsP 163 n' = 0 := sbinds_0 (by decide)
        obtain ⟨mc, e, g1, g2, g3⟩ := ih c (by omega) hcs (wholes_mem hwf (by simp)) (by omega)
        refine ⟨n', a', b'', c, mc, rfl, ?_, g1, g2, g3⟩
        rw [swalkP_of (by decide) (by intro u hu; rw [List.mem_singleton.1 hu, hsf, Int.add_zero, e]), hsf, Int.add_zero]
        simp only [List.map_cons, List.map_nil]
        rw [e]
      have hname : ∀ f ∈ kids, ((swalkP C f 0).1).name = f.name := fun f hm => by
        obtain ⟨n', a', b'', c, mc, rfl, e, _⟩ := key f hm
        rw [e]; rfl
      refine ⟨.node 162 n a b' (kids.map fun t => (swalkP C t 0).1), ?_, ?_, ?_, ?_⟩
      · rw [swalkP_of hk160 (by intro u hu; rw [hsb, Int.add_zero]; obtain ⟨n', a', b'', c, mc, e0, e, _⟩ := key u hu; rw [e]), hsb, Int.add_zero]
      · rw [isSigP, Bool.and_eq_true] at hs ⊢
        refine ⟨hs.1, ?_⟩
        rw [if_neg (by decide), if_pos rfl, sfieldPs_all, rising_map _ _ hname, hr, Bool.and_true, List.all_eq_true]
        intro u hu
        obtain ⟨f, hm, rfl⟩ := List.mem_map.1 hu
        have hok := hf f hm
        obtain ⟨n', a', b'', c, mc, rfl, e, hmc, _⟩ := key f hm
        rw [e]
        simp only [okSField, sigOne, Bool.and_eq_true] at hok ⊢
        exact ⟨hok.1, hmc⟩
      · refine wholes_of fun u hu => ?_
        obtain ⟨f, hm, rfl⟩ := List.mem_map.1 hu
        obtain ⟨n', a', b'', c, mc, rfl, e, _, hmw, _⟩ := key f hm
        rw [e]
        show Tree.wholes [mc] = true
        rw [Tree.wholes, hmw]; rfl
      · have hsz : ∀ l : List Tree, (∀ f ∈ l, f ∈ kids) → Tree.sizes (l.map fun t => (swalkP C t 0).1) = Tree.sizes l := by
          intro l
          induction l with
          | nil => intro _; rfl
          | cons f fs ih2 =>
            intro hm
            obtain ⟨n', a', b'', c, mc, e0, e, _, _, hms⟩ := key f (hm f (by simp))
            rw [List.map_cons, Tree.sizes, Tree.sizes, ih2 fun f' h' => hm f' (by simp [h']), e, e0]
            simp only [Tree.size, Tree.sizes, hms]
        rw [Tree.size, Tree.size, hsz kids fun _ h => h]
theorem sig_check {s : Tree} (hs : isSigP s = true) (hw : s.whole = true) (hz : s.size ≤ 65536) : checkP sformP s = 0 := by
  rw [checkP_ok sformP s hw hz, if_pos (by unfold sformP; rw [hs]; rfl)]
/-- One bound variable in the place of another: only what is not small is refused. -/
theorem solve_vars {N : Int} {s : Tree} (hN : N ≤ 8192) (hs : isSigP s = true) (hw : s.whole = true) (hz : s.size ≤ 1000) {i j : Int} (hi : 0 ≤ i) (hi2 : i < N) (hj : 0 ≤ j) (hj2 : j < N) (hij : i ≠ j) : (solve1 N s i (varT j)).2 = 0 ↔ (swalkP smallC s 0).2 = 0 := by
  have hvj := var_con hj (by omega : j ≤ 65536)
  have ho : occP (varT j) i = false := by
    unfold occP varT
    rw [cntP, cntPs, if_neg (by omega)]
    simp
  have hsh : shiftP (varT j) (-1) i = (varT (shG (-1) i j 0), 0) := by
    rw [shiftP_sh _ hvj (-1) i hi]
    unfold varT
    rw [allV_var, mapV_var, if_pos]
    · rfl
    · unfold okG
      rw [decide_eq_true_eq]
      omega
  obtain ⟨j', hj'⟩ : ∃ j', shG (-1) i j 0 = j' := ⟨_, rfl⟩
  have hj0 : 0 ≤ j' ∧ j' ≤ 8192 := by
    rw [← hj']
    unfold shG
    split <;> omega
  rw [hj'] at hsh
  have hC := fun c hc hz => ssubC_var_ok hi (by omega : i ≤ 10000) hj0.1 (by omega : j' ≤ 10000) (c := c) hc hz
  obtain ⟨W, e, w1, w2, w3⟩ := sig_keep (ssubC i (varT j')) hC s hs hw (by omega)
  have hsub : ssubstP s i (varT j') = (W, 0) := by
    unfold ssubstP
    rw [if_neg (by simpa using sig_check hs hw (by omega)), if_neg (by simpa using var_con hj0.1 (by omega : j' ≤ 65536)), if_neg (by omega), e]
    unfold sizedP
    dsimp only
    rw [if_neg (by simp), wholeP_ok W w2 65536 (by omega), if_neg (by simp)]
  have hsm : (swalkP smallC W 0).2 = (swalkP smallC s 0).2 := by
    have := small_walk (ssubC i (varT j')) (fun c hc hcz _ => (hC c hc hcz).2) s hs hw (by omega) (by rw [e])
    rw [e] at this
    exact this
  have e2 : solve1 N s i (varT j) = if ssmallP W ≠ 0 then (.nil, ssmallP W) else (exT (N - 1) W, 0) := by
    unfold solve1
    rw [if_neg (by omega), ho, if_neg (by simp), hsh]
    unfold solve2
    rw [if_neg (by simp), hsub]
    unfold solve3
    rw [if_neg (by simp)]
  have e3 : ssmallP W = (swalkP smallC s 0).2 := by
    unfold ssmallP
    rw [if_neg (by simpa using sig_check w1 w2 (by omega)), hsm]
  rw [e2, e3]
  by_cases hq : (swalkP smallC s 0).2 = 0
  · rw [if_neg (by simpa using hq)]
    exact ⟨fun _ => hq, fun _ => rfl⟩
  · rw [if_pos hq]
end Go.Proofs.YtdajnmffoopcaaaDoor.Ab
namespace Go.Proofs.YtdajnmffoopcaaaDoor.Ab
set_option linter.unusedVariables false
set_option linter.unusedSimpArgs false
open Go.Proofs.YtdajnmffoopcaaaDoor.RP
theorem same_sym (X Y : Tree) : sameP X Y = sameP Y X := by
  by_cases h : X = Y
  · rw [h]
  · have h1 : sameP X Y = false := by
      cases q : sameP X Y with
      | false => rfl
      | true => exact absurd ((sameP_iff _ _).1 q) h
    have h2 : sameP Y X = false := by
      cases q : sameP Y X with
      | false => rfl
      | true => exact absurd ((sameP_iff _ _).1 q).symm h
    rw [h1, h2]
theorem share_ex {n : Tree} {a b : ByteArray} (h : (shareP n a b).2 = 0) : ∃ N s, n = exT N s ∧ checkP sformP (exT N s) = 0 ∧ 0 ≤ N ∧ N ≤ 8192 ∧ isSigP s = true ∧ s.whole = true ∧ s.size + 1 = n.size ∧ (atE s a).2 = 0 ∧ (atE s b).2 = 0 ∧
    ((sameP (atE s a).1 (atE s b).1 = true ∧ shareP n a b = (exT N s, 0)) ∨ (sameP (atE s a).1 (atE s b).1 = false ∧ boundP N (atE s a).1 = true ∧ shareP n a b = solveP (exT N s) (atE s a).1.num (atE s b).1) ∨
      (sameP (atE s a).1 (atE s b).1 = false ∧ boundP N (atE s a).1 = false ∧ boundP N (atE s b).1 = true ∧ shareP n a b = solveP (exT N s) (atE s b).1.num (atE s a).1)) := by
  by_cases h1 : checkP sformP n = 0
  · by_cases h3 : n.kind = 164
    · obtain ⟨N, s, rfl, n0, n1, hs, hw, hz⟩ := ex_of h1 h3
      have E : shareP (exT N s) a b = share1 (exT N s) (atE s a) (atE s b) := by
        unfold shareP
        rw [if_neg (by simpa using h1), if_neg (by simpa using h3)]
        rfl
      rw [E] at h
      unfold share1 at E h
      have en : (exT N s).num = N := rfl
      rw [en] at E h
      by_cases hX : (atE s a).2 = 0
      · rw [if_neg (by simpa using hX)] at E h
        by_cases hY : (atE s b).2 = 0
        · rw [if_neg (by simpa using hY)] at E h
          refine ⟨N, s, rfl, h1, n0, n1, hs, hw, hz, hX, hY, ?_⟩
          by_cases hsm : sameP (atE s a).1 (atE s b).1 = true
          · rw [if_pos hsm] at E
            exact .inl ⟨hsm, E⟩
          · rw [if_neg hsm] at E h
            have hsm : sameP (atE s a).1 (atE s b).1 = false := by simpa using hsm
            by_cases hb : boundP N (atE s a).1 = true
            · rw [if_pos hb] at E
              exact .inr (.inl ⟨hsm, hb, E⟩)
            · rw [if_neg hb] at E h
              by_cases hb2 : boundP N (atE s b).1 = true
              · rw [if_pos hb2] at E
                exact .inr (.inr ⟨hsm, by simpa using hb, hb2, E⟩)
              · rw [if_neg hb2] at h; cases h
        · rw [if_pos hY] at h; exact absurd h hY
      · rw [if_pos hX] at h; exact absurd h hX
    · unfold shareP at h
      rw [if_neg (by simpa using h1), if_pos h3] at h; cases h
  · unfold shareP at h
    rw [if_pos h1] at h; exact absurd h h1
theorem share_of {N : Int} {s : Tree} {a b : ByteArray} (h1 : checkP sformP (exT N s) = 0) (hX : (atE s a).2 = 0) (hY : (atE s b).2 = 0) : shareP (exT N s) a b = if sameP (atE s a).1 (atE s b).1 = true then (exT N s, 0) else if boundP N (atE s a).1 = true then solveP (exT N s) (atE s a).1.num (atE s b).1 else if boundP N (atE s b).1 = true then solveP (exT N s) (atE s b).1.num (atE s a).1 else (.nil, 12) := by
  unfold shareP
  rw [if_neg (by simpa using h1), if_neg (by show ¬ ((164 : Int) ≠ 164); simp)]
  show share1 (exT N s) (atE s a) (atE s b) = _
  unfold share1
  rw [if_neg (by simpa using hX), if_neg (by simpa using hY)]
  rfl
/-- What can be shared can be shared the other way round. -/
theorem share_sym {n : Tree} {a b : ByteArray} (hz0 : n.size ≤ 100) (h : (shareP n a b).2 = 0) : (shareP n b a).2 = 0 := by
  obtain ⟨N, s, rfl, h1, n0, n1, hs, hw, hz, hX, hY, hcase⟩ := share_ex h
  rw [share_of h1 hY hX, same_sym]
  obtain ⟨x0, _, _, _⟩ := atE_ok hX
  obtain ⟨y0, _, _, _⟩ := atE_ok hY
  rcases hcase with ⟨hsm, _⟩ | ⟨hsm, hb, E⟩ | ⟨hsm, hb, hb2, E⟩
  · rw [if_pos hsm]
  · rw [if_neg (by rw [hsm]; simp)]
    rw [E] at h
    by_cases hb2 : boundP N (atE s b).1 = true
    · rw [if_pos hb2]
      obtain ⟨i, ei, i0, i1, i2⟩ := bound_var x0 hb
      obtain ⟨j, ej, j0, j1, j2⟩ := bound_var y0 hb2
      rw [ei, ej] at h ⊢
      have e1 : (varT i).num = i := rfl
      have e2 : (varT j).num = j := rfl
      rw [e1, solveP_ex h1 (var_con j0 j1)] at h
      rw [e2, solveP_ex h1 (var_con i0 i1)]
      have hij : i ≠ j := fun e => by
        rw [ei, ej, e, (sameP_iff _ _).2 rfl] at hsm; cases hsm
      exact (solve_vars n1 hs hw (by omega) j0 j2 i0 i2 hij.symm).2 ((solve_vars n1 hs hw (by omega) i0 i2 j0 j2 hij).1 h)
    · rw [if_neg hb2, if_pos hb]; exact h
  · rw [if_neg (by rw [hsm]; simp), if_pos hb2]
    rw [E] at h; exact h
/-- What a solving leaves at both names. -/
theorem solve_both {N : Int} {s X Z : Tree} {ax az : ByteArray} (h1 : checkP sformP (exT N s) = 0) (n0 : 0 ≤ N) (n1 : N ≤ 8192) (hs : isSigP s = true) (hw : s.whole = true) (hz : s.size ≤ 100) (hX : atE s ax = (X, 0)) (hZ : atE s az = (Z, 0)) (hb : boundP N X = true) (h : (solveP (exT N s) X.num Z).2 = 0) :
    ∃ s' x, (solveP (exT N s) X.num Z).1 = exT (N - 1) s' ∧ 0 ≤ N - 1 ∧ isSigP s' = true ∧ s'.whole = true ∧ s'.size ≤ 10000 ∧ checkP isConP x = 0 ∧ atE s' ax = (x, 0) ∧ atE s' az = (x, 0) ∧ sAtP s' ⟨#[116]⟩ ax = (.node 161 0 emptyB emptyB [x], 0) ∧ sAtP s' ⟨#[116]⟩ az = (.node 161 0 emptyB emptyB [x], 0) := by
  have hX2 : (atE s ax).2 = 0 := by rw [hX]
  have hZ2 : (atE s az).2 = 0 := by rw [hZ]
  obtain ⟨x0, _, _, _⟩ := atE_ok hX2
  obtain ⟨z0, zs, _, _⟩ := atE_ok hZ2
  rw [hX] at x0
  rw [hZ] at z0 zs
  dsimp only at x0 z0 zs
  obtain ⟨i, rfl, i0, i1, i2⟩ := bound_var x0 hb
  have enum : (varT i).num = i := rfl
  rw [enum, solveP_ex h1 z0] at h ⊢
  obtain ⟨_, _, so, s1, s2, s3, s4⟩ := solve_inv h
  have hwk := sub_wk hs s2 s3
  obtain ⟨b1, b2, b3, b4⟩ := shift_ok z0 i0 s1
  rw [b2] at s2 s3 s4 hwk
  dsimp only at s2 s3 s4 hwk
  obtain ⟨g1, g2, g3, g4, g5, g6, g7⟩ := ssubst_inv s2
  obtain ⟨_, w2, w3, w4, w5, _⟩ := wk_atE hwk (by omega) g7 ax hX2
  rw [hX] at w3 w5
  dsimp only at w3 w5
  rw [ssubC_var i0 i1 b3] at w3 w5
  dsimp only at w3 w5
  obtain ⟨_, v2, v3, v4, v5, _⟩ := wk_atE hwk (by omega) g7 az hZ2
  rw [hZ] at v2 v3 v5
  dsimp only at v2 v3 v5
  rw [ssubC_free i0 i1 b3 z0 so v2] at v3 v5
  have hsz2 : (ssubstP s i (mapV (shG (-1) i) Z 0)).1.size ≤ 10000 := by
    rw [g5]
    have q1 := ssub_le i (mapV (shG (-1) i) Z 0) s g1 g2
    rw [b4] at q1
    have q3 : s.size * Z.size ≤ 100 * 100 := Nat.mul_le_mul hz (by omega)
    omega
  exact ⟨_, _, s4, by omega, hwk.sig', g6, hsz2, b3, w3, v3, Prod.ext w5 w4, Prod.ext v5 v4⟩
theorem share_ok {n : Tree} {a b : ByteArray} (hz0 : n.size ≤ 100) (h : (shareP n a b).2 = 0) :
    ∃ N' s' x, (shareP n a b).1 = exT N' s' ∧ s'.whole = true ∧ s'.size ≤ 10000 ∧ checkP isConP x = 0 ∧ sAtP s' ⟨#[116]⟩ a = (.node 161 0 emptyB emptyB [x], 0) ∧ sAtP s' ⟨#[116]⟩ b = (.node 161 0 emptyB emptyB [x], 0) ∧ atE s' a = (x, 0) ∧ atE s' b = (x, 0) ∧
      shareP (exT N' s') b a = (exT N' s', 0) := by
  obtain ⟨N, s, rfl, h1, n0, n1, hs, hw, hz, hX, hY, hcase⟩ := share_ex h
  have again : ∀ (N' : Int) (s' x : Tree), checkP sformP (exT N' s') = 0 → atE s' a = (x, 0) → atE s' b = (x, 0) → shareP (exT N' s') b a = (exT N' s', 0) := fun N' s' x hc ha hb => by
    rw [share_of hc (by rw [hb]) (by rw [ha]), ha, hb, if_pos ((sameP_iff _ _).2 rfl)]
  rcases hcase with ⟨hsm, E⟩ | ⟨hsm, hb, E⟩ | ⟨hsm, hb, hb2, E⟩
  · rw [E]
    obtain ⟨x0, _, x2, x3⟩ := atE_ok hX
    obtain ⟨y0, _, y2, y3⟩ := atE_ok hY
    have e := (sameP_iff _ _).1 hsm
    refine ⟨N, s, (atE s a).1, rfl, hw, by omega, x0, Prod.ext x3 x2, Prod.ext (by rw [y3, e]) y2, Prod.ext rfl hX, Prod.ext e.symm hY, ?_⟩
    exact again N s (atE s a).1 h1 (Prod.ext rfl hX) (Prod.ext e.symm hY)
  · rw [E] at h ⊢
    obtain ⟨s', x, q1, q2, q3, q4, q5, q6, q7, q8, q9, q10⟩ := solve_both h1 n0 n1 hs hw (by omega) (Prod.ext rfl hX) (Prod.ext rfl hY) hb h
    exact ⟨N - 1, s', x, q1, q4, q5, q6, q9, q10, q7, q8, again _ _ x (ex_check q2 (by omega) q3 q4 (by omega)) q7 q8⟩
  · rw [E] at h ⊢
    obtain ⟨s', x, q1, q2, q3, q4, q5, q6, q7, q8, q9, q10⟩ := solve_both h1 n0 n1 hs hw (by omega) (Prod.ext rfl hY) (Prod.ext rfl hX) hb2 h
    exact ⟨N - 1, s', x, q1, q4, q5, q6, q10, q9, q8, q7, again _ _ x (ex_check q2 (by omega) q3 q4 (by omega)) q8 q7⟩
end Go.Proofs.YtdajnmffoopcaaaDoor.Ab
namespace Go.Proofs.YtdajnmffoopcaaaDoor.Ab
set_option linter.unusedVariables false
set_option linter.unusedSimpArgs false
open Go.RowKit Go.Proofs.YtdajnmffoopcaaaDoor.RP
attribute [local irreducible] AWP AOps AExit AThen ABlock ANoGoto FeetOk
set_option maxHeartbeats 16000000 in
set_option maxRecDepth 10000 in
theorem Share_a (n : Tree) (a b : ByteArray) (hn : n.size ≤ 100000) (ha : a.size ≤ 100000) (hb : b.size ≤ 100000) (hm : sameP (atE (kid0 n) a).1 (atE (kid0 n) b).1 = true ∨ n.size * n.size ≤ 1000000) :
    ACalls Tryd.prog 12 [.imm n.iv, .imm (.lit (.string a)), .imm (.lit (.string b))] [] (.imm (.tup [(shareP n a b).1.iv, .lit (.int .i64 (shareP n a b).2)])) [] := by
  have c3 := abstract_a n (by omega)
  obtain ⟨Q, hQ⟩ : ∃ Q, shareP n a b = Q := ⟨_, rfl⟩
  rw [hQ]
  unfold shareP at hQ
  unfold abstractP at c3
  by_cases h1 : checkP sformP n = 0
  · rw [if_neg (by simpa using h1)] at hQ c3
    by_cases h3 : n.kind = 164
    · rw [if_neg (by simpa using h3)] at hQ c3
      obtain ⟨N, s, rfl, n0, n1, hs, hw, hz⟩ := ex_of h1 h3
      have hwn := (checkP_whole h1).1
      have ek : kid0 (exT N s) = s := rfl
      have en : (exT N s).num = N := rfl
      rw [ek] at hQ hm
      have c4 := at_a N s a (by omega) hw ha
      have c5 := at_a N s b (by omega) hw hb
      have hXok := @atE_ok s a
      have hYok := @atE_ok s b
      unfold share1 at hQ
      rw [en] at hQ
      generalize atE s a = X at *
      generalize atE s b = Y at *
      obtain ⟨X1, X2⟩ := X
      obtain ⟨Y1, Y2⟩ := Y
      dsimp only at hQ c4 c5 hXok hYok hm
      by_cases hX : X2 = 0
      · subst hX
        rw [if_neg (by simp)] at hQ
        obtain ⟨x0, xs, _, _⟩ := hXok rfl
        have hxw := (checkP_whole x0).1
        by_cases hY : Y2 = 0
        · subst hY
          rw [if_neg (by simp)] at hQ
          obtain ⟨y0, ys, _, _⟩ := hYok rfl
          have hyw := (checkP_whole y0).1
          have c6 := Same_a X1 Y1 (.inr hxw) (.inr hyw) (by omega) (by omega)
          by_cases hsm : sameP X1 Y1 = true
          · rw [if_pos hsm] at hQ
            rw [hsm] at c6
            subst hQ
            clear hXok hYok x0 y0 hxw hyw h1 h3 ek en hwn hsm hm hz hn xs ys
            unfold exT at *
            dsimp only at *
            refine acalls_plain Tryd.func12 rfl rfl (Nat.le_of_ble_eq_true rfl) rfl ?_
            repeat' (first | refine aops_nil ?_ | (refine aops_one ?_;  first | refine aops_quiet tabOk rfl rfl rfl (Nat.le_of_ble_eq_true rfl) rfl ?_ | (refine aops_cmp rfl rfl rfl (Nat.le_of_ble_eq_true rfl) rfl rfl rfl (fun hq => ?_) (fun hq => ?_) <;> (first | (simp only [decide_eq_true_eq, decide_eq_false_iff_not, beq_iff_eq, beq_eq_false_iff_ne, bne_iff_ne, bne_eq_false_iff_eq, Bool.not_eq_true', Bool.not_eq_false'] at hq; first | (exfalso; omega) | skip) | skip)) | refine aops_call rfl rfl (Nat.le_of_ble_eq_true rfl) rfl rfl rfl rfl (c3) ?_ | refine aops_call rfl rfl (Nat.le_of_ble_eq_true rfl) rfl rfl rfl rfl (c4) ?_ | refine aops_call rfl rfl (Nat.le_of_ble_eq_true rfl) rfl rfl rfl rfl (c5) ?_ | refine aops_call rfl rfl (Nat.le_of_ble_eq_true rfl) rfl rfl rfl rfl (c6) ?_) | (refine awp_one ?_;  first | refine awp_sreg ?_ | refine awp_seq ?_ | refine awp_block ?_ | refine awp_ret ?_ | refine awp_skip ?_ | refine awp_cond (b := true) rfl (fun _ => ?_) (fun h => Bool.noConfusion h) | refine awp_cond (b := false) rfl (fun h => Bool.noConfusion h) (fun _ => ?_)) | (refine then_one ?_;  first | refine q_then ?_ | refine q_then_ret ?_) | (refine block_one ?_;  first | refine q_block_ret ?_))
            all_goals first
              | exact absurd rfl (by assumption)
              | (exfalso; omega)
              | (refine aexit_eq (by first | exact .inl rfl | exact .inr rfl) (results_2 rfl (resOk_tmp rfl) (resOk_tmp rfl)) rfl ?_; rfl)
          · rw [if_neg hsm] at hQ
            have hsm : sameP X1 Y1 = false := by simpa using hsm
            rw [hsm] at c6
            have hm : (exT N s).size * (exT N s).size ≤ 1000000 := hm.resolve_left (by rw [hsm]; simp)
            have c7 := bound_a (exT N s) X1 hwn hxw
            rw [en] at c7
            have c8 := bound_a (exT N s) Y1 hwn hyw
            rw [en] at c8
            by_cases hbx : boundP N X1 = true
            · rw [if_pos hbx] at hQ
              rw [hbx] at c7
              obtain ⟨i, rfl, i0, i1, i2⟩ := bound_var x0 hbx
              have enum : (varT i).num = i := rfl
              rw [enum] at hQ
              have hmm : (exT N s).size * Y1.size ≤ (exT N s).size * (exT N s).size := Nat.mul_le_mul_left _ (by omega)
              have c9 := Solve_a (exT N s) i Y1 (by omega) (by omega) (by omega)
              rw [hQ] at c9
              clear hQ hXok hYok x0 y0 hxw hyw h1 h3 ek en hwn hsm hm hz hn xs ys hmm hbx c8
              unfold exT varT at *
              obtain ⟨Q1, Q2⟩ := Q
              dsimp only at *
              refine acalls_plain Tryd.func12 rfl rfl (Nat.le_of_ble_eq_true rfl) rfl ?_
              repeat' (first | refine aops_nil ?_ | (refine aops_one ?_;  first | refine aops_quiet tabOk rfl rfl rfl (Nat.le_of_ble_eq_true rfl) rfl ?_ | (refine aops_cmp rfl rfl rfl (Nat.le_of_ble_eq_true rfl) rfl rfl rfl (fun hq => ?_) (fun hq => ?_) <;> (first | (simp only [decide_eq_true_eq, decide_eq_false_iff_not, beq_iff_eq, beq_eq_false_iff_ne, bne_iff_ne, bne_eq_false_iff_eq, Bool.not_eq_true', Bool.not_eq_false'] at hq; first | (exfalso; omega) | skip) | skip)) | refine aops_call rfl rfl (Nat.le_of_ble_eq_true rfl) rfl rfl rfl rfl (c3) ?_ | refine aops_call rfl rfl (Nat.le_of_ble_eq_true rfl) rfl rfl rfl rfl (c4) ?_ | refine aops_call rfl rfl (Nat.le_of_ble_eq_true rfl) rfl rfl rfl rfl (c5) ?_ | refine aops_call rfl rfl (Nat.le_of_ble_eq_true rfl) rfl rfl rfl rfl (c6) ?_ | refine aops_call rfl rfl (Nat.le_of_ble_eq_true rfl) rfl rfl rfl rfl (c7) ?_ | refine aops_call rfl rfl (Nat.le_of_ble_eq_true rfl) rfl rfl rfl rfl (c9) ?_) | (refine awp_one ?_;  first | refine awp_sreg ?_ | refine awp_seq ?_ | refine awp_block ?_ | refine awp_ret ?_ | refine awp_skip ?_ | refine awp_cond (b := true) rfl (fun _ => ?_) (fun h => Bool.noConfusion h) | refine awp_cond (b := false) rfl (fun h => Bool.noConfusion h) (fun _ => ?_)) | (refine then_one ?_;  first | refine q_then ?_ | refine q_then_ret ?_) | (refine block_one ?_;  first | refine q_block_ret ?_))
              all_goals first
                | exact absurd rfl (by assumption)
                | (exfalso; omega)
                | (refine aexit_eq (by first | exact .inl rfl | exact .inr rfl) (results_2 rfl (resOk_tmp rfl) (resOk_tmp rfl)) rfl ?_; rfl)
            · rw [if_neg hbx] at hQ
              have hbx : boundP N X1 = false := by simpa using hbx
              rw [hbx] at c7
              by_cases hby : boundP N Y1 = true
              · rw [if_pos hby] at hQ
                rw [hby] at c8
                obtain ⟨i, rfl, i0, i1, i2⟩ := bound_var y0 hby
                have enum : (varT i).num = i := rfl
                rw [enum] at hQ
                have hmm : (exT N s).size * X1.size ≤ (exT N s).size * (exT N s).size := Nat.mul_le_mul_left _ (by omega)
                have c9 := Solve_a (exT N s) i X1 (by omega) (by omega) (by omega)
                rw [hQ] at c9
                clear hQ hXok hYok x0 y0 hxw hyw h1 h3 ek en hwn hsm hm hz hn xs ys hmm hbx hby
                unfold exT varT at *
                obtain ⟨Q1, Q2⟩ := Q
                dsimp only at *
                refine acalls_plain Tryd.func12 rfl rfl (Nat.le_of_ble_eq_true rfl) rfl ?_
                repeat' (first | refine aops_nil ?_ | (refine aops_one ?_;  first | refine aops_quiet tabOk rfl rfl rfl (Nat.le_of_ble_eq_true rfl) rfl ?_ | (refine aops_cmp rfl rfl rfl (Nat.le_of_ble_eq_true rfl) rfl rfl rfl (fun hq => ?_) (fun hq => ?_) <;> (first | (simp only [decide_eq_true_eq, decide_eq_false_iff_not, beq_iff_eq, beq_eq_false_iff_ne, bne_iff_ne, bne_eq_false_iff_eq, Bool.not_eq_true', Bool.not_eq_false'] at hq; first | (exfalso; omega) | skip) | skip)) | refine aops_call rfl rfl (Nat.le_of_ble_eq_true rfl) rfl rfl rfl rfl (c3) ?_ | refine aops_call rfl rfl (Nat.le_of_ble_eq_true rfl) rfl rfl rfl rfl (c4) ?_ | refine aops_call rfl rfl (Nat.le_of_ble_eq_true rfl) rfl rfl rfl rfl (c5) ?_ | refine aops_call rfl rfl (Nat.le_of_ble_eq_true rfl) rfl rfl rfl rfl (c6) ?_ | refine aops_call rfl rfl (Nat.le_of_ble_eq_true rfl) rfl rfl rfl rfl (c7) ?_ | refine aops_call rfl rfl (Nat.le_of_ble_eq_true rfl) rfl rfl rfl rfl (c8) ?_ | refine aops_call rfl rfl (Nat.le_of_ble_eq_true rfl) rfl rfl rfl rfl (c9) ?_) | (refine awp_one ?_;  first | refine awp_sreg ?_ | refine awp_seq ?_ | refine awp_block ?_ | refine awp_ret ?_ | refine awp_skip ?_ | refine awp_cond (b := true) rfl (fun _ => ?_) (fun h => Bool.noConfusion h) | refine awp_cond (b := false) rfl (fun h => Bool.noConfusion h) (fun _ => ?_)) | (refine then_one ?_;  first | refine q_then ?_ | refine q_then_ret ?_) | (refine block_one ?_;  first | refine q_block_ret ?_))
                all_goals first
                  | exact absurd rfl (by assumption)
                  | (exfalso; omega)
                  | (refine aexit_eq (by first | exact .inl rfl | exact .inr rfl) (results_2 rfl (resOk_tmp rfl) (resOk_tmp rfl)) rfl ?_; rfl)
              · rw [if_neg hby] at hQ
                have hby : boundP N Y1 = false := by simpa using hby
                rw [hby] at c8
                subst hQ
                clear hXok hYok x0 y0 hxw hyw h1 h3 ek en hwn hsm hm hz hn xs ys hbx hby
                unfold exT at *
                dsimp only at *
                refine acalls_plain Tryd.func12 rfl rfl (Nat.le_of_ble_eq_true rfl) rfl ?_
                repeat' (first | refine aops_nil ?_ | (refine aops_one ?_;  first | refine aops_quiet tabOk rfl rfl rfl (Nat.le_of_ble_eq_true rfl) rfl ?_ | (refine aops_cmp rfl rfl rfl (Nat.le_of_ble_eq_true rfl) rfl rfl rfl (fun hq => ?_) (fun hq => ?_) <;> (first | (simp only [decide_eq_true_eq, decide_eq_false_iff_not, beq_iff_eq, beq_eq_false_iff_ne, bne_iff_ne, bne_eq_false_iff_eq, Bool.not_eq_true', Bool.not_eq_false'] at hq; first | (exfalso; omega) | skip) | skip)) | refine aops_call rfl rfl (Nat.le_of_ble_eq_true rfl) rfl rfl rfl rfl (c3) ?_ | refine aops_call rfl rfl (Nat.le_of_ble_eq_true rfl) rfl rfl rfl rfl (c4) ?_ | refine aops_call rfl rfl (Nat.le_of_ble_eq_true rfl) rfl rfl rfl rfl (c5) ?_ | refine aops_call rfl rfl (Nat.le_of_ble_eq_true rfl) rfl rfl rfl rfl (c6) ?_ | refine aops_call rfl rfl (Nat.le_of_ble_eq_true rfl) rfl rfl rfl rfl (c7) ?_ | refine aops_call rfl rfl (Nat.le_of_ble_eq_true rfl) rfl rfl rfl rfl (c8) ?_) | (refine awp_one ?_;  first | refine awp_sreg ?_ | refine awp_seq ?_ | refine awp_block ?_ | refine awp_ret ?_ | refine awp_skip ?_ | refine awp_cond (b := false) rfl (fun h => Bool.noConfusion h) (fun _ => ?_)) | (refine then_one ?_;  first | refine q_then ?_) | (refine block_one ?_;  first | refine q_block ?_))
                all_goals first
                  | exact absurd rfl (by assumption)
                  | (exfalso; omega)
                  | (refine aexit_eq (by first | exact .inl rfl | exact .inr rfl) (results_2 rfl (resOk_tmp rfl) (resOk_tmp rfl)) rfl ?_; rfl)
        · rw [if_pos hY] at hQ
          subst hQ
          clear hXok hYok x0 hxw h1 h3 ek en hwn hm hz hn xs
          unfold exT at *
          refine acalls_plain Tryd.func12 rfl rfl (Nat.le_of_ble_eq_true rfl) rfl ?_
          repeat' (first | refine aops_nil ?_ | (refine aops_one ?_;  first | refine aops_quiet tabOk rfl rfl rfl (Nat.le_of_ble_eq_true rfl) rfl ?_ | (refine aops_cmp rfl rfl rfl (Nat.le_of_ble_eq_true rfl) rfl rfl rfl (fun hq => ?_) (fun hq => ?_) <;> (first | (simp only [decide_eq_true_eq, decide_eq_false_iff_not, beq_iff_eq, beq_eq_false_iff_ne, bne_iff_ne, bne_eq_false_iff_eq, Bool.not_eq_true', Bool.not_eq_false'] at hq; first | (exfalso; omega) | skip) | skip)) | refine aops_call rfl rfl (Nat.le_of_ble_eq_true rfl) rfl rfl rfl rfl (c3) ?_ | refine aops_call rfl rfl (Nat.le_of_ble_eq_true rfl) rfl rfl rfl rfl (c4) ?_ | refine aops_call rfl rfl (Nat.le_of_ble_eq_true rfl) rfl rfl rfl rfl (c5) ?_) | (refine awp_one ?_;  first | refine awp_sreg ?_ | refine awp_seq ?_ | refine awp_block ?_ | refine awp_ret ?_ | refine awp_skip ?_ | refine awp_cond (b := true) rfl (fun _ => ?_) (fun h => Bool.noConfusion h) | refine awp_cond (b := false) rfl (fun h => Bool.noConfusion h) (fun _ => ?_)) | (refine then_one ?_;  first | refine q_then ?_ | refine q_then_ret ?_) | (refine block_one ?_;  first | refine q_block_ret ?_))
          all_goals first
            | exact absurd rfl (by assumption)
            | exact absurd (by assumption) hY
            | (exfalso; omega)
            | (refine aexit_eq (by first | exact .inl rfl | exact .inr rfl) (results_2 rfl (resOk_tmp rfl) (resOk_tmp rfl)) rfl ?_; rfl)
      · rw [if_pos hX] at hQ
        subst hQ
        clear hXok hYok h1 h3 ek en hwn hm hz hn
        unfold exT at *
        refine acalls_plain Tryd.func12 rfl rfl (Nat.le_of_ble_eq_true rfl) rfl ?_
        repeat' (first | refine aops_nil ?_ | (refine aops_one ?_;  first | refine aops_quiet tabOk rfl rfl rfl (Nat.le_of_ble_eq_true rfl) rfl ?_ | (refine aops_cmp rfl rfl rfl (Nat.le_of_ble_eq_true rfl) rfl rfl rfl (fun hq => ?_) (fun hq => ?_) <;> (first | (simp only [decide_eq_true_eq, decide_eq_false_iff_not, beq_iff_eq, beq_eq_false_iff_ne, bne_iff_ne, bne_eq_false_iff_eq, Bool.not_eq_true', Bool.not_eq_false'] at hq; first | (exfalso; omega) | skip) | skip)) | refine aops_call rfl rfl (Nat.le_of_ble_eq_true rfl) rfl rfl rfl rfl (c3) ?_ | refine aops_call rfl rfl (Nat.le_of_ble_eq_true rfl) rfl rfl rfl rfl (c4) ?_) | (refine awp_one ?_;  first | refine awp_sreg ?_ | refine awp_seq ?_ | refine awp_ret ?_ | refine awp_skip ?_ | refine awp_cond (b := true) rfl (fun _ => ?_) (fun h => Bool.noConfusion h) | refine awp_cond (b := false) rfl (fun h => Bool.noConfusion h) (fun _ => ?_)) | (refine then_one ?_;  first | refine q_then ?_ | refine q_then_ret ?_))
        all_goals first
          | exact absurd rfl (by assumption)
          | exact absurd (by assumption) hX
          | (exfalso; omega)
          | (refine aexit_eq (by first | exact .inl rfl | exact .inr rfl) (results_2 rfl (resOk_tmp rfl) (resOk_tmp rfl)) rfl ?_; rfl)
    · rw [if_pos h3] at hQ c3
      subst hQ
      clear hm
      refine acalls_plain Tryd.func12 rfl rfl (Nat.le_of_ble_eq_true rfl) rfl ?_
      repeat' (first | refine aops_nil ?_ | (refine aops_one ?_;  first | refine aops_quiet tabOk rfl rfl rfl (Nat.le_of_ble_eq_true rfl) rfl ?_ | (refine aops_cmp rfl rfl rfl (Nat.le_of_ble_eq_true rfl) rfl rfl rfl (fun hq => ?_) (fun hq => ?_) <;> (first | (simp only [decide_eq_true_eq, decide_eq_false_iff_not, beq_iff_eq, beq_eq_false_iff_ne, bne_iff_ne, bne_eq_false_iff_eq, Bool.not_eq_true', Bool.not_eq_false'] at hq; first | (exfalso; omega) | skip) | skip)) | refine aops_call rfl rfl (Nat.le_of_ble_eq_true rfl) rfl rfl rfl rfl (c3) ?_) | (refine awp_one ?_;  first | refine awp_sreg ?_ | refine awp_seq ?_ | refine awp_ret ?_ | refine awp_cond (b := true) rfl (fun _ => ?_) (fun h => Bool.noConfusion h)) | (refine then_one ?_;  first | refine q_then_ret ?_))
      all_goals first
        | exact absurd rfl (by assumption)
        | (refine aexit_eq (by first | exact .inl rfl | exact .inr rfl) (results_2 rfl (resOk_tmp rfl) (resOk_tmp rfl)) rfl ?_; rfl)
  · rw [if_pos h1] at hQ c3
    subst hQ
    clear hm
    generalize checkP sformP n = C at *
    refine acalls_plain Tryd.func12 rfl rfl (Nat.le_of_ble_eq_true rfl) rfl ?_
    repeat' (first | refine aops_nil ?_ | (refine aops_one ?_;  first | refine aops_quiet tabOk rfl rfl rfl (Nat.le_of_ble_eq_true rfl) rfl ?_ | (refine aops_cmp rfl rfl rfl (Nat.le_of_ble_eq_true rfl) rfl rfl rfl (fun hq => ?_) (fun hq => ?_) <;> (first | (simp only [decide_eq_true_eq, decide_eq_false_iff_not, beq_iff_eq, beq_eq_false_iff_ne, bne_iff_ne, bne_eq_false_iff_eq, Bool.not_eq_true', Bool.not_eq_false'] at hq; first | (exfalso; omega) | skip) | skip)) | refine aops_call rfl rfl (Nat.le_of_ble_eq_true rfl) rfl rfl rfl rfl (c3) ?_) | (refine awp_one ?_;  first | refine awp_sreg ?_ | refine awp_seq ?_ | refine awp_ret ?_ | refine awp_cond (b := true) rfl (fun _ => ?_) (fun h => Bool.noConfusion h)) | (refine then_one ?_;  first | refine q_then_ret ?_))
    all_goals first
      | exact absurd rfl (by assumption)
      | exact absurd (by assumption) h1
      | (refine aexit_eq (by first | exact .inl rfl | exact .inr rfl) (results_2 rfl (resOk_tmp rfl) (resOk_tmp rfl)) rfl ?_; rfl)
theorem shareP_bad {n : Tree} {a b : ByteArray} (h : (shareP n a b).2 ≠ 0) : (shareP n a b).1 = .nil := by
  unfold shareP at h ⊢
  split
  · rfl
  · rename_i h1
    rw [if_neg h1] at h
    split
    · rfl
    · rename_i h3
      rw [if_neg h3] at h
      unfold share1 at h ⊢
      split
      · rfl
      · rename_i h4
        rw [if_neg h4] at h
        split
        · rfl
        · rename_i h5
          rw [if_neg h5] at h
          split
          · rename_i h6; rw [if_pos h6] at h; exact absurd rfl h
          · rename_i h6
            rw [if_neg h6] at h
            split
            · rename_i h7; rw [if_pos h7] at h; exact solveP_bad h
            · rename_i h7
              rw [if_neg h7] at h
              split
              · rename_i h8; rw [if_pos h8] at h; exact solveP_bad h
              · rfl
set_option maxHeartbeats 16000000 in
set_option maxRecDepth 10000 in
theorem WheresShared_a (l : List CellD) (hl : ∀ c ∈ l, c.f = false) (a b : ByteArray) : ACalls Tryd.prog 4 [.imm (.agg [.sl false l.length (cellIVs l)]), .imm (.lit (.string a)), .imm (.lit (.string b))] [] (.imm (.lit (.bool true))) [] := by
  obtain ⟨x, x1, _, x3, d1⟩ := few10_s l hl
  have k1 := few20_a a
  have k2 := few20_a b
  have hA := few20_size a
  have hB := few20_size b
  generalize few20 a = A at *
  generalize few20 b = B at *
  have hxx : x.size * x.size ≤ 60 * 60 := Nat.mul_le_mul x1 x1
  have c1 := Share_a x A B (by omega) (by omega) (by omega) (.inr (by omega))
  have c2 := Share_a x B A (by omega) (by omega) (by omega) (.inr (by omega))
  by_cases h : (shareP x A B).2 = 0
  · obtain ⟨N', s', z, e1, e2, e3, e4, e5, e6, e7, e8, e9⟩ := share_ok (by omega) h
    rw [h, e1] at c1
    have hwex : (exT N' s').whole = true := by
      show Tree.wholes [s'] = true
      rw [Tree.wholes, e2]; rfl
    have hzex : (exT N' s').size = s'.size + 1 := by unfold exT; simp only [Tree.size, Tree.sizes]; omega
    have c3 := At_a s' ⟨#[116]⟩ A (by omega) (by decide) (by omega)
    rw [e5] at c3
    have c4 := At_a s' ⟨#[116]⟩ B (by omega) (by decide) (by omega)
    rw [e6] at c4
    have ek : kid0 (exT N' s') = s' := rfl
    have c5 := Share_a (exT N' s') B A (by omega) (by omega) (by omega) (.inl (by rw [ek, e7, e8]; exact (sameP_iff _ _).2 rfl))
    rw [e9] at c5
    have zw := (checkP_whole e4).1
    have zz := (checkP_whole e4).2.1
    have hwt : (Tree.node 161 0 emptyB emptyB [z]).whole = true := by
      show Tree.wholes [z] = true
      rw [Tree.wholes, zw]; rfl
    have hzt : (Tree.node 161 0 emptyB emptyB [z]).size = z.size + 1 := by simp only [Tree.size, Tree.sizes]; omega
    have s1 := Same_a (Tree.node 161 0 emptyB emptyB [z]) (Tree.node 161 0 emptyB emptyB [z]) (.inr hwt) (.inr hwt) (by omega) (by omega)
    rw [(sameP_iff _ _).2 rfl] at s1
    have s2 := Same_a (exT N' s') (exT N' s') (.inr hwex) (.inr hwex) (by omega) (by omega)
    rw [(sameP_iff _ _).2 rfl] at s2
    generalize shareP x B A = R at *
    clear h e1 e2 e3 e4 e5 e6 e7 e8 e9 hwex hzex zw zz hwt hzt hxx x1 x3 ek
    unfold exT at *
    dsimp only at *
    refine acalls_plain Tryd.func4 rfl rfl (Nat.le_of_ble_eq_true rfl) rfl ?_
    repeat' (first | refine aops_nil ?_ | (refine aops_one ?_;  first | refine aops_quiet tabOk rfl rfl rfl (Nat.le_of_ble_eq_true rfl) rfl ?_ | (refine aops_cmp rfl rfl rfl (Nat.le_of_ble_eq_true rfl) rfl rfl rfl (fun hq => ?_) (fun hq => ?_) <;> (first | (simp only [decide_eq_true_eq, decide_eq_false_iff_not, beq_iff_eq, beq_eq_false_iff_ne, bne_iff_ne, bne_eq_false_iff_eq, Bool.not_eq_true', Bool.not_eq_false'] at hq; first | (exfalso; omega) | skip) | skip)) | refine aops_call rfl rfl (Nat.le_of_ble_eq_true rfl) rfl rfl rfl rfl (d1) ?_ | refine aops_call rfl rfl (Nat.le_of_ble_eq_true rfl) rfl rfl rfl rfl (k1) ?_ | refine aops_call rfl rfl (Nat.le_of_ble_eq_true rfl) rfl rfl rfl rfl (k2) ?_ | refine aops_call rfl rfl (Nat.le_of_ble_eq_true rfl) rfl rfl rfl rfl (c1) ?_ | refine aops_call rfl rfl (Nat.le_of_ble_eq_true rfl) rfl rfl rfl rfl (c2) ?_ | refine aops_call rfl rfl (Nat.le_of_ble_eq_true rfl) rfl rfl rfl rfl (c3) ?_ | refine aops_call rfl rfl (Nat.le_of_ble_eq_true rfl) rfl rfl rfl rfl (c4) ?_ | refine aops_call rfl rfl (Nat.le_of_ble_eq_true rfl) rfl rfl rfl rfl (c5) ?_ | refine aops_call rfl rfl (Nat.le_of_ble_eq_true rfl) rfl rfl rfl rfl (s1) ?_ | refine aops_call rfl rfl (Nat.le_of_ble_eq_true rfl) rfl rfl rfl rfl (s2) ?_ | refine aops_call rfl rfl (Nat.le_of_ble_eq_true rfl) rfl rfl rfl rfl (works20_a) ?_ | refine aops_pure tabOk rfl rfl (Nat.le_of_ble_eq_true rfl) rfl ?_ | refine aops_index0 tabOk rfl rfl rfl (Nat.le_of_ble_eq_true rfl) rfl rfl rfl rfl (by first | rfl | omega) (by first | omega | simp) ?_) | (refine awp_one ?_;  first | refine awp_sreg ?_ | refine awp_seq ?_ | refine awp_ret ?_ | refine awp_skip ?_ | refine awp_cond (b := true) rfl (fun _ => ?_) (fun h => Bool.noConfusion h) | refine awp_cond (b := false) rfl (fun h => Bool.noConfusion h) (fun _ => ?_)) | (refine then_one ?_;  first | refine q_then ?_ | refine q_then_ret ?_))
    all_goals first
      | exact aexit_plain (by first | exact .inl rfl | exact .inr rfl) (results_1 rfl (resOk_tmp rfl)) rfl
      | exact absurd rfl (by assumption)
      | (exfalso; omega)
  · have h2 : ¬ (shareP x B A).2 = 0 := fun q => h (share_sym (by omega) q)
    rw [shareP_bad h] at c1
    generalize (shareP x A B).2 = E at *
    generalize shareP x B A = R at *
    obtain ⟨R1, R2⟩ := R
    dsimp only at *
    refine acalls_plain Tryd.func4 rfl rfl (Nat.le_of_ble_eq_true rfl) rfl ?_
    repeat' (first | refine aops_nil ?_ | (refine aops_one ?_;  first | refine aops_quiet tabOk rfl rfl rfl (Nat.le_of_ble_eq_true rfl) rfl ?_ | (refine aops_cmp rfl rfl rfl (Nat.le_of_ble_eq_true rfl) rfl rfl rfl (fun hq => ?_) (fun hq => ?_) <;> (first | (simp only [decide_eq_true_eq, decide_eq_false_iff_not, beq_iff_eq, beq_eq_false_iff_ne, bne_iff_ne, bne_eq_false_iff_eq, Bool.not_eq_true', Bool.not_eq_false'] at hq; first | (exfalso; omega) | skip) | skip)) | refine aops_call rfl rfl (Nat.le_of_ble_eq_true rfl) rfl rfl rfl rfl (d1) ?_ | refine aops_call rfl rfl (Nat.le_of_ble_eq_true rfl) rfl rfl rfl rfl (k1) ?_ | refine aops_call rfl rfl (Nat.le_of_ble_eq_true rfl) rfl rfl rfl rfl (k2) ?_ | refine aops_call rfl rfl (Nat.le_of_ble_eq_true rfl) rfl rfl rfl rfl (c1) ?_ | refine aops_call rfl rfl (Nat.le_of_ble_eq_true rfl) rfl rfl rfl rfl (c2) ?_ | refine aops_call rfl rfl (Nat.le_of_ble_eq_true rfl) rfl rfl rfl rfl (works20_a) ?_ | refine aops_pure tabOk rfl rfl (Nat.le_of_ble_eq_true rfl) rfl ?_) | (refine awp_one ?_;  first | refine awp_sreg ?_ | refine awp_seq ?_ | refine awp_ret ?_ | refine awp_cond (b := true) rfl (fun _ => ?_) (fun h => Bool.noConfusion h)) | (refine then_one ?_;  first | refine q_then_ret ?_))
    all_goals first
      | exact aexit_plain (by first | exact .inl rfl | exact .inr rfl) (results_1 rfl (resOk_tmp rfl)) rfl
      | exact absurd (by assumption) h
      | exact absurd (by assumption) h2
      | exact absurd rfl (by assumption)
      | (exfalso; omega)
theorem WheresShared_law (xs : List IV) (h : FitsAll [tyTree, .string, .string] xs) : ACalls Tryd.prog 4 (xs.map .imm) [] (.imm (.lit (.bool true))) [] := by
  cases h with
  | cons h1 h =>
    cases h with
    | cons h2 h =>
      cases h with
      | cons h3 h =>
        cases h
        obtain ⟨l, rfl, hl⟩ := fits_tree h1
        cases h2 with
        | string a ha =>
          cases h3 with
          | string b hb => exact WheresShared_a l hl a b
end Go.Proofs.YtdajnmffoopcaaaDoor.Ab
