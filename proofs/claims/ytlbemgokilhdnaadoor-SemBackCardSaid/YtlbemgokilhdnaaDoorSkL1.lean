/- Words, walks and laws under the claim's statement: what it uses of them. No condition of its own. -/
import Derived.Test.YtlbemgokilhdnaaDoorSkL0
import Derived.Test.YtlbemgokilhdnaaDoorSkP0
import Derived.Lib.ValidLaws
import Derived.Lib.MapLaws
import Derived.Lib.DecodeN
import Derived.Test.YtlbemgokilhdnaaDoorSkS0
import Derived.WalkKit
import Derived.WalkMore
import Derived.WalkSpells
import Derived.Below
import Derived.Outline
import Derived.Deep.LoopGhost
import Derived.Deep.DeepCutAuto
import Derived.Laws.RangeAny
import Derived.Lib.OthersKept
import Derived.Lib.Hide
import Derived.Deep.QuietTactic
import Derived.BigQuiet
import Derived.Lib.SlicesS
import Derived.WalkLawsBesides
import Derived.OneCell
import Derived.Lib.SplitLaws
import Derived.Lib.CutLaws
import Derived.Lib.IndexLaws
import Derived.Test.YtlbemgokilhdnaaDoorSkAb1
import Derived.Test.YtlbemgokilhdnaaDoorSkAb0
namespace Go.Proofs.YtlbemgokilhdnaaDoor.Ab
set_option linter.unusedVariables false
set_option linter.unusedSimpArgs false
open Go.RowKit
attribute [local irreducible] AWP AOps AExit AThen ABlock ANoGoto FeetOk
theorem fldOf_iv (a : ByteArray) (R : Tree × Int) (pr : List IV) (h0 : R.2 = 0) (hp : R.1.iv = .ptr pr 0) : (fldOf a R).1.iv = .ptr [.lit (.int .i64 116), .lit (.int .i64 0), .lit (.string a), .lit (.string ⟨#[]⟩), .sl false 1 [.ptr pr 0]] 0 := by
  unfold fldOf
  rw [if_neg (by simpa using h0), Tree.iv, Tree.ivs, Tree.ivs, hp]
  rfl
theorem fldOf_err (a : ByteArray) (R : Tree × Int) : (fldOf a R).2 = R.2 := by
  unfold fldOf
  by_cases h : R.2 = 0
  · rw [if_neg (by simpa using h), h]
  · rw [if_pos h]
set_option maxHeartbeats 16000000 in
set_option maxRecDepth 10000 in
theorem transLoop_a (k n : Int) (a b : ByteArray) (kids : List Tree) (rs : List (Tree × Int)) (hk3 : k = 162 ∨ k = 164 ∨ k = 165) (hn : k ≠ 162 → 0 ≤ n ∧ n ≤ 8192) (h1 : k = 164 → kids.length = 1) (hl : kids.length ≤ 1000000) (hlen : rs.length = kids.length)
    (hk : ∀ j (h : j < kids.length) (h' : j < rs.length), ∃ kk nn aa bb ks c, kids[j] = .node kk nn aa bb ks ∧ ACalls Tryd.prog 45 [.imm kids[j].iv] [] (.imm c.iv) [] ∧
      ACalls Tryd.prog 24 [.imm c.iv] [] (.imm (.tup [(transP c).1.iv, .lit (.int .i64 (transP c).2)])) [] ∧ ((transP c).2 = 0 → (transP c).1.whole = true) ∧ ((kk = 163 ∧ rs[j] = fldOf aa (transP c)) ∨ (kk ≠ 163 ∧ rs[j] = transP c))) :
    ACalls Tryd.prog 24 [.imm (Tree.iv (.node k n a b kids))] [] (.imm (.tup [(finP k n (seqP rs)).1.iv, .lit (.int .i64 (finP k n (seqP rs)).2)])) [] := by
  obtain ⟨Q, hQ⟩ : ∃ Q, finP k n (seqP rs) = Q := ⟨_, rfl⟩
  rw [hQ]
  refine acalls_plain Tryd.func24 rfl rfl (Nat.le_of_ble_eq_true rfl) rfl ?_
  repeat' (first | refine aops_nil ?_ | (refine aops_one ?_;  first | refine aops_quiet tabOk rfl rfl rfl (Nat.le_of_ble_eq_true rfl) rfl ?_ | (refine aops_cmp rfl rfl rfl (Nat.le_of_ble_eq_true rfl) rfl rfl rfl (fun hq => ?_) (fun hq => ?_) <;> (first | (simp only [decide_eq_true_eq, decide_eq_false_iff_not, beq_iff_eq, beq_eq_false_iff_ne, bne_iff_ne, bne_eq_false_iff_eq, Bool.not_eq_true', Bool.not_eq_false'] at hq; first | (exfalso; omega) | skip) | skip)) | refine aops_pure tabOk rfl rfl (Nat.le_of_ble_eq_true rfl) rfl ?_) | (refine awp_one ?_;  first | refine awp_sreg ?_ | refine awp_seq ?_ | refine awp_block ?_ | refine awp_skip ?_ | refine awp_cond (b := false) rfl (fun h => Bool.noConfusion h) (fun _ => ?_)) | (refine then_one ?_;  first | refine q_then ?_) | (refine block_one ?_;  first | refine q_block ?_))
  all_goals first
    | (exfalso; omega)
    | skip
  refine awp_imp (imp_nil (t := 6) 500 25 1 rfl (by simp) rfl rfl) ?_
  refine awp_loop (ι := {j : Nat // j ≤ kids.length ∧ ∀ i (hi : i < j) (hi2 : i < rs.length), (rs[i]).2 = 0 ∧ (rs[i]).1.whole = true}) (fun j => S.f ⟨[(50, .imm (.lit (.int .i64 (j.1 : Int)))), (49, .imm (.lit (.int .i64 (kids.length : Int)))), (48, .imm (.sl false kids.length (Tree.ivs kids))), (6, .ref 500 j.1), (0, .imm (Tree.iv (.node k n a b kids)))], [(500, .arr 25 1 j.1 (Tree.ivs ((rs.take j.1).map (·.1))))]⟩) (fun j => kids.length - j.1) ⟨0, Nat.zero_le _, fun i hi => absurd hi (by omega)⟩ (le_of (by repeat' first | exact trivial | refine ⟨rfl, ?_⟩) (by repeat' first | exact trivial | refine ⟨rfl, ?_⟩)) ?_
  rintro ⟨j, hj, hok⟩
  dsimp only
  have hil := ivs_length ((rs.take j).map (·.1))
  rw [List.length_map, List.length_take, hlen, Nat.min_eq_left hj] at hil
  by_cases hlt : j < kids.length
  · have hlt2 : j < rs.length := by omega
    have hget := ivs_get kids j hlt
    obtain ⟨kk, nn, aa, bb, ks, c, ek, ci, ct, cw, hr⟩ := hk j hlt hlt2
    have hnx : Tree.ivs ((rs.take (j + 1)).map (·.1)) = Tree.ivs ((rs.take j).map (·.1)) ++ [rs[j].1.iv] := by
      rw [List.take_succ_eq_append_getElem hlt2, List.map_append, ivs_map, ivs_map, List.map_append]; rfl
    rw [ek] at hget ci
    by_cases h0 : (transP c).2 = 0
    · have hw0 := cw h0
      obtain ⟨pr, hpr⟩ := iv_ptr (whole_ne hw0)
      rw [h0, hpr] at ct
      have hr2 : rs[j].2 = 0 ∧ rs[j].1.whole = true := by
        rcases hr with ⟨_, e⟩ | ⟨_, e⟩
        · rw [e, fldOf_err]
          refine ⟨h0, ?_⟩
          unfold fldOf
          rw [if_neg (by simpa using h0)]
          show Tree.wholes [_] = true
          rw [Tree.wholes, hw0]; rfl
        · rw [e]; exact ⟨h0, hw0⟩
      have hok2 : ∀ i (hi : i < j + 1) (hi2 : i < rs.length), (rs[i]).2 = 0 ∧ (rs[i]).1.whole = true := fun i hi hi2 => by
        by_cases hij : i = j
        · subst hij; exact hr2
        · exact hok i (by omega) hi2
      rcases hr with ⟨hkk, e⟩ | ⟨hkk, e⟩
      · rw [e, fldOf_iv aa _ pr h0 hpr] at hnx
        clear hk hQ hr2 ek
        generalize Tree.ivs ((rs.take j).map (·.1)) = ZI at *
        repeat' (first | refine aops_nil ?_ | (refine aops_one ?_;  first | refine aops_quiet tabOk rfl rfl rfl (Nat.le_of_ble_eq_true rfl) rfl ?_ | (refine aops_cmp rfl rfl rfl (Nat.le_of_ble_eq_true rfl) rfl rfl rfl (fun hq => ?_) (fun hq => ?_) <;> (first | (simp only [decide_eq_true_eq, decide_eq_false_iff_not, beq_iff_eq, beq_eq_false_iff_ne, bne_iff_ne, bne_eq_false_iff_eq, Bool.not_eq_true', Bool.not_eq_false'] at hq; first | (exfalso; omega) | skip) | skip)) | refine aops_load1 tabOk rfl rfl rfl (Nat.le_of_ble_eq_true rfl) rfl rfl rfl hget ?_ | refine aops_call rfl rfl (Nat.le_of_ble_eq_true rfl) rfl rfl rfl rfl (ci) ?_ | refine aops_call rfl rfl (Nat.le_of_ble_eq_true rfl) rfl rfl rfl rfl (ct) ?_ | refine aops_append tabOk rfl rfl rfl (Nat.le_of_ble_eq_true rfl) rfl rfl rfl rfl rfl rfl rfl (by first | omega | decide) rfl (by first | omega | (dsimp only; omega)) (by first | omega | (dsimp only; omega)) ?_ | refine aops_inc rfl rfl rfl (Nat.le_of_ble_eq_true rfl) rfl rfl (by omega) ?_ | refine aops_list tabOk rfl rfl rfl (Nat.le_of_ble_eq_true rfl) rfl rfl rfl rfl rfl rfl rfl rfl rfl ?_ | refine aops_pure tabOk rfl rfl (Nat.le_of_ble_eq_true rfl) rfl ?_ | refine aops_index tabOk rfl rfl rfl (Nat.le_of_ble_eq_true rfl) rfl rfl rfl rfl (by first | assumption | omega) ?_) | (refine awp_one ?_;  first | refine awp_sreg ?_ | refine awp_seq ?_ | refine awp_region ?_ | refine awp_block ?_ | refine awp_skip ?_ | refine awp_cond (b := true) rfl (fun _ => ?_) (fun h => Bool.noConfusion h) | refine awp_cond (b := false) rfl (fun h => Bool.noConfusion h) (fun _ => ?_)) | (refine then_one ?_;  first | refine q_then ?_) | (refine block_one ?_;  first | refine q_block ?_))
        all_goals first
          | exact absurd rfl (by assumption)
          | exact absurd hkk (by assumption)
          | (exfalso; omega)
          | (refine ⟨⟨j + 1, hlt, hok2⟩, (by show kids.length - (j + 1) < kids.length - j; omega), ?_⟩; dsimp only; rw [hnx]; exact (le_of (by repeat' first | exact trivial | refine ⟨rfl, ?_⟩) (by repeat' first | exact trivial | refine ⟨rfl, ?_⟩)))
      · rw [e, hpr] at hnx
        clear hk hQ hr2 ek
        generalize Tree.ivs ((rs.take j).map (·.1)) = ZI at *
        repeat' (first | refine aops_nil ?_ | (refine aops_one ?_;  first | refine aops_quiet tabOk rfl rfl rfl (Nat.le_of_ble_eq_true rfl) rfl ?_ | (refine aops_cmp rfl rfl rfl (Nat.le_of_ble_eq_true rfl) rfl rfl rfl (fun hq => ?_) (fun hq => ?_) <;> (first | (simp only [decide_eq_true_eq, decide_eq_false_iff_not, beq_iff_eq, beq_eq_false_iff_ne, bne_iff_ne, bne_eq_false_iff_eq, Bool.not_eq_true', Bool.not_eq_false'] at hq; first | (exfalso; omega) | skip) | skip)) | refine aops_load1 tabOk rfl rfl rfl (Nat.le_of_ble_eq_true rfl) rfl rfl rfl hget ?_ | refine aops_call rfl rfl (Nat.le_of_ble_eq_true rfl) rfl rfl rfl rfl (ci) ?_ | refine aops_call rfl rfl (Nat.le_of_ble_eq_true rfl) rfl rfl rfl rfl (ct) ?_ | refine aops_append tabOk rfl rfl rfl (Nat.le_of_ble_eq_true rfl) rfl rfl rfl rfl rfl rfl rfl (by first | omega | decide) rfl (by first | omega | (dsimp only; omega)) (by first | omega | (dsimp only; omega)) ?_ | refine aops_inc rfl rfl rfl (Nat.le_of_ble_eq_true rfl) rfl rfl (by omega) ?_ | refine aops_list tabOk rfl rfl rfl (Nat.le_of_ble_eq_true rfl) rfl rfl rfl rfl rfl rfl rfl rfl rfl ?_ | refine aops_index tabOk rfl rfl rfl (Nat.le_of_ble_eq_true rfl) rfl rfl rfl rfl (by first | assumption | omega) ?_) | (refine awp_one ?_;  first | refine awp_sreg ?_ | refine awp_seq ?_ | refine awp_region ?_ | refine awp_block ?_ | refine awp_skip ?_ | refine awp_cond (b := true) rfl (fun _ => ?_) (fun h => Bool.noConfusion h) | refine awp_cond (b := false) rfl (fun h => Bool.noConfusion h) (fun _ => ?_)) | (refine then_one ?_;  first | refine q_then ?_) | (refine block_one ?_;  first | refine q_block ?_))
        all_goals first
          | exact absurd rfl (by assumption)
          | exact absurd (by assumption) hkk
          | (exfalso; omega)
          | (refine ⟨⟨j + 1, hlt, hok2⟩, (by show kids.length - (j + 1) < kids.length - j; omega), ?_⟩; dsimp only; rw [hnx]; exact (le_of (by repeat' first | exact trivial | refine ⟨rfl, ?_⟩) (by repeat' first | exact trivial | refine ⟨rfl, ?_⟩)))
    · have hr2 : rs[j].2 = (transP c).2 := by
        rcases hr with ⟨_, e⟩ | ⟨_, e⟩
        · rw [e, fldOf_err]
        · rw [e]
      have hbad := seqP_bad rs j hlt2 (fun i hi => (hok i hi (by omega)).1) (by rw [hr2]; exact h0)
      have hQ2 : Q = (.nil, (transP c).2) := by
        rw [← hQ, hbad, hr2]; unfold finP; rw [if_pos h0]
      subst hQ2
      clear hk hQ hr hr2 hbad ek hnx
      generalize Tree.ivs ((rs.take j).map (·.1)) = ZI at *
      generalize (transP c).2 = E at *
      repeat' (first | refine aops_nil ?_ | (refine aops_one ?_;  first | refine aops_quiet tabOk rfl rfl rfl (Nat.le_of_ble_eq_true rfl) rfl ?_ | (refine aops_cmp rfl rfl rfl (Nat.le_of_ble_eq_true rfl) rfl rfl rfl (fun hq => ?_) (fun hq => ?_) <;> (first | (simp only [decide_eq_true_eq, decide_eq_false_iff_not, beq_iff_eq, beq_eq_false_iff_ne, bne_iff_ne, bne_eq_false_iff_eq, Bool.not_eq_true', Bool.not_eq_false'] at hq; first | (exfalso; omega) | skip) | skip)) | refine aops_load1 tabOk rfl rfl rfl (Nat.le_of_ble_eq_true rfl) rfl rfl rfl hget ?_ | refine aops_call rfl rfl (Nat.le_of_ble_eq_true rfl) rfl rfl rfl rfl (ci) ?_ | refine aops_call rfl rfl (Nat.le_of_ble_eq_true rfl) rfl rfl rfl rfl (ct) ?_ | refine aops_index tabOk rfl rfl rfl (Nat.le_of_ble_eq_true rfl) rfl rfl rfl rfl (by first | assumption | omega) ?_) | (refine awp_one ?_;  first | refine awp_sreg ?_ | refine awp_seq ?_ | refine awp_block ?_ | refine awp_ret ?_ | refine awp_skip ?_ | refine awp_cond (b := true) rfl (fun _ => ?_) (fun h => Bool.noConfusion h)) | (refine then_one ?_;  first | refine q_then ?_ | refine q_then_ret ?_) | (refine block_one ?_;  first | refine q_block_ret ?_))
      all_goals first
        | exact absurd (by assumption) h0
        | exact absurd rfl (by assumption)
        | (exfalso; omega)
        | (refine aexit_eq (by first | exact .inl rfl | exact .inr rfl) (results_2 rfl (resOk_tmp rfl) (resOk_tmp rfl)) rfl ?_; rfl)
  · have ej : j = kids.length := by omega
    subst ej
    have et : rs.take kids.length = rs := by rw [← hlen, List.take_length]
    rw [et] at hil ⊢
    have hall : ∀ r ∈ rs, r.2 = 0 := fun r hr => by
      obtain ⟨i, hi, rfl⟩ := List.getElem_of_mem hr
      exact (hok i (by omega) hi).1
    have hallw : ∀ r ∈ rs, r.1.whole = true := fun r hr => by
      obtain ⟨i, hi, rfl⟩ := List.getElem_of_mem hr
      exact (hok i (by omega) hi).2
    have hseq := seqP_ok rs hall
    rw [hseq] at hQ
    unfold finP at hQ
    rw [if_neg (by simp)] at hQ
    obtain ⟨L, hL⟩ : ∃ L, rs.map (·.1) = L := ⟨_, rfl⟩
    rw [hL] at hQ ⊢
    have hLl : L.length = kids.length := by rw [← hL, List.length_map, hlen]
    have hLw : ∀ t ∈ L, t.whole = true := fun t ht => by
      rw [← hL] at ht
      obtain ⟨r, hr, rfl⟩ := List.mem_map.1 ht
      exact hallw r hr
    rw [hL] at hil
    clear hk hok hall hallw hseq et
    refine awp_imp ((Imp.of_le (σ' := S.f ⟨[(50, .imm (.lit (.int .i64 (kids.length : Int)))), (49, .imm (.lit (.int .i64 (kids.length : Int)))), (6, .ref 500 kids.length), (0, .imm (Tree.iv (.node k n a b kids)))], [(500, .arr 25 1 kids.length (Tree.ivs L))]⟩) (le_of (by repeat' first | exact trivial | refine ⟨rfl, ?_⟩) (by repeat' first | exact trivial | refine ⟨rfl, ?_⟩))).trans (imp_freezeR (g := 500) rfl (by repeat' first | exact trivial | exact fun _ => rfl | refine ⟨?_, ?_⟩) (by repeat' first | exact trivial | exact fun _ => rfl | refine ⟨?_, ?_⟩))) ?_
    by_cases k164 : k = 164
    · have hl1 := h1 k164
      obtain ⟨x, rfl⟩ := one_of (by rw [hLl, hl1] : L.length = 1)
      have hn1 := hn (by omega)
      have hxw := hLw x (by simp)
      rw [if_pos k164] at hQ
      have hQ2 : Q = (aroundP 118 n.toNat x, 0) := by rw [← hQ]; rfl
      subst hQ2
      have ca := around_a 118 n x hxw hn1.1 (by omega)
      have h0 : (Tree.ivs [x])[0 * 1]? = some x.iv := rfl
      rw [hl1] at *
      obtain ⟨px, hpx⟩ := iv_ptr (whole_ne hxw)
      rw [hpx] at ca h0
      generalize Tree.ivs [x] = ZI at *
      repeat' (first | refine aops_nil ?_ | (refine aops_one ?_;  first | refine aops_quiet tabOk rfl rfl rfl (Nat.le_of_ble_eq_true rfl) rfl ?_ | (refine aops_cmp rfl rfl rfl (Nat.le_of_ble_eq_true rfl) rfl rfl rfl (fun hq => ?_) (fun hq => ?_) <;> (first | (simp only [decide_eq_true_eq, decide_eq_false_iff_not, beq_iff_eq, beq_eq_false_iff_ne, bne_iff_ne, bne_eq_false_iff_eq, Bool.not_eq_true', Bool.not_eq_false'] at hq; first | (exfalso; omega) | skip) | skip)) | refine aops_load1 tabOk rfl rfl rfl (Nat.le_of_ble_eq_true rfl) rfl rfl rfl h0 ?_ | refine aops_call rfl rfl (Nat.le_of_ble_eq_true rfl) rfl rfl rfl rfl (ca) ?_ | refine aops_index0 tabOk rfl rfl rfl (Nat.le_of_ble_eq_true rfl) rfl rfl rfl rfl (by first | rfl | omega) (by first | omega | simp) ?_) | (refine awp_one ?_;  first | refine awp_sreg ?_ | refine awp_seq ?_ | refine awp_block ?_ | refine awp_ret ?_ | refine awp_exit ?_ | refine awp_cond (b := true) rfl (fun _ => ?_) (fun h => Bool.noConfusion h) | refine awp_cond (b := false) rfl (fun h => Bool.noConfusion h) (fun _ => ?_) | refine awp_region_draw mixed (by kernel_rfl) ?_) | (refine then_one ?_;  first | refine q_then ?_ | refine q_then_exit ?_ | refine q_then_ret ?_) | (refine block_one ?_;  first | refine q_block_exit ?_ | refine q_block_ret ?_) | refine feet_one (feetOk_of (by kernel_rfl)) ?_)
      all_goals first
        | exact absurd rfl (by assumption)
        | exact absurd k164 (by assumption)
        | (exfalso; omega)
        | (refine aexit_eq (by first | exact .inl rfl | exact .inr rfl) (results_2 rfl (resOk_tmp rfl) (resOk_tmp rfl)) rfl ?_; rfl)
    · rw [if_neg k164] at hQ
      by_cases k165 : k = 165
      · rw [if_pos k165] at hQ
        have hn1 := hn (by omega)
        have hw4 : (conT 114 L).whole = true := wholes_of hLw
        have ca := around_a 117 n (conT 114 L) hw4 hn1.1 (by omega)
        have c1 := con_a 114 false kids.length (Tree.ivs L)
        have e4 : (conT 114 L).iv = conIV 114 kids.length (Tree.ivs L) := by rw [conT_iv, hLl]
        rw [e4] at ca
        subst hQ
        dsimp only
        generalize Tree.ivs L = ZI at *
        unfold conIV at *
        repeat' (first | refine aops_nil ?_ | (refine aops_one ?_;  first | refine aops_quiet tabOk rfl rfl rfl (Nat.le_of_ble_eq_true rfl) rfl ?_ | (refine aops_cmp rfl rfl rfl (Nat.le_of_ble_eq_true rfl) rfl rfl rfl (fun hq => ?_) (fun hq => ?_) <;> (first | (simp only [decide_eq_true_eq, decide_eq_false_iff_not, beq_iff_eq, beq_eq_false_iff_ne, bne_iff_ne, bne_eq_false_iff_eq, Bool.not_eq_true', Bool.not_eq_false'] at hq; first | (exfalso; omega) | skip) | skip)) | refine aops_call rfl rfl (Nat.le_of_ble_eq_true rfl) rfl rfl rfl rfl (c1) ?_ | refine aops_call rfl rfl (Nat.le_of_ble_eq_true rfl) rfl rfl rfl rfl (ca) ?_) | (refine awp_one ?_;  first | refine awp_sreg ?_ | refine awp_seq ?_ | refine awp_block ?_ | refine awp_ret ?_ | refine awp_exit ?_ | refine awp_cond (b := true) rfl (fun _ => ?_) (fun h => Bool.noConfusion h) | refine awp_cond (b := false) rfl (fun h => Bool.noConfusion h) (fun _ => ?_) | refine awp_region_draw mixed (by kernel_rfl) ?_) | (refine then_one ?_;  first | refine q_then ?_ | refine q_then_exit ?_ | refine q_then_ret ?_) | (refine block_one ?_;  first | refine q_block_exit ?_ | refine q_block_ret ?_) | refine feet_one (feetOk_of (by kernel_rfl)) ?_)
        all_goals first
          | exact absurd rfl (by assumption)
          | exact absurd (by assumption) k164
          | exact absurd k165 (by assumption)
          | (exfalso; omega)
          | (refine aexit_eq (by first | exact .inl rfl | exact .inr rfl) (results_2 rfl (resOk_tmp rfl) (resOk_tmp rfl)) rfl ?_; rfl)
      · rw [if_neg k165] at hQ
        have c1 := con_a 115 false kids.length (Tree.ivs L)
        have e4 : (conT 115 L).iv = conIV 115 kids.length (Tree.ivs L) := by rw [conT_iv, hLl]
        subst hQ
        dsimp only
        rw [e4]
        generalize Tree.ivs L = ZI at *
        unfold conIV at *
        repeat' (first | refine aops_nil ?_ | (refine aops_one ?_;  first | refine aops_quiet tabOk rfl rfl rfl (Nat.le_of_ble_eq_true rfl) rfl ?_ | (refine aops_cmp rfl rfl rfl (Nat.le_of_ble_eq_true rfl) rfl rfl rfl (fun hq => ?_) (fun hq => ?_) <;> (first | (simp only [decide_eq_true_eq, decide_eq_false_iff_not, beq_iff_eq, beq_eq_false_iff_ne, bne_iff_ne, bne_eq_false_iff_eq, Bool.not_eq_true', Bool.not_eq_false'] at hq; first | (exfalso; omega) | skip) | skip)) | refine aops_call rfl rfl (Nat.le_of_ble_eq_true rfl) rfl rfl rfl rfl (c1) ?_) | (refine awp_one ?_;  first | refine awp_sreg ?_ | refine awp_seq ?_ | refine awp_block ?_ | refine awp_ret ?_ | refine awp_exit ?_ | refine awp_skip ?_ | refine awp_cond (b := false) rfl (fun h => Bool.noConfusion h) (fun _ => ?_)) | (refine then_one ?_;  first | refine q_then ?_ | refine q_then_exit ?_) | (refine block_one ?_;  first | refine q_block ?_ | refine q_block_exit ?_))
        all_goals first
          | exact absurd rfl (by assumption)
          | exact absurd (by assumption) k164
          | exact absurd (by assumption) k165
          | (exfalso; omega)
          | (refine aexit_eq (by first | exact .inl rfl | exact .inr rfl) (results_2 rfl (resOk_tmp rfl) (resOk_tmp rfl)) rfl ?_; rfl)
end Go.Proofs.YtlbemgokilhdnaaDoor.Ab
namespace Go.Proofs.YtlbemgokilhdnaaDoor.Ab
set_option linter.unusedVariables false
set_option linter.unusedSimpArgs false
open Go.RowKit
attribute [local irreducible] AWP AOps AExit AThen ABlock ANoGoto FeetOk
theorem finP_err (k n : Int) (R : List Tree × Int) (h0 : (finP k n R).2 ≠ 0) : (finP k n R).1 = .nil := by
  unfold finP at h0 ⊢
  split
  · rfl
  · rename_i h1
    rw [if_neg h1] at h0
    exfalso
    revert h0
    split
    · simp
    · split <;> simp
theorem transP_err (t : Tree) (h0 : (transP t).2 ≠ 0) : (transP t).1 = .nil := by
  cases t with
  | nil => rw [transP] at h0; exact absurd rfl h0
  | node k n a b kids =>
    rw [transP] at h0 ⊢
    split
    · rename_i h1; rw [if_pos h1] at h0; exact absurd rfl h0
    · rename_i h1
      rw [if_neg h1] at h0
      split
      · rename_i h2
        rw [if_pos h2] at h0
        unfold allTok at h0 ⊢
        split
        · rfl
        · rename_i h3; rw [if_neg h3] at h0; exact absurd rfl h0
      · rename_i h2
        rw [if_neg h2] at h0
        exact finP_err _ _ _ h0
theorem higherT_iv : higherT.iv = conIV 101 2 [conIV 100 0 [], conIV 100 0 []] := by
  unfold higherT
  rw [conT_iv, Tree.ivs, Tree.ivs, Tree.ivs, conT_iv, Tree.ivs]
  rfl
set_option maxHeartbeats 8000000 in
set_option maxRecDepth 10000 in
theorem transTok_a (n : Int) (a b : ByteArray) (c : Tree) (hcs : c.size ≤ 1000000) : ACalls Tryd.prog 24 [.imm (Tree.iv (.node 161 n a b [c]))] [] (.imm (.tup [(allTok c).1.iv, .lit (.int .i64 (allTok c).2)])) [] := by
  have c1 := token_a c hcs
  have c0 := higher_a
  have hf := tokP_fine c
  rw [higherT_iv] at c0
  unfold allTok
  generalize tokP c = S at *
  obtain ⟨S1, S2⟩ := S
  dsimp only at *
  by_cases h0 : S2 = 0
  · subst h0
    rw [if_neg (by simp)]
    obtain ⟨px, hpx⟩ := iv_ptr (whole_ne (hf rfl).1)
    have c2 := con_a 114 true 2 [.ptr px 0, .ptr px 0]
    have c3 := con_a 117 true 2 [conIV 101 2 [conIV 100 0 [], conIV 100 0 []], conIV 114 2 [.ptr px 0, .ptr px 0]]
    have hnx : (conT 117 [higherT, conT 114 [S1, S1]]).iv = conIV 117 2 [conIV 101 2 [conIV 100 0 [], conIV 100 0 []], conIV 114 2 [.ptr px 0, .ptr px 0]] := by
      rw [conT_iv, Tree.ivs, Tree.ivs, Tree.ivs, higherT_iv, conT_iv, Tree.ivs, Tree.ivs, Tree.ivs, hpx]; rfl
    rw [hnx]
    rw [hpx] at c1
    clear hf hnx
    unfold conIV at *
    refine acalls_plain Tryd.func24 rfl rfl (Nat.le_of_ble_eq_true rfl) rfl ?_
    repeat' (first | refine aops_nil ?_ | (refine aops_one ?_;  first | refine aops_quiet tabOk rfl rfl rfl (Nat.le_of_ble_eq_true rfl) rfl ?_ | (refine aops_cmp rfl rfl rfl (Nat.le_of_ble_eq_true rfl) rfl rfl rfl (fun hq => ?_) (fun hq => ?_) <;> (first | (simp only [decide_eq_true_eq, decide_eq_false_iff_not, beq_iff_eq, beq_eq_false_iff_ne, bne_iff_ne, bne_eq_false_iff_eq, Bool.not_eq_true', Bool.not_eq_false'] at hq; first | (exfalso; omega) | skip) | skip)) | refine aops_call rfl rfl (Nat.le_of_ble_eq_true rfl) rfl rfl rfl rfl (c0) ?_ | refine aops_call rfl rfl (Nat.le_of_ble_eq_true rfl) rfl rfl rfl rfl (c1) ?_ | refine aops_call rfl rfl (Nat.le_of_ble_eq_true rfl) rfl rfl rfl rfl (c2) ?_ | refine aops_call rfl rfl (Nat.le_of_ble_eq_true rfl) rfl rfl rfl rfl (c3) ?_ | refine aops_list tabOk rfl rfl rfl (Nat.le_of_ble_eq_true rfl) rfl rfl rfl rfl rfl rfl rfl rfl rfl ?_ | refine aops_index0 tabOk rfl rfl rfl (Nat.le_of_ble_eq_true rfl) rfl rfl rfl rfl (by first | rfl | omega) (by first | omega | simp) ?_) | (refine awp_one ?_;  first | refine awp_sreg ?_ | refine awp_seq ?_ | refine awp_block ?_ | refine awp_ret ?_ | refine awp_skip ?_ | refine awp_cond (b := true) rfl (fun _ => ?_) (fun h => Bool.noConfusion h) | refine awp_cond (b := false) rfl (fun h => Bool.noConfusion h) (fun _ => ?_)) | (refine then_one ?_;  first | refine q_then ?_ | refine q_then_ret ?_) | (refine block_one ?_;  first | refine q_block_ret ?_))
    all_goals first
      | exact absurd rfl (by assumption)
      | (refine aexit_eq (by first | exact .inl rfl | exact .inr rfl) (results_2 rfl (resOk_tmp rfl) (resOk_tmp rfl)) rfl ?_; rfl)
  · rw [if_pos h0]
    refine acalls_plain Tryd.func24 rfl rfl (Nat.le_of_ble_eq_true rfl) rfl ?_
    repeat' (first | refine aops_nil ?_ | (refine aops_one ?_;  first | refine aops_quiet tabOk rfl rfl rfl (Nat.le_of_ble_eq_true rfl) rfl ?_ | (refine aops_cmp rfl rfl rfl (Nat.le_of_ble_eq_true rfl) rfl rfl rfl (fun hq => ?_) (fun hq => ?_) <;> (first | (simp only [decide_eq_true_eq, decide_eq_false_iff_not, beq_iff_eq, beq_eq_false_iff_ne, bne_iff_ne, bne_eq_false_iff_eq, Bool.not_eq_true', Bool.not_eq_false'] at hq; first | (exfalso; omega) | skip) | skip)) | refine aops_call rfl rfl (Nat.le_of_ble_eq_true rfl) rfl rfl rfl rfl (c1) ?_ | refine aops_index0 tabOk rfl rfl rfl (Nat.le_of_ble_eq_true rfl) rfl rfl rfl rfl (by first | rfl | omega) (by first | omega | simp) ?_) | (refine awp_one ?_;  first | refine awp_sreg ?_ | refine awp_seq ?_ | refine awp_block ?_ | refine awp_ret ?_ | refine awp_cond (b := true) rfl (fun _ => ?_) (fun h => Bool.noConfusion h) | refine awp_cond (b := false) rfl (fun h => Bool.noConfusion h) (fun _ => ?_)) | (refine then_one ?_;  first | refine q_then_ret ?_) | (refine block_one ?_;  first | refine q_block_ret ?_))
    all_goals first
      | exact absurd (by assumption) h0
      | exact absurd rfl (by assumption)
      | (refine aexit_eq (by first | exact .inl rfl | exact .inr rfl) (results_2 rfl (resOk_tmp rfl) (resOk_tmp rfl)) rfl ?_; rfl)
set_option maxHeartbeats 8000000 in
set_option maxRecDepth 10000 in
theorem transVal_a (n : Int) (a b : ByteArray) (c : Tree) : ACalls Tryd.prog 24 [.imm (Tree.iv (.node 160 n a b [c]))] [] (.imm (.tup [c.iv, .lit (.int .i64 0)])) [] := by
  refine acalls_plain Tryd.func24 rfl rfl (Nat.le_of_ble_eq_true rfl) rfl ?_
  repeat' (first | refine aops_nil ?_ | (refine aops_one ?_;  first | refine aops_quiet tabOk rfl rfl rfl (Nat.le_of_ble_eq_true rfl) rfl ?_ | (refine aops_cmp rfl rfl rfl (Nat.le_of_ble_eq_true rfl) rfl rfl rfl (fun hq => ?_) (fun hq => ?_) <;> (first | (simp only [decide_eq_true_eq, decide_eq_false_iff_not, beq_iff_eq, beq_eq_false_iff_ne, bne_iff_ne, bne_eq_false_iff_eq, Bool.not_eq_true', Bool.not_eq_false'] at hq; first | (exfalso; omega) | skip) | skip)) | refine aops_index0 tabOk rfl rfl rfl (Nat.le_of_ble_eq_true rfl) rfl rfl rfl rfl (by first | rfl | omega) (by first | omega | simp) ?_) | (refine awp_one ?_;  first | refine awp_sreg ?_ | refine awp_seq ?_ | refine awp_block ?_ | refine awp_ret ?_ | refine awp_cond (b := true) rfl (fun _ => ?_) (fun h => Bool.noConfusion h)) | (refine then_one ?_;  first | refine q_then_ret ?_) | (refine block_one ?_;  first | refine q_block_ret ?_))
  all_goals first
    | exact absurd rfl (by assumption)
    | (refine aexit_eq (by first | exact .inl rfl | exact .inr rfl) (results_2 rfl (resOk_tmp rfl) (resOk_tmp rfl)) rfl ?_; rfl)
theorem trans_a (t : Tree) : tForm t → t.whole = true → t.size ≤ 1000000 → ACalls Tryd.prog 24 [.imm t.iv] [] (.imm (.tup [(transP t).1.iv, .lit (.int .i64 (transP t).2)])) [] := by
  induction t using Tree.sind with
  | h t ih =>
    intro hf hw hs
    have hfin := hf
    obtain ⟨k, n, a, b, kids, rfl⟩ := whole_node hw
    rcases hf with hf | hf | hf
    · rcases sig_kids hf with ⟨hk, c, rfl, hc⟩ | ⟨rfl, hfl, _⟩
      · have hcw := (checkP_whole hc).1
        have hsz : (Tree.node k n a b [c]).size = c.size + 1 := by simp only [Tree.size, Tree.sizes]; omega
        rw [transP]
        rcases hk with rfl | rfl
        · rw [if_pos rfl]
          exact transVal_a n a b c
        · rw [if_neg (by decide), if_pos rfl]
          exact transTok_a n a b c (by omega)
      · rw [transP, if_neg (by decide), if_neg (by decide), if_pos rfl, fldRs_map]
        have hkl := length_sizes kids hw
        have hsz : (Tree.node 162 n a b kids).size = 1 + Tree.sizes kids := by simp only [Tree.size]; try omega
        refine transLoop_a 162 n a b kids (kids.map fldR) (.inl rfl) (fun e => absurd rfl e) (fun e => absurd e (by decide)) (by omega) (by rw [List.length_map]) ?_
        intro j hj hj'
        have hm := List.getElem_mem hj
        obtain ⟨n', a', b', c, e, hc⟩ := okSField_form (hfl _ hm)
        have hz := size_kid (k := 162) (n := n) (a := a) (b := b) hm
        have hwm := wholes_mem hw hm
        rw [List.getElem_map, e]
        rw [e] at hz hwm
        have hcw : c.whole = true := wholes_mem hwm (List.mem_singleton.2 rfl)
        have hcs : (Tree.node 163 n' a' b' [c]).size = c.size + 1 := by simp only [Tree.size, Tree.sizes]; omega
        exact ⟨163, n', a', b', [c], c, rfl, insideF_a n' a' b' c hcw, ih c (by omega) (.inl hc) hcw (by omega), fun h0 => (transP_fine c (.inl hc) hcw h0).1, .inl ⟨rfl, by rw [fldR, one1]⟩⟩
    · obtain ⟨n', a', b', c, e, g0, g1, hc⟩ := ex_form hf
      cases e
      have hcw : c.whole = true := wholes_mem hw (List.mem_singleton.2 rfl)
      have hsz : (Tree.node 164 n a b [c]).size = c.size + 1 := by simp only [Tree.size, Tree.sizes]; omega
      rw [transP, if_neg (by decide), if_neg (by decide), if_neg (by decide), plnRs, plnRs]
      refine transLoop_a 164 n a b [c] [transP c] (.inr (.inl rfl)) (fun _ => ⟨g0, g1⟩) (fun _ => rfl) (by simp) rfl ?_
      intro j hj hj'
      obtain rfl : j = 0 := by simp only [List.length_cons, List.length_nil] at hj; omega
      obtain ⟨kk, nn, aa, bb, ks, rfl⟩ := whole_node hcw
      have hk : kk ≠ 163 := fun e => by subst e; rcases sig_kids hc with ⟨h, _⟩ | ⟨h, _⟩ <;> omega
      exact ⟨kk, nn, aa, bb, ks, _, rfl, insideO_a kk nn aa bb ks hk, ih _ (by omega) (.inl hc) hcw (by omega), fun h0 => (transP_fine _ (.inl hc) hcw h0).1, .inr ⟨hk, rfl⟩⟩
    · obtain ⟨n', a', b', c, x, e, g0, g1, hc, hx⟩ := fun_form hf
      cases e
      have hcw : c.whole = true := wholes_mem hw (by simp)
      have hxw : x.whole = true := wholes_mem hw (by simp)
      have hsz : (Tree.node 165 n a b [c, x]).size = c.size + x.size + 1 := by simp only [Tree.size, Tree.sizes]; omega
      have hc1 := size_pos hcw
      have hx1 := size_pos hxw
      rw [transP, if_neg (by decide), if_neg (by decide), if_neg (by decide), plnRs, plnRs, plnRs]
      refine transLoop_a 165 n a b [c, x] [transP c, transP x] (.inr (.inr rfl)) (fun _ => ⟨g0, g1⟩) (fun e => absurd e (by decide)) (by simp) rfl ?_
      intro j hj hj'
      simp only [List.length_cons, List.length_nil] at hj
      match j, hj with
      | 0, _ =>
        obtain ⟨kk, nn, aa, bb, ks, rfl⟩ := whole_node hcw
        have hk : kk ≠ 163 := fun e => by subst e; rcases sig_kids hc with ⟨h, _⟩ | ⟨h, _⟩ <;> omega
        exact ⟨kk, nn, aa, bb, ks, _, rfl, insideO_a kk nn aa bb ks hk, ih _ (by omega) (.inl hc) hcw (by omega), fun h0 => (transP_fine _ (.inl hc) hcw h0).1, .inr ⟨hk, rfl⟩⟩
      | 1, _ =>
        obtain ⟨nn, aa, bb, c2, rfl, _⟩ := ex_form hx
        exact ⟨164, nn, aa, bb, [c2], _, rfl, insideO_a 164 nn aa bb [c2] (by decide), ih _ (by omega) (.inr (.inl hx)) hxw (by omega), fun h0 => (transP_fine _ (.inr (.inl hx)) hxw h0).1, .inr ⟨by decide, rfl⟩⟩
      | j + 2, h => omega
/-- What sem.Trans tells. -/
def sTransP (t : Tree) : Tree × Int := if checkP sformP t ≠ 0 then (.nil, checkP sformP t) else sizedP (transP t).1 (transP t).2
set_option maxHeartbeats 4000000 in
set_option maxRecDepth 10000 in
theorem Trans_a (t : Tree) (hs : t.size ≤ 100000) : ACalls Tryd.prog 10 [.imm t.iv] [] (.imm (.tup [(sTransP t).1.iv, .lit (.int .i64 (sTransP t).2)])) [] := by
  have c1 := sCheck_any t (by omega)
  obtain ⟨Q, hQ⟩ : ∃ Q, sTransP t = Q := ⟨_, rfl⟩
  rw [hQ]
  unfold sTransP at hQ
  by_cases hc : checkP sformP t = 0
  · rw [if_neg (by simpa using hc)] at hQ
    rw [hc] at c1
    obtain ⟨hw, hz, hf⟩ := checkP_whole hc
    have ht := tForm_of hf
    have c2 := trans_a t ht hw (by omega)
    have hsz : (transP t).1.size ≤ 1000000 := by
      by_cases h0 : (transP t).2 = 0
      · have := (transP_fine t ht hw h0).2; omega
      · rw [transP_err t h0]; decide
    have c3 := sized_a (transP t).1 (transP t).2 hsz
    rw [hQ] at c3
    clear hQ hsz ht hf hw hz hc
    generalize transP t = W at *
    obtain ⟨W1, W2⟩ := W
    obtain ⟨Q1, Q2⟩ := Q
    dsimp only at *
    refine acalls_plain Tryd.func10 rfl rfl (Nat.le_of_ble_eq_true rfl) rfl ?_
    repeat' (first | refine aops_nil ?_ | (refine aops_one ?_;  first | refine aops_quiet tabOk rfl rfl rfl (Nat.le_of_ble_eq_true rfl) rfl ?_ | (refine aops_cmp rfl rfl rfl (Nat.le_of_ble_eq_true rfl) rfl rfl rfl (fun hq => ?_) (fun hq => ?_) <;> (first | (simp only [decide_eq_true_eq, decide_eq_false_iff_not, beq_iff_eq, beq_eq_false_iff_ne, bne_iff_ne, bne_eq_false_iff_eq, Bool.not_eq_true', Bool.not_eq_false'] at hq; first | (exfalso; omega) | skip) | skip)) | refine aops_call rfl rfl (Nat.le_of_ble_eq_true rfl) rfl rfl rfl rfl (c1) ?_ | refine aops_call rfl rfl (Nat.le_of_ble_eq_true rfl) rfl rfl rfl rfl (c2) ?_ | refine aops_call rfl rfl (Nat.le_of_ble_eq_true rfl) rfl rfl rfl rfl (c3) ?_) | (refine awp_one ?_;  first | refine awp_sreg ?_ | refine awp_seq ?_ | refine awp_ret ?_ | refine awp_skip ?_ | refine awp_cond (b := false) rfl (fun h => Bool.noConfusion h) (fun _ => ?_)) | (refine then_one ?_;  first | refine q_then ?_))
    all_goals first
      | exact absurd rfl (by assumption)
      | (refine aexit_eq (by first | exact .inl rfl | exact .inr rfl) (results_2 rfl (resOk_tmp rfl) (resOk_tmp rfl)) rfl ?_; rfl)
  · rw [if_pos hc] at hQ
    subst hQ
    generalize checkP sformP t = C at *
    refine acalls_plain Tryd.func10 rfl rfl (Nat.le_of_ble_eq_true rfl) rfl ?_
    repeat' (first | refine aops_nil ?_ | (refine aops_one ?_;  first | refine aops_quiet tabOk rfl rfl rfl (Nat.le_of_ble_eq_true rfl) rfl ?_ | (refine aops_cmp rfl rfl rfl (Nat.le_of_ble_eq_true rfl) rfl rfl rfl (fun hq => ?_) (fun hq => ?_) <;> (first | (simp only [decide_eq_true_eq, decide_eq_false_iff_not, beq_iff_eq, beq_eq_false_iff_ne, bne_iff_ne, bne_eq_false_iff_eq, Bool.not_eq_true', Bool.not_eq_false'] at hq; first | (exfalso; omega) | skip) | skip)) | refine aops_call rfl rfl (Nat.le_of_ble_eq_true rfl) rfl rfl rfl rfl (c1) ?_) | (refine awp_one ?_;  first | refine awp_sreg ?_ | refine awp_seq ?_ | refine awp_ret ?_ | refine awp_cond (b := true) rfl (fun _ => ?_) (fun h => Bool.noConfusion h)) | (refine then_one ?_;  first | refine q_then_ret ?_))
    all_goals first
      | exact absurd rfl (by assumption)
      | exact absurd (by assumption) hc
      | (refine aexit_eq (by first | exact .inl rfl | exact .inr rfl) (results_2 rfl (resOk_tmp rfl) (resOk_tmp rfl)) rfl ?_; rfl)
end Go.Proofs.YtlbemgokilhdnaaDoor.Ab
namespace Go.Proofs.YtlbemgokilhdnaaDoor.Ab
set_option linter.unusedVariables false
set_option linter.unusedSimpArgs false
mutual
/-- A tree with other variables: g of their numbers and of the binders around. -/
def mapV (g : Int → Int → Int) : Tree → Int → Tree
  | .nil, _ => .nil
  | .node k n a b kids, d => if k = 110 then varT (g n d) else .node k n a b (mapVs g kids (d + bindsP k))
def mapVs (g : Int → Int → Int) : List Tree → Int → List Tree
  | [], _ => []
  | t :: ts, d => mapV g t d :: mapVs g ts d
end
mutual
/-- Does it hold of each variable? -/
def allV (p : Int → Int → Bool) : Tree → Int → Bool
  | .nil, _ => true
  | .node k n _ _ kids, d => if k = 110 then p n d else allVs p kids (d + bindsP k)
def allVs (p : Int → Int → Bool) : List Tree → Int → Bool
  | [], _ => true
  | t :: ts, d => allV p t d && allVs p ts d
end
theorem mapVs_map (g : Int → Int → Int) (d : Int) : ∀ l : List Tree, mapVs g l d = l.map fun t => mapV g t d
  | [] => by rw [mapVs]; rfl
  | t :: ts => by rw [mapVs, mapVs_map g d ts]; rfl
theorem allVs_all (p : Int → Int → Bool) (d : Int) : ∀ l : List Tree, allVs p l d = l.all fun t => allV p t d
  | [] => by rw [allVs]; rfl
  | t :: ts => by rw [allVs, allVs_all p d ts]; rfl
theorem mapV_node (g : Int → Int → Int) {k n : Int} {a b : ByteArray} {kids : List Tree} (d : Int) (hk : ¬ k = 110) : mapV g (.node k n a b kids) d = .node k n a b (kids.map fun t => mapV g t (d + bindsP k)) := by rw [mapV, if_neg hk, mapVs_map]
theorem mapV_var (g : Int → Int → Int) {n : Int} {a b : ByteArray} {kids : List Tree} (d : Int) : mapV g (.node 110 n a b kids) d = varT (g n d) := by rw [mapV, if_pos rfl]
theorem allV_node (p : Int → Int → Bool) {k n : Int} {a b : ByteArray} {kids : List Tree} (d : Int) (hk : ¬ k = 110) : allV p (.node k n a b kids) d = kids.all fun t => allV p t (d + bindsP k) := by rw [allV, if_neg hk, allVs_all]
theorem allV_var (p : Int → Int → Bool) {n : Int} {a b : ByteArray} {kids : List Tree} (d : Int) : allV p (.node 110 n a b kids) d = p n d := by rw [allV, if_pos rfl]
theorem mapV_map (g h : Int → Int → Int) (e : Int) (t : Tree) : ∀ d, mapV g (mapV h t d) (d + e) = mapV (fun n x => g (h n x) (x + e)) t d := by
  induction t using Tree.ind with
  | h1 => intro d; rw [mapV, mapV, mapV]
  | h2 k n a b kids ih =>
    intro d
    by_cases hk : k = 110
    · subst hk
      rw [mapV_var, mapV_var]
      exact mapV_var _ _
    · rw [mapV_node _ _ hk, mapV_node _ _ hk, mapV_node _ _ hk, List.map_map]
      congr 1
      refine List.map_congr_left fun t ht => ?_
      show mapV g (mapV h t (d + bindsP k)) (d + e + bindsP k) = _
      rw [show d + e + bindsP k = (d + bindsP k) + e by omega]
      exact ih t ht _
theorem allV_map (p : Int → Int → Bool) (h : Int → Int → Int) (e : Int) (t : Tree) : ∀ d, allV p (mapV h t d) (d + e) = allV (fun n x => p (h n x) (x + e)) t d := by
  induction t using Tree.ind with
  | h1 => intro d; rw [mapV, allV, allV]
  | h2 k n a b kids ih =>
    intro d
    by_cases hk : k = 110
    · subst hk
      rw [mapV_var, allV_var]
      exact allV_var _ _
    · rw [mapV_node _ _ hk, allV_node _ _ hk, allV_node _ _ hk, List.all_map]
      refine Bool.eq_iff_iff.2 ?_
      rw [List.all_eq_true, List.all_eq_true]
      have key : ∀ t ∈ kids, allV p (mapV h t (d + bindsP k)) (d + e + bindsP k) = allV (fun n x => p (h n x) (x + e)) t (d + bindsP k) := fun t ht => by
        rw [show d + e + bindsP k = (d + bindsP k) + e by omega]
        exact ih t ht _
      exact ⟨fun h t ht => by rw [← key t ht]; exact h t ht, fun h t ht => by show allV p (mapV _ t _) _ = true; rw [key t ht]; exact h t ht⟩
theorem mapV_off (g : Int → Int → Int) (e : Int) (t : Tree) : ∀ d, mapV g t (d + e) = mapV (fun n x => g n (x + e)) t d := by
  induction t using Tree.ind with
  | h1 => intro d; rw [mapV, mapV]
  | h2 k n a b kids ih =>
    intro d
    by_cases hk : k = 110
    · subst hk
      rw [mapV_var, mapV_var]
    · rw [mapV_node _ _ hk, mapV_node _ _ hk]
      congr 1
      refine List.map_congr_left fun t ht => ?_
      rw [show d + e + bindsP k = (d + bindsP k) + e by omega]
      exact ih t ht _
theorem allV_off (p : Int → Int → Bool) (e : Int) (t : Tree) : ∀ d, allV p t (d + e) = allV (fun n x => p n (x + e)) t d := by
  induction t using Tree.ind with
  | h1 => intro d; rw [allV, allV]
  | h2 k n a b kids ih =>
    intro d
    by_cases hk : k = 110
    · subst hk
      rw [allV_var, allV_var]
    · rw [allV_node _ _ hk, allV_node _ _ hk]
      refine Bool.eq_iff_iff.2 ?_
      rw [List.all_eq_true, List.all_eq_true]
      have key : ∀ t ∈ kids, allV p t (d + e + bindsP k) = allV (fun n x => p n (x + e)) t (d + bindsP k) := fun t ht => by
        rw [show d + e + bindsP k = (d + bindsP k) + e by omega]
        exact ih t ht _
      exact ⟨fun h t ht => by rw [← key t ht]; exact h t ht, fun h t ht => by rw [key t ht]; exact h t ht⟩
theorem mapV_congr (p : Int → Int → Bool) (g g' : Int → Int → Int) (t : Tree) : ∀ d, okVars t = true → allV p t d = true → (∀ n x, 0 ≤ n → n ≤ 65536 → d ≤ x → p n x = true → g n x = g' n x) → mapV g t d = mapV g' t d := by
  induction t using Tree.ind with
  | h1 => intro d h; simp [okVars] at h
  | h2 k n a b kids ih =>
    intro d hv hp hg
    by_cases hk : k = 110
    · subst hk
      obtain ⟨q1, q2, _⟩ := okVars_var rfl hv
      rw [allV_var] at hp
      rw [mapV_var, mapV_var, hg n d q1 q2 (Int.le_refl _) hp]
    · rw [allV_node _ _ hk, List.all_eq_true] at hp
      have hvs := okVars_kids hk hv
      have hb := bindsP_le k
      rw [mapV_node _ _ hk, mapV_node _ _ hk]
      congr 1
      exact List.map_congr_left fun t ht => ih t ht _ (hvs t ht) (hp t ht) fun n x h1 h2 h3 h4 => hg n x h1 h2 (by omega) h4
theorem allV_imp (p q : Int → Int → Bool) (t : Tree) : ∀ d, okVars t = true → allV p t d = true → (∀ n x, 0 ≤ n → n ≤ 65536 → d ≤ x → p n x = true → q n x = true) → allV q t d = true := by
  induction t using Tree.ind with
  | h1 => intro d h; simp [okVars] at h
  | h2 k n a b kids ih =>
    intro d hv hp hg
    by_cases hk : k = 110
    · subst hk
      obtain ⟨q1, q2, _⟩ := okVars_var rfl hv
      rw [allV_var] at hp ⊢
      exact hg n d q1 q2 (Int.le_refl _) hp
    · have hvs := okVars_kids hk hv
      have hb := bindsP_le k
      rw [allV_node _ _ hk, List.all_eq_true] at hp ⊢
      exact fun t ht => ih t ht _ (hvs t ht) (hp t ht) fun n x h1 h2 h3 h4 => hg n x h1 h2 (by omega) h4
theorem mapV_id (t : Tree) : ∀ d, okVars t = true → mapV (fun n _ => n) t d = t := by
  induction t using Tree.ind with
  | h1 => intro d h; simp [okVars] at h
  | h2 k n a b kids ih =>
    intro d hv
    by_cases hk : k = 110
    · obtain ⟨_, _, rfl, rfl, rfl⟩ := okVars_var hk hv
      subst hk
      exact mapV_var _ _
    · have hvs := okVars_kids hk hv
      rw [mapV_node _ _ hk]
      congr 1
      conv => rhs; rw [← List.map_id kids]
      exact List.map_congr_left fun t ht => ih t ht _ (hvs t ht)
theorem mapV_size (g : Int → Int → Int) (t : Tree) : ∀ d, okVars t = true → (mapV g t d).size = t.size := by
  induction t using Tree.ind with
  | h1 => intro d h; simp [okVars] at h
  | h2 k n a b kids ih =>
    intro d hv
    by_cases hk : k = 110
    · obtain ⟨_, _, rfl, rfl, rfl⟩ := okVars_var hk hv
      subst hk
      rw [mapV_var]; rfl
    · have hvs := okVars_kids hk hv
      rw [mapV_node _ _ hk, Tree.size, Tree.size]
      congr 1
      have key : ∀ l : List Tree, (∀ t ∈ l, t ∈ kids) → Tree.sizes (l.map fun t => mapV g t (d + bindsP k)) = Tree.sizes l := by
        intro l
        induction l with
        | nil => intro _; rfl
        | cons t ts ih2 =>
          intro hm
          rw [List.map_cons, Tree.sizes, Tree.sizes, ih t (hm t (by simp)) _ (hvs t (hm t (by simp))), ih2 fun t' h' => hm t' (by simp [h'])]
      exact key kids fun _ h => h
theorem mapV_whole (g : Int → Int → Int) (t : Tree) : ∀ d, t.whole = true → (mapV g t d).whole = true := by
  induction t using Tree.ind with
  | h1 => intro d h; simp [Tree.whole] at h
  | h2 k n a b kids ih =>
    intro d hw
    by_cases hk : k = 110
    · subst hk
      rw [mapV_var]; rfl
    · rw [mapV_node _ _ hk]
      refine wholes_of fun u hu => ?_
      obtain ⟨t, ht, rfl⟩ := List.mem_map.1 hu
      exact ih t ht _ (wholes_mem hw ht)
theorem mapV_name (g : Int → Int → Int) (t : Tree) (d : Int) (hk : t.kind ≠ 110) : (mapV g t d).name = t.name := by
  cases t with
  | nil => rw [mapV]
  | node k n a b kids =>
    have hk : ¬ k = 110 := hk
    rw [mapV_node _ _ hk]; rfl
theorem rising_map (f : Tree → Tree) : ∀ l : List Tree, (∀ t ∈ l, (f t).name = t.name) → risingP (l.map f) = risingP l
  | [], _ => rfl
  | [t], _ => by simp [risingP]
  | t :: u :: r, h => by
    have ih := rising_map f (u :: r) fun t' h' => h t' (by simp [h'])
    rw [List.map_cons] at ih
    rw [List.map_cons, List.map_cons, risingP, risingP, h t (by simp), h u (by simp), ih]
theorem distinct_map (f : Tree → Tree) : ∀ l : List Tree, (∀ t ∈ l, (f t).name = t.name) → distinctP (l.map f) = distinctP l
  | [], _ => rfl
  | t :: r, h => by
    have ih := distinct_map f r fun t' h' => h t' (by simp [h'])
    have e : ((r.map f).any fun u => eqB u.name t.name) = (r.any fun u => eqB u.name t.name) := by
      rw [List.any_map]
      refine Bool.eq_iff_iff.2 ?_
      rw [List.any_eq_true, List.any_eq_true]
      exact ⟨fun ⟨u, h1, h2⟩ => ⟨u, h1, by have : eqB (f u).name t.name = true := h2; rwa [h u (by simp [h1])] at this⟩, fun ⟨u, h1, h2⟩ => ⟨u, h1, by show eqB (f u).name t.name = true; rw [h u (by simp [h1])]; exact h2⟩⟩
    rw [List.map_cons, distinctP, distinctP, h t (by simp), e, ih]
theorem mapV_kind (g : Int → Int → Int) (t : Tree) : ∀ d, isKindP t = true → mapV g t d = t := by
  induction t using Tree.ind with
  | h1 => intro d h; simp [isKindP] at h
  | h2 k n a b kids ih =>
    intro d h
    rw [isKindP] at h
    by_cases k0 : k = 100
    · rw [if_pos k0, Bool.and_eq_true] at h
      have e0 : kids = [] := List.eq_nil_of_length_eq_zero (by simpa using h.2)
      subst e0
      rw [mapV_node _ _ (by omega)]; rfl
    · rw [if_neg k0] at h
      by_cases k1 : k = 101
      · rw [if_pos k1, Bool.and_eq_true, isKindPs_map] at h
        rw [mapV_node _ _ (by omega)]
        congr 1
        conv => rhs; rw [← List.map_id kids]
        refine List.map_congr_left fun t ht => ih t ht _ ?_
        have := List.all_eq_true.1 h.2 (isKindP t) (List.mem_map.2 ⟨t, ht, rfl⟩)
        simpa using this
      · rw [if_neg k1] at h; cases h
theorem allV_kind (p : Int → Int → Bool) (t : Tree) : ∀ d, isKindP t = true → allV p t d = true := by
  induction t using Tree.ind with
  | h1 => intro d h; simp [isKindP] at h
  | h2 k n a b kids ih =>
    intro d h
    rw [isKindP] at h
    by_cases k0 : k = 100
    · rw [if_pos k0, Bool.and_eq_true] at h
      have e0 : kids = [] := List.eq_nil_of_length_eq_zero (by simpa using h.2)
      subst e0
      rw [allV_node _ _ (by omega)]; rfl
    · rw [if_neg k0] at h
      by_cases k1 : k = 101
      · rw [if_pos k1, Bool.and_eq_true, isKindPs_map] at h
        rw [allV_node _ _ (by omega), List.all_eq_true]
        intro t ht
        refine ih t ht _ ?_
        have := List.all_eq_true.1 h.2 (isKindP t) (List.mem_map.2 ⟨t, ht, rfl⟩)
        simpa using this
      · rw [if_neg k1] at h; cases h
/-- A constructor stays one, where its variables stay within what may be. -/
theorem mapV_con (g : Int → Int → Int) (t : Tree) : ∀ d, isConP t = true → allV (fun n x => decide (0 ≤ g n x ∧ g n x ≤ 65536)) t d = true → isConP (mapV g t d) = true := by
  induction t using Tree.sind with
  | h t ih =>
    intro d h hp
    cases t with
    | nil => simp [isConP] at h
    | node k n a b kids =>
      rw [isConP, Bool.and_eq_true] at h
      obtain ⟨hb, h⟩ := h
      by_cases k0 : k = 110
      · subst k0
        rw [allV_var, decide_eq_true_eq] at hp
        rw [mapV_var]
        unfold varT
        rw [isConP, if_pos rfl]
        have hbare : bareP (g n d) emptyB emptyB false ((110 : Int) == 110) = true := by
          unfold bareP
          rw [(eqB_iff _ _).2 rfl]
          simp
        rw [hbare, decide_eq_true (by omega : g n d ≥ 0), decide_eq_true hp.2]
        rfl
      · rw [allV_node _ _ k0, List.all_eq_true] at hp
        rw [mapV_node _ _ k0, isConP, hb, if_neg k0]
        rw [if_neg k0] at h
        have kid : ∀ t ∈ kids, isConP t = true → isConP (mapV g t (d + bindsP k)) = true := fun t ht hc => ih t (size_kid ht) _ hc (hp t ht)
        have named : ∀ kind : Int, kind ≠ 110 → bindsP kind = 0 → ∀ t ∈ kids, okNamed kind t = true → okNamed kind (mapV g t (d + bindsP k)) = true ∧ (mapV g t (d + bindsP k)).name = t.name := fun kind hkd hbd t ht ho => by
          have hp1 := hp t ht
          have hz := size_kid (k := k) (n := n) (a := a) (b := b) ht
          cases t with
          | nil => simp [okNamed] at ho
          | node k' n' a' b' ks =>
            simp only [okNamed, Bool.and_eq_true, beq_iff_eq] at ho
            obtain ⟨⟨⟨rfl, h1⟩, h2⟩, h3⟩ := ho
            refine ⟨?_, mapV_name _ _ _ hkd⟩
            by_cases hl : ks.length = 1
            · obtain ⟨c, rfl⟩ := one_of hl
              rw [allV_node _ _ hkd, List.all_eq_true] at hp1
              rw [mapV_node _ _ hkd]
              simp only [okNamed, List.map_cons, List.map_nil, isCon1, Bool.and_eq_true, beq_iff_eq]
              have hz2 := size_kid (k := k') (n := n') (a := a') (b := b') (kids := [c]) (t := c) (by simp)
              exact ⟨⟨⟨trivial, h1⟩, h2⟩, ih c (by omega) _ (by simpa [isCon1] using h3) (hp1 c (by simp))⟩
            · rw [isCon1_no hl] at h3; cases h3
        rw [Bool.true_and]
        by_cases k1 : k = 111 ∨ k = 112 ∨ k = 113
        · rw [if_pos k1] at h ⊢
          rw [List.length_map]; exact h
        · rw [if_neg k1] at h ⊢
          by_cases k2 : k = 114 ∨ k = 120
          · rw [if_pos k2, Bool.and_eq_true, isCons_all] at h ⊢
            refine ⟨by rw [List.length_map]; exact h.1, ?_⟩
            rw [List.all_eq_true] at h ⊢
            intro u hu
            obtain ⟨t, ht, rfl⟩ := List.mem_map.1 hu
            exact kid t ht (h.2 t ht)
          · rw [if_neg k2] at h ⊢
            by_cases k3 : k = 115
            · rw [if_pos k3, Bool.and_eq_true, namedPs_all, List.all_eq_true] at h ⊢
              have hn := fun t ht => named 116 (by decide) (by decide) t ht (h.1 t ht)
              refine ⟨fun u hu => ?_, ?_⟩
              · obtain ⟨t, ht, rfl⟩ := List.mem_map.1 hu
                exact (hn t ht).1
              · rw [rising_map _ _ fun t ht => (hn t ht).2]; exact h.2
            · rw [if_neg k3] at h ⊢
              by_cases k4 : k = 117 ∨ k = 118 ∨ k = 119
              · rw [if_pos k4] at h ⊢
                by_cases h2 : kids.length = 2
                · obtain ⟨x, y, rfl⟩ := two h2
                  simp only [isCon2, Bool.and_eq_true] at h
                  simp only [List.map_cons, List.map_nil, isCon2, Bool.and_eq_true]
                  exact ⟨by rw [mapV_kind _ _ _ h.1]; exact h.1, kid y (by simp) h.2⟩
                · rw [isCon2_no h2] at h; cases h
              · rw [if_neg k4] at h ⊢
                by_cases k5 : k = 121
                · rw [if_pos k5, Bool.and_eq_true, Bool.and_eq_true, namedPs_all, List.all_eq_true] at h ⊢
                  have hn := fun t ht => named 122 (by decide) (by decide) t ht (h.1.2 t ht)
                  refine ⟨⟨by rw [List.length_map]; exact h.1.1, fun u hu => ?_⟩, ?_⟩
                  · obtain ⟨t, ht, rfl⟩ := List.mem_map.1 hu
                    exact (hn t ht).1
                  · rw [distinct_map _ _ fun t ht => (hn t ht).2]; exact h.2
                · rw [if_neg k5] at h; cases h
/-- What Shift makes of a variable's number, and where it may. -/
def shG (b f : Int) (n d : Int) : Int := if n < d ∨ n - d < f then n else n + b
def okG (b f : Int) (n d : Int) : Bool := decide (n < d ∨ n - d < f ∨ (d - n ≤ b ∧ b ≤ 65536 - n))
theorem shiftV_sh (b f n d : Int) (s : Bool) : (shiftV b f n d s).2 = (s && okG b f n d) ∧ ((s && okG b f n d) = true → (shiftV b f n d s).1 = varT (shG b f n d)) := by
  unfold shiftV okG shG
  by_cases h1 : n < d ∨ n - d < f
  · rw [if_pos h1, if_pos h1, decide_eq_true (by omega)]
    exact ⟨by simp, fun _ => rfl⟩
  · rw [if_neg h1, if_neg h1]
    by_cases h2 : s = true ∧ d - n ≤ b ∧ b ≤ 65536 - n
    · rw [if_pos h2, decide_eq_true (by omega), h2.1]
      exact ⟨rfl, fun _ => rfl⟩
    · rw [if_neg h2]
      have : (s && decide (n < d ∨ n - d < f ∨ (d - n ≤ b ∧ b ≤ 65536 - n))) = false := by
        cases s with
        | false => rfl
        | true =>
          rw [Bool.true_and, decide_eq_false_iff_not]
          intro h3
          exact h2 ⟨rfl, by omega⟩
      rw [this]
      exact ⟨rfl, fun h => by cases h⟩
theorem walkS_sh (b f : Int) (t : Tree) : ∀ d s, okVars t = true → (walkS (shiftV b f) t d s).2 = (s && allV (okG b f) t d) ∧ ((s && allV (okG b f) t d) = true → (walkS (shiftV b f) t d s).1 = mapV (shG b f) t d) := by
  induction t using Tree.ind with
  | h1 => intro d s h; simp [okVars] at h
  | h2 k n a b' kids ih =>
    intro d s hv
    by_cases hk : k = 110
    · subst hk
      rw [walkS_var, allV_var, mapV_var]
      exact shiftV_sh b f n d s
    · have hvs := okVars_kids hk hv
      rw [walkS_any _ _ _ _ kids hk, allV_node _ _ hk, mapV_node _ _ hk]
      have key : ∀ l : List Tree, (∀ t ∈ l, t ∈ kids) → ∀ s, (walkSs (shiftV b f) l (d + bindsP k) s).2 = (s && l.all fun t => allV (okG b f) t (d + bindsP k)) ∧ ((s && l.all fun t => allV (okG b f) t (d + bindsP k)) = true → (walkSs (shiftV b f) l (d + bindsP k) s).1 = l.map fun t => mapV (shG b f) t (d + bindsP k)) := by
        intro l
        induction l with
        | nil => intro _ s; rw [walkSs]; simp
        | cons t ts ih2 =>
          intro hm s
          obtain ⟨g1, g2⟩ := ih t (hm t (by simp)) (d + bindsP k) s (hvs t (hm t (by simp)))
          obtain ⟨g3, g4⟩ := ih2 (fun t' h' => hm t' (by simp [h'])) (walkS (shiftV b f) t (d + bindsP k) s).2
          rw [walkSs, List.all_cons, List.map_cons]
          dsimp only
          rw [g1] at g3 g4
          rw [Bool.and_assoc] at g3 g4
          refine ⟨by rw [g1]; exact g3, fun h => ?_⟩
          rw [g1, g4 h]
          rw [← Bool.and_assoc, Bool.and_eq_true] at h
          rw [g2 h.1]
      obtain ⟨g1, g2⟩ := key kids (fun _ h => h) s
      exact ⟨g1, fun h => by dsimp only; rw [g2 h]⟩
theorem shiftP_sh (t : Tree) (hc : checkP isConP t = 0) (b f : Int) (hf : 0 ≤ f) : shiftP t b f = if allV (okG b f) t 0 = true then (mapV (shG b f) t 0, 0) else (.nil, 2) := by
  obtain ⟨_, _, hcon⟩ := checkP_whole hc
  obtain ⟨g1, g2⟩ := walkS_sh b f t 0 true (okVars_con t hcon)
  rw [Bool.true_and] at g1 g2
  unfold shiftP
  rw [if_pos hc, decide_eq_true hf, g1]
  by_cases h : allV (okG b f) t 0 = true
  · rw [if_pos h, if_pos h, g2 h]
  · rw [if_neg h, if_neg h]
end Go.Proofs.YtlbemgokilhdnaaDoor.Ab
namespace Go.Proofs.YtlbemgokilhdnaaDoor.Ab
set_option linter.unusedVariables false
set_option linter.unusedSimpArgs false
/-- What sem.Shift makes of a constructor. -/
def sshC (by_ from_ : Int) (t : Tree) (d : Int) : Tree × Int :=
  if from_ > 65536 then (t, 0) else if by_ < 0 ∧ (shiftP t (max by_ (-65537) - d) (from_ + d)).2 ≠ 0 then (.nil, (shiftP t (max by_ (-65537) - d) (from_ + d)).2) else shiftP t by_ (from_ + d)
/-- What sem.Shift tells. -/
def sShiftP (t : Tree) (by_ from_ : Int) : Tree × Int :=
  if checkP sformP t ≠ 0 then (.nil, checkP sformP t) else if from_ < 0 then (.nil, 2) else swalkP (sshC by_ from_) t 0
theorem con_sh (c : Tree) (hc : checkP isConP c = 0) (b D : Int) (hb : 0 ≤ b) (hb2 : b ≤ 1000) (hD : 0 ≤ D) (h : (sshC b 0 c D).2 = 0) :
    ∃ c', sshC b 0 c D = (c', 0) ∧ checkP isConP c' = 0 ∧ c'.size = c.size ∧ c' = mapV (shG b 0) c D ∧ allV (okG b 0) c D = true ∧ sshC (-b) 0 c' D = (c, 0) := by
  obtain ⟨hw, hz, hcon⟩ := checkP_whole hc
  have hv := okVars_con c hcon
  have e0 : sshC b 0 c D = shiftP c b (0 + D) := by
    unfold sshC
    rw [if_neg (by omega), if_neg (by omega)]
  rw [e0, Int.zero_add, shiftP_sh c hc b D hD] at h
  by_cases ha : allV (okG b D) c 0 = true
  · have e1 : sshC b 0 c D = (mapV (shG b D) c 0, 0) := by rw [e0, Int.zero_add, shiftP_sh c hc b D hD, if_pos ha]
    have hcon' : isConP (mapV (shG b D) c 0) = true := mapV_con _ c 0 hcon (allV_imp _ _ c 0 hv ha fun n x h1 h2 h3 h4 => by
      unfold okG at h4
      rw [decide_eq_true_eq] at h4 ⊢
      unfold shG
      split <;> omega)
    have hsz : (mapV (shG b D) c 0).size = c.size := mapV_size _ c 0 hv
    have hck : checkP isConP (mapV (shG b D) c 0) = 0 := by
      rw [checkP_ok isConP _ (mapV_whole _ c 0 hw) (by omega), if_pos hcon']
    have hp1 : allV (okG (-b - D) D) (mapV (shG b D) c 0) 0 = true := by
      have := allV_map (okG (-b - D) D) (shG b D) 0 c 0
      rw [Int.zero_add] at this
      rw [this]
      refine allV_imp _ _ c 0 hv ha fun n x h1 h2 h3 h4 => ?_
      unfold okG at h4 ⊢
      rw [decide_eq_true_eq] at h4 ⊢
      unfold shG
      split <;> omega
    have hp2 : allV (okG (-b) D) (mapV (shG b D) c 0) 0 = true := by
      have := allV_map (okG (-b) D) (shG b D) 0 c 0
      rw [Int.zero_add] at this
      rw [this]
      refine allV_imp _ _ c 0 hv ha fun n x h1 h2 h3 h4 => ?_
      unfold okG at h4 ⊢
      rw [decide_eq_true_eq] at h4 ⊢
      unfold shG
      split <;> omega
    have hback : mapV (shG (-b) D) (mapV (shG b D) c 0) 0 = c := by
      have := mapV_map (shG (-b) D) (shG b D) 0 c 0
      rw [Int.zero_add] at this
      rw [this]
      conv => rhs; rw [← mapV_id c 0 hv]
      refine mapV_congr _ _ _ c 0 hv ha fun n x h1 h2 h3 h4 => ?_
      unfold okG at h4
      rw [decide_eq_true_eq] at h4
      unfold shG
      split <;> split <;> omega
    refine ⟨_, e1, hck, hsz, ?_, ?_, ?_⟩
    · have := mapV_off (shG b 0) D c 0
      rw [Int.zero_add] at this
      rw [this]
      refine mapV_congr _ _ _ c 0 hv ha fun n x h1 h2 h3 h4 => ?_
      unfold shG
      split <;> split <;> omega
    · have := allV_off (okG b 0) D c 0
      rw [Int.zero_add] at this
      rw [this]
      refine allV_imp _ _ c 0 hv ha fun n x h1 h2 h3 h4 => ?_
      unfold okG at h4 ⊢
      rw [decide_eq_true_eq] at h4 ⊢
      omega
    · unfold sshC
      rw [if_neg (by omega), Int.zero_add]
      have em : max (-b) (-65537) - D = -b - D := by omega
      rw [em, shiftP_sh _ hck (-b - D) D hD, if_pos hp1, if_neg (by simp), shiftP_sh _ hck (-b) D hD, if_pos hp2, hback]
  · rw [if_neg ha] at h; cases h
/-- All kids are walked, or none. -/
theorem swalkPs_all (C : Tree → Int → Tree × Int) (d : Int) : ∀ l : List Tree, (swalkPs C l d).2 = 0 → (∀ t ∈ l, (swalkP C t d).2 = 0) ∧ (swalkPs C l d).1 = l.map fun t => (swalkP C t d).1
  | [], _ => by rw [swalkPs]; exact ⟨fun t h => (List.not_mem_nil h).elim, rfl⟩
  | t :: ts, h => by
    rw [swalkPs] at h ⊢
    by_cases h1 : (swalkP C t d).2 = 0
    · rw [if_neg (by simpa using h1)] at h ⊢
      by_cases h2 : (swalkPs C ts d).2 = 0
      · rw [if_neg (by simpa using h2)]
        obtain ⟨g1, g2⟩ := swalkPs_all C d ts h2
        exact ⟨fun u hu => by rcases List.mem_cons.1 hu with rfl | hu; exact h1; exact g1 u hu, by rw [g2]; rfl⟩
      · rw [if_pos h2] at h; exact absurd h h2
    · rw [if_pos h1] at h; exact absurd h h1
theorem swalkPs_of (C : Tree → Int → Tree × Int) (d : Int) : ∀ l : List Tree, (∀ t ∈ l, (swalkP C t d).2 = 0) → swalkPs C l d = (l.map fun t => (swalkP C t d).1, 0)
  | [], _ => by rw [swalkPs]; rfl
  | t :: ts, h => by
    have ih := swalkPs_of C d ts fun u hu => h u (by simp [hu])
    rw [swalkPs, if_neg (by simpa using h t (by simp)), ih]
    rfl
theorem swalkP_node {C : Tree → Int → Tree × Int} {k n : Int} {a b : ByteArray} {kids : List Tree} {d : Int} (hk : ¬ k < 160) (h : (swalkP C (.node k n a b kids) d).2 = 0) :
    (∀ t ∈ kids, (swalkP C t (d + sbindsP k n)).2 = 0) ∧ (swalkP C (.node k n a b kids) d).1 = .node k n a b (kids.map fun t => (swalkP C t (d + sbindsP k n)).1) := by
  rw [swalkP, if_neg hk] at h ⊢
  by_cases h1 : (swalkPs C kids (d + sbindsP k n)).2 = 0
  · rw [if_neg (by simpa using h1)]
    obtain ⟨g1, g2⟩ := swalkPs_all C _ kids h1
    exact ⟨g1, by rw [g2]⟩
  · rw [if_pos h1] at h; exact absurd h h1
theorem swalkP_of {C : Tree → Int → Tree × Int} {k n : Int} {a b : ByteArray} {kids : List Tree} {d : Int} (hk : ¬ k < 160) (h : ∀ t ∈ kids, (swalkP C t (d + sbindsP k n)).2 = 0) :
    swalkP C (.node k n a b kids) d = (.node k n a b (kids.map fun t => (swalkP C t (d + sbindsP k n)).1), 0) := by
  rw [swalkP, if_neg hk, swalkPs_of C _ kids h]
  rfl
theorem swalkP_con {C : Tree → Int → Tree × Int} {c : Tree} (hc : checkP isConP c = 0) (d : Int) : swalkP C c d = C c d := by
  obtain ⟨k, n, a, b, ks, rfl, hk⟩ := con_low hc
  rw [swalkP, if_pos hk]
/-- What binders lie around is changed as what lies in them. -/
theorem mapV_around (g : Int → Int → Int) (kind : Int) (hk : bindsP kind = 1) (hk2 : kind ≠ 110) (c : Tree) : ∀ (n : Nat) (d : Int), mapV g (aroundP kind n c) d = aroundP kind n (mapV g c (d + n))
  | 0, d => by rw [aroundP, aroundP]; simp
  | n + 1, d => by
    rw [aroundP, aroundP]
    unfold conT
    rw [mapV_node _ _ hk2]
    simp only [List.map_cons, List.map_nil]
    rw [hk, mapV_around g kind hk hk2 c n (d + 1)]
    have e : mapV g starT (d + 1) = starT := by
      unfold starT conT
      rw [mapV_node _ _ (by decide)]; rfl
    rw [e, show d + 1 + (n : Int) = d + ((n + 1 : Nat) : Int) by omega]
theorem allV_around (p : Int → Int → Bool) (kind : Int) (hk : bindsP kind = 1) (hk2 : kind ≠ 110) (c : Tree) : ∀ (n : Nat) (d : Int), allV p (aroundP kind n c) d = allV p c (d + n)
  | 0, d => by rw [aroundP]; simp
  | n + 1, d => by
    rw [aroundP]
    unfold conT
    rw [allV_node _ _ hk2]
    simp only [List.all_cons, List.all_nil, Bool.and_true]
    rw [hk, allV_around p kind hk hk2 c n (d + 1)]
    have e : allV p starT (d + 1) = true := by
      unfold starT conT
      rw [allV_node _ _ (by decide)]; rfl
    rw [e, Bool.true_and, show d + 1 + (n : Int) = d + ((n + 1 : Nat) : Int) by omega]
/-- What a signature of T is shifted to: m; it goes back; its constructor is shifted as it is. -/
structure ShOk (b : Int) (t m : Tree) (D : Int) : Prop where
  goes : swalkP (sshC b 0) t D = (m, 0)
  back : swalkP (sshC (-b) 0) m D = (t, 0)
  whole : m.whole = true
  size : m.size = t.size
  con : (transP t).2 = 0 → (transP m).2 = 0 → (transP m).1 = mapV (shG b 0) (transP t).1 D ∧ allV (okG b 0) (transP t).1 D = true
theorem tok_sh (c c' : Tree) (hc : checkP isConP c = 0) (hc' : checkP isConP c' = 0) (b D : Int) (hb : 0 ≤ b) (hD : 0 ≤ D) (e : c' = mapV (shG b 0) c D) (ho : allV (okG b 0) c D = true) (h0 : (tokP c).2 = 0) (h0' : (tokP c').2 = 0) :
    (allTok c').1 = mapV (shG b 0) (allTok c).1 D ∧ allV (okG b 0) (allTok c).1 D = true := by
  obtain ⟨_, _, hcon⟩ := checkP_whole hc
  obtain ⟨_, _, hcon'⟩ := checkP_whole hc'
  have hv := okVars_con c hcon
  have hv' := okVars_con c' hcon'
  have sh1 : ∀ x : Tree, checkP isConP x = 0 → (tokP x).2 = 0 → allV (okG 1 0) x 0 = true ∧ (tokP x).1 = conT 120 [conT 110 [], mapV (shG 1 0) x 0] := fun x hx hx0 => by
    have es := shiftP_sh x hx 1 0 (Int.le_refl _)
    unfold tokP at hx0 ⊢
    by_cases ha : allV (okG 1 0) x 0 = true
    · rw [if_pos ha] at es
      rw [es, if_neg (by simp)]
      exact ⟨ha, rfl⟩
    · rw [if_neg ha] at es
      rw [es, if_pos (by simp)] at hx0
      cases hx0
  obtain ⟨a1, t1⟩ := sh1 c hc h0
  obtain ⟨a2, t2⟩ := sh1 c' hc' h0'
  have emap : mapV (shG 1 0) c' 0 = mapV (shG b 0) (mapV (shG 1 0) c 0) (D + 1) := by
    have e1 := mapV_map (shG b 0) (shG 1 0) (D + 1) c 0
    rw [Int.zero_add] at e1
    rw [e1, e]
    have e2 := mapV_off (shG b 0) D c 0
    rw [Int.zero_add] at e2
    rw [e2]
    have e3 := mapV_map (shG 1 0) (fun n x => shG b 0 n (x + D)) 0 c 0
    rw [Int.zero_add] at e3
    rw [e3]
    refine mapV_congr _ _ _ c 0 hv a1 fun n x h1 h2 h3 h4 => ?_
    unfold shG
    split <;> split <;> split <;> split <;> omega
  have eall : allV (okG b 0) (mapV (shG 1 0) c 0) (D + 1) = true := by
    have e1 := allV_map (okG b 0) (shG 1 0) (D + 1) c 0
    rw [Int.zero_add] at e1
    rw [e1]
    have e2 := mapV_off (shG b 0) D c 0
    rw [Int.zero_add] at e2
    rw [e, e2] at a2
    have e3 := allV_map (okG 1 0) (fun n x => shG b 0 n (x + D)) 0 c 0
    rw [Int.zero_add] at e3
    rw [e3] at a2
    refine allV_imp _ _ c 0 hv a2 fun n x h1 h2 h3 h4 => ?_
    unfold okG shG at h4 ⊢
    rw [decide_eq_true_eq] at h4 ⊢
    revert h4
    split <;> split <;> omega
  have ev : mapV (shG b 0) (conT 110 []) (D + 1) = conT 110 [] := by
    unfold conT
    rw [mapV_var]
    unfold shG varT
    rw [if_pos (by omega)]
  have ea : allV (okG b 0) (conT 110 []) (D + 1) = true := by
    unfold conT
    rw [allV_var]
    unfold okG
    rw [decide_eq_true (by omega)]
  have hh : isKindP higherT = true := by decide +kernel
  have emt : mapV (shG b 0) (tokP c).1 (D + 1) = (tokP c').1 := by
    rw [t1, t2]
    unfold conT at ev ⊢
    rw [mapV_node _ _ (by decide)]
    simp only [List.map_cons, List.map_nil]
    rw [show D + 1 + bindsP 120 = D + 1 by unfold bindsP; simp, ev, emap]
  have eat : allV (okG b 0) (tokP c).1 (D + 1) = true := by
    rw [t1]
    unfold conT at ea ⊢
    rw [allV_node _ _ (by decide)]
    simp only [List.all_cons, List.all_nil, Bool.and_true]
    rw [show D + 1 + bindsP 120 = D + 1 by unfold bindsP; simp, ea, eall]
    rfl
  unfold allTok
  rw [if_neg (by simpa using h0'), if_neg (by simpa using h0)]
  dsimp only
  unfold conT
  refine ⟨?_, ?_⟩
  · rw [mapV_node _ _ (by decide)]
    simp only [List.map_cons, List.map_nil]
    rw [show D + bindsP 117 = D + 1 from rfl, mapV_kind _ _ _ hh, mapV_node _ _ (by decide)]
    simp only [List.map_cons, List.map_nil]
    rw [show D + 1 + bindsP 114 = D + 1 by unfold bindsP; simp, emt]
  · rw [allV_node _ _ (by decide)]
    simp only [List.all_cons, List.all_nil, Bool.and_true]
    rw [show D + bindsP 117 = D + 1 from rfl, allV_kind _ _ _ hh, allV_node _ _ (by decide)]
    simp only [List.all_cons, List.all_nil, Bool.and_true]
    rw [show D + 1 + bindsP 114 = D + 1 by unfold bindsP; simp, eat]
    rfl
end Go.Proofs.YtlbemgokilhdnaaDoor.Ab
namespace Go.Proofs.YtlbemgokilhdnaaDoor.Ab
set_option linter.unusedVariables false
set_option linter.unusedSimpArgs false
theorem trans_ex (n : Int) (a b : ByteArray) (c : Tree) : transP (.node 164 n a b [c]) = if (transP c).2 = 0 then (aroundP 118 n.toNat (transP c).1, 0) else (.nil, (transP c).2) := by
  rw [transP, if_neg (by decide), if_neg (by decide), if_neg (by decide), plnRs, plnRs]
  by_cases h : (transP c).2 = 0
  · rw [if_pos h, seqP_ok _ (by intro r hr; rw [List.mem_singleton.1 hr]; exact h)]
    unfold finP
    rw [if_neg (by simp), if_pos rfl]; rfl
  · rw [if_neg h]
    have e : seqP [transP c] = ([], (transP c).2) := by rw [seqP, if_pos h]
    rw [e]
    unfold finP
    rw [if_pos h]
theorem trans_fun (n : Int) (a b : ByteArray) (c x : Tree) : transP (.node 165 n a b [c, x]) = if (transP c).2 = 0 then (if (transP x).2 = 0 then (aroundP 117 n.toNat (conT 114 [(transP c).1, (transP x).1]), 0) else (.nil, (transP x).2)) else (.nil, (transP c).2) := by
  rw [transP, if_neg (by decide), if_neg (by decide), if_neg (by decide), plnRs, plnRs, plnRs]
  by_cases h : (transP c).2 = 0
  · rw [if_pos h]
    by_cases h1 : (transP x).2 = 0
    · rw [if_pos h1, seqP_ok _ (by intro r hr; simp only [List.mem_cons, List.not_mem_nil, or_false] at hr; rcases hr with rfl | rfl; exact h; exact h1)]
      unfold finP
      rw [if_neg (by simp), if_neg (by decide), if_pos rfl]; rfl
    · rw [if_neg h1]
      have e : seqP [transP c, transP x] = ([], (transP x).2) := by rw [seqP, if_neg (by simpa using h), seqP, if_pos h1, if_pos h1]
      rw [e]
      unfold finP
      rw [if_pos h1]
  · rw [if_neg h]
    have e : seqP [transP c, transP x] = ([], (transP c).2) := by rw [seqP, if_pos h]
    rw [e]
    unfold finP
    rw [if_pos h]
theorem trans_rec (n : Int) (a b : ByteArray) (kids : List Tree) (h : (transP (.node 162 n a b kids)).2 = 0) : (∀ f ∈ kids, (fldR f).2 = 0) ∧ (transP (.node 162 n a b kids)).1 = conT 115 (kids.map fun f => (fldR f).1) := by
  rw [transP, if_neg (by decide), if_neg (by decide), if_pos rfl, fldRs_map] at h ⊢
  have h0 : (seqP (kids.map fldR)).2 = 0 := by
    by_cases h1 : (seqP (kids.map fldR)).2 = 0
    · exact h1
    · unfold finP at h; rw [if_pos h1] at h; exact absurd h h1
  have hall := seqP_inv _ h0
  rw [seqP_ok _ hall]
  unfold finP
  rw [if_neg (by simp), if_neg (by decide), if_neg (by decide)]
  exact ⟨fun f hf => hall _ (List.mem_map_of_mem hf), by dsimp only; rw [List.map_map]; rfl⟩
theorem fld_of (n : Int) (a b : ByteArray) (c : Tree) (h : (fldR (.node 163 n a b [c])).2 = 0) : (transP c).2 = 0 ∧ (fldR (.node 163 n a b [c])).1 = .node 116 0 a emptyB [(transP c).1] := by
  rw [fldR, one1] at h ⊢
  rw [fldOf_err] at h
  refine ⟨h, ?_⟩
  unfold fldOf
  rw [if_neg (by simpa using h)]
theorem sbinds_0 {k n : Int} (h : ¬ (k = 164 ∨ k = 165)) : sbindsP k n = 0 := by unfold sbindsP; rw [if_neg h]
theorem sig_sh (b : Int) (hb : 0 ≤ b) (hb2 : b ≤ 1000) (t : Tree) : isSigP t = true → t.whole = true → ∀ D, 0 ≤ D → (swalkP (sshC b 0) t D).2 = 0 → ∃ m, ShOk b t m D ∧ isSigP m = true := by
  induction t using Tree.sind with
  | h t ih =>
    intro hs hw D hD h0
    obtain ⟨k, n, a, b', kids, rfl⟩ := whole_node hw
    rcases sig_kids hs with ⟨hk, c, rfl, hc⟩ | ⟨rfl, hf, hr⟩
    · have hk160 : ¬ k < 160 := by omega
      have hsb : sbindsP k n = 0 := sbinds_0 (by omega)
      obtain ⟨g1, g2⟩ := swalkP_node hk160 h0
      rw [hsb, Int.add_zero] at g1 g2
      have hc0 := g1 c (by simp)
      rw [swalkP_con hc] at hc0
      obtain ⟨c', e1, e2, e3, e4, e5, e6⟩ := con_sh c hc b D hb hb2 hD hc0
      have hcw' := (checkP_whole e2).1
      refine ⟨.node k n a b' [c'], ⟨?_, ?_, ?_, ?_, ?_⟩, ?_⟩
      · rw [swalkP_of hk160 (by intro u hu; rw [hsb, Int.add_zero]; exact g1 u hu), hsb, Int.add_zero]
        simp only [List.map_cons, List.map_nil]
        rw [swalkP_con hc, e1]
      · rw [swalkP_of hk160 (by intro u hu; rw [List.mem_singleton.1 hu, hsb, Int.add_zero, swalkP_con e2, e6]), hsb, Int.add_zero]
        simp only [List.map_cons, List.map_nil]
        rw [swalkP_con e2, e6]
      · show Tree.wholes [c'] = true
        rw [Tree.wholes, hcw']; rfl
      · simp only [Tree.size, Tree.sizes, e3]
      · intro t0 m0
        rcases hk with rfl | rfl
        · rw [transP, if_pos rfl, transP, if_pos rfl]
          exact ⟨e4, e5⟩
        · have ht : transP (.node 161 n a b' [c]) = allTok c := by rw [transP, if_neg (by decide), if_pos rfl]; rfl
          have hm : transP (.node 161 n a b' [c']) = allTok c' := by rw [transP, if_neg (by decide), if_pos rfl]; rfl
          rw [ht] at t0 ⊢
          rw [hm] at m0 ⊢
          have tk : ∀ x, (allTok x).2 = 0 → (tokP x).2 = 0 := fun x hx => by
            unfold allTok at hx
            by_cases hq : (tokP x).2 = 0
            · exact hq
            · rw [if_pos hq] at hx; exact absurd hx hq
          exact tok_sh c c' hc e2 b D hb hD e4 e5 (tk c t0) (tk c' m0)
      · rw [isSigP, Bool.and_eq_true] at hs ⊢
        refine ⟨hs.1, ?_⟩
        rw [if_pos hk]
        show (checkP isConP c' == 0) = true
        rw [e2]; rfl
    · have hk160 : ¬ (162 : Int) < 160 := by decide
      have hsb : sbindsP 162 n = 0 := sbinds_0 (by decide)
      obtain ⟨g1, g2⟩ := swalkP_node hk160 h0
      rw [hsb, Int.add_zero] at g1 g2
      have key : ∀ f ∈ kids, ∃ n' a' b'' c mc, f = .node 163 n' a' b'' [c] ∧ swalkP (sshC b 0) f D = (.node 163 n' a' b'' [mc], 0) ∧ ShOk b c mc D ∧ isSigP mc = true ∧ swalkP (sshC (-b) 0) (.node 163 n' a' b'' [mc]) D = (f, 0) := fun f hm => by
        obtain ⟨n', a', b'', c, e, hcs⟩ := okSField_form (hf f hm)
        have hz := size_kid (k := 162) (n := n) (a := a) (b := b') hm
        have hwf := wholes_mem hw hm
        have hf0 := g1 f hm
        have hk163 : ¬ (163 : Int) < 160 := by decide
        have hsf : sbindsP 163 n' = 0 := sbinds_0 (by decide)
        subst e
        have hz2 := size_kid (k := 163) (n := n') (a := a') (b := b'') (kids := [c]) (t := c) (by simp)
        obtain ⟨j1, j2⟩ := swalkP_node hk163 hf0
        rw [hsf, Int.add_zero] at j1 j2
        obtain ⟨mc, hsh, hmc⟩ := ih c (by omega) hcs (wholes_mem hwf (by simp)) D hD (j1 c (by simp))
        refine ⟨n', a', b'', c, mc, rfl, ?_, hsh, hmc, ?_⟩
        · rw [swalkP_of hk163 (by intro u hu; rw [hsf, Int.add_zero]; exact j1 u hu), hsf, Int.add_zero]
          simp only [List.map_cons, List.map_nil]
          rw [hsh.goes]
        · rw [swalkP_of hk163 (by intro u hu; rw [List.mem_singleton.1 hu, hsf, Int.add_zero, hsh.back]), hsf, Int.add_zero]
          simp only [List.map_cons, List.map_nil]
          rw [hsh.back]
      have hname : ∀ f ∈ kids, ((swalkP (sshC b 0) f D).1).name = f.name := fun f hm => by
        obtain ⟨n', a', b'', c, mc, rfl, e, _⟩ := key f hm
        rw [e]; rfl
      refine ⟨.node 162 n a b' (kids.map fun t => (swalkP (sshC b 0) t D).1), ⟨?_, ?_, ?_, ?_, ?_⟩, ?_⟩
      · rw [swalkP_of hk160 (by intro u hu; rw [hsb, Int.add_zero]; exact g1 u hu), hsb, Int.add_zero]
      · have back : ∀ f ∈ kids, swalkP (sshC (-b) 0) (swalkP (sshC b 0) f D).1 D = (f, 0) := fun f hm => by
          obtain ⟨n', a', b'', c, mc, rfl, e, _, _, e2⟩ := key f hm
          rw [e]; exact e2
        rw [swalkP_of hk160 (by intro u hu; rw [hsb, Int.add_zero]; obtain ⟨f, hm, rfl⟩ := List.mem_map.1 hu; rw [back f hm]), hsb, Int.add_zero, List.map_map]
        congr 2
        conv => rhs; rw [← List.map_id kids]
        refine List.map_congr_left fun f hm => ?_
        show (swalkP (sshC (-b) 0) (swalkP (sshC b 0) f D).1 D).1 = f
        rw [back f hm]
      · refine wholes_of fun u hu => ?_
        obtain ⟨f, hm, rfl⟩ := List.mem_map.1 hu
        obtain ⟨n', a', b'', c, mc, rfl, e, hsh, _⟩ := key f hm
        rw [e]
        show Tree.wholes [mc] = true
        rw [Tree.wholes, hsh.whole]; rfl
      · have hsz : ∀ l : List Tree, (∀ f ∈ l, f ∈ kids) → Tree.sizes (l.map fun t => (swalkP (sshC b 0) t D).1) = Tree.sizes l := by
          intro l
          induction l with
          | nil => intro _; rfl
          | cons f fs ih2 =>
            intro hm
            obtain ⟨n', a', b'', c, mc, e0, e, hsh, _⟩ := key f (hm f (by simp))
            rw [List.map_cons, Tree.sizes, Tree.sizes, ih2 fun f' h' => hm f' (by simp [h']), e, e0]
            simp only [Tree.size, Tree.sizes, hsh.size]
        rw [Tree.size, Tree.size, hsz kids fun _ h => h]
      · intro t0 m0
        obtain ⟨r1, r2⟩ := trans_rec n a b' kids t0
        obtain ⟨r3, r4⟩ := trans_rec n a b' _ m0
        rw [r2, r4, List.map_map]
        have el : ∀ f ∈ kids, (fldR (swalkP (sshC b 0) f D).1).1 = mapV (shG b 0) (fldR f).1 D ∧ allV (okG b 0) (fldR f).1 D = true := fun f hm => by
          have q1 := r1 f hm
          have q2 := r3 _ (List.mem_map_of_mem hm)
          obtain ⟨n', a', b'', c, mc, rfl, e, hsh, _⟩ := key f hm
          rw [e] at q2 ⊢
          obtain ⟨p1, p2⟩ := fld_of n' a' b'' c q1
          obtain ⟨p3, p4⟩ := fld_of n' a' b'' mc q2
          obtain ⟨p5, p6⟩ := hsh.con p1 p3
          rw [p2, p4, mapV_node _ _ (by decide), allV_node _ _ (by decide)]
          simp only [List.map_cons, List.map_nil, List.all_cons, List.all_nil, Bool.and_true]
          rw [show D + bindsP 116 = D by unfold bindsP; simp]
          exact ⟨by rw [p5], p6⟩
        unfold conT
        rw [mapV_node _ _ (by decide), allV_node _ _ (by decide), show D + bindsP 115 = D by unfold bindsP; simp, List.map_map, List.all_map, List.all_eq_true]
        refine ⟨?_, fun f hm => (el f hm).2⟩
        congr 1
        exact List.map_congr_left fun f hm => (el f hm).1
      · rw [isSigP, Bool.and_eq_true] at hs ⊢
        refine ⟨hs.1, ?_⟩
        rw [if_neg (by decide), if_pos rfl, sfieldPs_all, rising_map _ _ hname, hr, Bool.and_true, List.all_eq_true]
        intro u hu
        obtain ⟨f, hm, rfl⟩ := List.mem_map.1 hu
        have hok := hf f hm
        obtain ⟨n', a', b'', c, mc, rfl, e, _, hmc, _⟩ := key f hm
        rw [e]
        simp only [okSField, sigOne, Bool.and_eq_true] at hok ⊢
        exact ⟨hok.1, hmc⟩
theorem ex_sh (b : Int) (hb : 0 ≤ b) (hb2 : b ≤ 1000) (t : Tree) (hx : isExP t = true) (hw : t.whole = true) (D : Int) (hD : 0 ≤ D) (h0 : (swalkP (sshC b 0) t D).2 = 0) : ∃ m, ShOk b t m D ∧ isExP m = true := by
  obtain ⟨n, a, b', c, rfl, h1, h2, hc⟩ := ex_form hx
  have hk160 : ¬ (164 : Int) < 160 := by decide
  have hsb : sbindsP 164 n = n := by unfold sbindsP; rw [if_pos (.inl rfl)]
  obtain ⟨g1, g2⟩ := swalkP_node hk160 h0
  rw [hsb] at g1 g2
  obtain ⟨mc, hsh, hmc⟩ := sig_sh b hb hb2 c hc (wholes_mem hw (by simp)) (D + n) (by omega) (g1 c (by simp))
  refine ⟨.node 164 n a b' [mc], ⟨?_, ?_, ?_, ?_, ?_⟩, ?_⟩
  · rw [swalkP_of hk160 (by intro u hu; rw [hsb]; exact g1 u hu), hsb]
    simp only [List.map_cons, List.map_nil]
    rw [hsh.goes]
  · rw [swalkP_of hk160 (by intro u hu; rw [List.mem_singleton.1 hu, hsb, hsh.back]), hsb]
    simp only [List.map_cons, List.map_nil]
    rw [hsh.back]
  · show Tree.wholes [mc] = true
    rw [Tree.wholes, hsh.whole]; rfl
  · simp only [Tree.size, Tree.sizes, hsh.size]
  · intro t0 m0
    rw [trans_ex] at t0 m0 ⊢
    rw [trans_ex]
    by_cases q1 : (transP c).2 = 0
    · by_cases q2 : (transP mc).2 = 0
      · rw [if_pos q1, if_pos q2]
        obtain ⟨p1, p2⟩ := hsh.con q1 q2
        dsimp only
        rw [mapV_around _ 118 (by decide) (by decide), allV_around _ 118 (by decide) (by decide), p1, show D + (n.toNat : Int) = D + n by omega]
        exact ⟨rfl, p2⟩
      · rw [if_neg q2] at m0; exact absurd m0 q2
    · rw [if_neg q1] at t0; exact absurd t0 q1
  · simp only [isExP, Bool.and_eq_true] at hx ⊢
    exact ⟨hx.1, hmc⟩
theorem fun_sh (b : Int) (hb : 0 ≤ b) (hb2 : b ≤ 1000) (t : Tree) (hx : isFunP t = true) (hw : t.whole = true) (D : Int) (hD : 0 ≤ D) (h0 : (swalkP (sshC b 0) t D).2 = 0) : ∃ m, ShOk b t m D ∧ isFunP m = true := by
  obtain ⟨n, a, b', c, x, rfl, h1, h2, hc, hxx⟩ := fun_form hx
  have hk160 : ¬ (165 : Int) < 160 := by decide
  have hsb : sbindsP 165 n = n := by unfold sbindsP; rw [if_pos (.inr rfl)]
  obtain ⟨g1, g2⟩ := swalkP_node hk160 h0
  rw [hsb] at g1 g2
  obtain ⟨mc, hsh, hmc⟩ := sig_sh b hb hb2 c hc (wholes_mem hw (by simp)) (D + n) (by omega) (g1 c (by simp))
  obtain ⟨mx, hshx, hmx⟩ := ex_sh b hb hb2 x hxx (wholes_mem hw (by simp)) (D + n) (by omega) (g1 x (by simp))
  refine ⟨.node 165 n a b' [mc, mx], ⟨?_, ?_, ?_, ?_, ?_⟩, ?_⟩
  · rw [swalkP_of hk160 (by intro u hu; rw [hsb]; exact g1 u hu), hsb]
    simp only [List.map_cons, List.map_nil]
    rw [hsh.goes, hshx.goes]
  · rw [swalkP_of hk160 (by intro u hu; rw [hsb]; simp only [List.mem_cons, List.not_mem_nil, or_false] at hu; rcases hu with rfl | rfl; rw [hsh.back]; rw [hshx.back]), hsb]
    simp only [List.map_cons, List.map_nil]
    rw [hsh.back, hshx.back]
  · show Tree.wholes [mc, mx] = true
    rw [Tree.wholes, Tree.wholes, hsh.whole, hshx.whole]; rfl
  · simp only [Tree.size, Tree.sizes, hsh.size, hshx.size]
  · intro t0 m0
    rw [trans_fun] at t0 m0 ⊢
    rw [trans_fun]
    by_cases q1 : (transP c).2 = 0
    · by_cases q2 : (transP mc).2 = 0
      · rw [if_pos q1] at t0 ⊢
        rw [if_pos q2] at m0 ⊢
        by_cases q3 : (transP x).2 = 0
        · by_cases q4 : (transP mx).2 = 0
          · rw [if_pos q3, if_pos q4]
            obtain ⟨p1, p2⟩ := hsh.con q1 q2
            obtain ⟨p3, p4⟩ := hshx.con q3 q4
            dsimp only
            rw [mapV_around _ 117 (by decide) (by decide), allV_around _ 117 (by decide) (by decide), show D + (n.toNat : Int) = D + n by omega]
            unfold conT
            rw [mapV_node _ _ (by decide), allV_node _ _ (by decide), show D + n + bindsP 114 = D + n by unfold bindsP; simp]
            simp only [List.map_cons, List.map_nil, List.all_cons, List.all_nil, Bool.and_true, Bool.and_eq_true]
            rw [p1, p3]
            exact ⟨rfl, p2, p4⟩
          · rw [if_neg q4] at m0; exact absurd m0 q4
        · rw [if_neg q3] at t0; exact absurd t0 q3
      · rw [if_neg q2] at m0; exact absurd m0 q2
    · rw [if_neg q1] at t0; exact absurd t0 q1
  · simp only [isFunP, Bool.and_eq_true] at hx ⊢
    exact ⟨hx.1, hmc, hmx⟩
theorem form_sh (b : Int) (hb : 0 ≤ b) (hb2 : b ≤ 1000) (t : Tree) (hc : checkP sformP t = 0) (h0 : (swalkP (sshC b 0) t 0).2 = 0) : ∃ m, ShOk b t m 0 ∧ checkP sformP m = 0 := by
  obtain ⟨hw, hz, hf⟩ := checkP_whole hc
  have fin : ∀ m, ShOk b t m 0 → sformP m = true → checkP sformP m = 0 := fun m hm hfm => by
    rw [checkP_ok sformP m hm.whole (by have := hm.size; omega), if_pos hfm]
  rcases tForm_of hf with h | h | h
  · obtain ⟨m, h1, h2⟩ := sig_sh b hb hb2 t h hw 0 (Int.le_refl _) h0
    exact ⟨m, h1, fin m h1 (by unfold sformP; rw [h2]; rfl)⟩
  · obtain ⟨m, h1, h2⟩ := ex_sh b hb hb2 t h hw 0 (Int.le_refl _) h0
    exact ⟨m, h1, fin m h1 (by unfold sformP; rw [h2]; simp)⟩
  · obtain ⟨m, h1, h2⟩ := fun_sh b hb hb2 t h hw 0 (Int.le_refl _) h0
    exact ⟨m, h1, fin m h1 (by unfold sformP; rw [h2]; simp)⟩
end Go.Proofs.YtlbemgokilhdnaaDoor.Ab
namespace Go.Proofs.YtlbemgokilhdnaaDoor.Ab
set_option linter.unusedVariables false
set_option linter.unusedSimpArgs false
theorem bare_0 (nu : Bool) : bareP 0 emptyB emptyB false nu = true := by
  unfold bareP
  rw [(eqB_iff _ _).2 rfl]
  cases nu <;> rfl
theorem con_two (k : Int) (hk : k = 114 ∨ k = 120) (x y : Tree) (hx : isConP x = true) (hy : isConP y = true) : isConP (conT k [x, y]) = true := by
  unfold conT
  rw [isConP, bare_0, if_neg (by omega), if_neg (by omega), if_pos hk, isCons_all]
  simp [hx, hy]
theorem con_bind (k : Int) (hk : k = 117 ∨ k = 118 ∨ k = 119) (x y : Tree) (hx : isKindP x = true) (hy : isConP y = true) : isConP (conT k [x, y]) = true := by
  unfold conT
  rw [isConP, bare_0, if_neg (by omega), if_neg (by omega), if_neg (by omega), if_neg (by omega), if_pos hk, isCon2, hx, hy]
  rfl
theorem con_around (k : Int) (hk : k = 117 ∨ k = 118 ∨ k = 119) (c : Tree) (hc : isConP c = true) : ∀ n : Nat, isConP (aroundP k n c) = true
  | 0 => by rw [aroundP]; exact hc
  | n + 1 => by rw [aroundP]; exact con_bind k hk _ _ (by decide +kernel) (con_around k hk c hc n)
theorem shift_con (c : Tree) (hc : checkP isConP c = 0) (b f : Int) (hf : 0 ≤ f) (h : (shiftP c b f).2 = 0) : isConP (shiftP c b f).1 = true := by
  obtain ⟨_, _, hcon⟩ := checkP_whole hc
  rw [shiftP_sh c hc b f hf] at h ⊢
  by_cases ha : allV (okG b f) c 0 = true
  · rw [if_pos ha]
    refine mapV_con _ c 0 hcon (allV_imp _ _ c 0 (okVars_con c hcon) ha fun n x h1 h2 h3 h4 => ?_)
    unfold okG at h4
    rw [decide_eq_true_eq] at h4 ⊢
    unfold shG
    split <;> omega
  · rw [if_neg ha] at h; cases h
theorem tok_con (c : Tree) (hc : checkP isConP c = 0) (h : (tokP c).2 = 0) : isConP (tokP c).1 = true := by
  unfold tokP at h ⊢
  by_cases h0 : (shiftP c 1 0).2 = 0
  · rw [if_neg (by simpa using h0)]
    exact con_two 120 (.inr rfl) _ _ (by decide +kernel) (shift_con c hc 1 0 (Int.le_refl _) h0)
  · rw [if_pos h0] at h; cases h
theorem sig_con (t : Tree) : isSigP t = true → t.whole = true → (transP t).2 = 0 → isConP (transP t).1 = true := by
  induction t using Tree.sind with
  | h t ih =>
    intro hs hw t0
    obtain ⟨k, n, a, b', kids, rfl⟩ := whole_node hw
    rcases sig_kids hs with ⟨hk, c, rfl, hc⟩ | ⟨rfl, hf, hr⟩
    · rcases hk with rfl | rfl
      · rw [transP, if_pos rfl]
        exact (checkP_whole hc).2.2
      · have ht : transP (.node 161 n a b' [c]) = allTok c := by rw [transP, if_neg (by decide), if_pos rfl]; rfl
        rw [ht] at t0 ⊢
        unfold allTok at t0 ⊢
        by_cases hq : (tokP c).2 = 0
        · rw [if_neg (by simpa using hq)]
          have hT := tok_con c hc hq
          exact con_bind 117 (.inl rfl) _ _ (by decide +kernel) (con_two 114 (.inl rfl) _ _ hT hT)
        · rw [if_pos hq] at t0; exact absurd t0 hq
    · obtain ⟨r1, r2⟩ := trans_rec n a b' kids t0
      have el : ∀ f ∈ kids, okNamed 116 (fldR f).1 = true ∧ (fldR f).1.name = f.name := fun f hm => by
        have q1 := r1 f hm
        have hok := hf f hm
        have hz := size_kid (k := 162) (n := n) (a := a) (b := b') hm
        have hwf := wholes_mem hw hm
        obtain ⟨n', a', b'', c, rfl, hcs⟩ := okSField_form (hf f hm)
        have hz2 := size_kid (k := 163) (n := n') (a := a') (b := b'') (kids := [c]) (t := c) (by simp)
        obtain ⟨p1, p2⟩ := fld_of n' a' b'' c q1
        have hcc := ih c (by omega) hcs (wholes_mem hwf (by simp)) p1
        rw [p2]
        refine ⟨?_, rfl⟩
        simp only [okSField, Bool.and_eq_true] at hok
        simp only [okNamed, isCon1, Bool.and_eq_true, beq_iff_eq]
        refine ⟨⟨⟨trivial, ?_⟩, hok.1.2⟩, hcc⟩
        unfold bareP
        rw [(eqB_iff emptyB emptyB).2 rfl]
        simp
      rw [r2]
      unfold conT
      rw [isConP, bare_0, if_neg (by decide), if_neg (by decide), if_neg (by decide), if_pos rfl, namedPs_all, rising_map _ _ fun f hm => (el f hm).2, hr, Bool.and_true, Bool.true_and, List.all_eq_true]
      intro u hu
      obtain ⟨f, hm, rfl⟩ := List.mem_map.1 hu
      exact (el f hm).1
theorem ex_con (t : Tree) (hx : isExP t = true) (hw : t.whole = true) (t0 : (transP t).2 = 0) : isConP (transP t).1 = true := by
  obtain ⟨n, a, b', c, rfl, h1, h2, hc⟩ := ex_form hx
  rw [trans_ex] at t0 ⊢
  by_cases q1 : (transP c).2 = 0
  · rw [if_pos q1]
    exact con_around 118 (.inr (.inl rfl)) _ (sig_con c hc (wholes_mem hw (by simp)) q1) _
  · rw [if_neg q1] at t0; exact absurd t0 q1
theorem form_con (t : Tree) (hf : tForm t) (hw : t.whole = true) (t0 : (transP t).2 = 0) : isConP (transP t).1 = true := by
  rcases hf with h | h | h
  · exact sig_con t h hw t0
  · exact ex_con t h hw t0
  · obtain ⟨n, a, b', c, x, rfl, h1, h2, hc, hx⟩ := fun_form h
    rw [trans_fun] at t0 ⊢
    by_cases q1 : (transP c).2 = 0
    · rw [if_pos q1] at t0 ⊢
      by_cases q2 : (transP x).2 = 0
      · rw [if_pos q2]
        exact con_around 117 (.inl rfl) _ (con_two 114 (.inl rfl) _ _ (sig_con c hc (wholes_mem hw (by simp)) q1) (ex_con x hx (wholes_mem hw (by simp)) q2)) _
      · rw [if_neg q2] at t0; exact absurd t0 q2
    · rw [if_neg q1] at t0; exact absurd t0 q1
theorem sTrans_ok (t : Tree) (h : (sTransP t).2 = 0) : checkP sformP t = 0 ∧ (transP t).2 = 0 ∧ (sTransP t).1 = (transP t).1 ∧ (transP t).1.whole = true ∧ (transP t).1.size ≤ 65536 ∧ checkP isConP (transP t).1 = 0 := by
  by_cases hc : checkP sformP t = 0
  · obtain ⟨hw, hz, hf⟩ := checkP_whole hc
    have e : sTransP t = sizedP (transP t).1 (transP t).2 := by unfold sTransP; rw [if_neg (by simpa using hc)]
    rw [e] at h ⊢
    unfold sizedP at h ⊢
    by_cases h0 : (transP t).2 = 0
    · rw [if_neg (by simpa using h0)] at h ⊢
      by_cases h1 : (wholeP (transP t).1 65536).1 = 0
      · rw [if_neg (by simpa using h1)]
        have g1 := (transP_fine t (tForm_of hf) hw h0).1
        have g2 := wholeP_size (transP t).1 65536 (by omega) h1
        have g3 := wholeP_bound (transP t).1 65536 (by omega) h1
        have g4 : (transP t).1.size ≤ 65536 := by omega
        exact ⟨hc, h0, rfl, g1, g4, by rw [checkP_ok isConP _ g1 g4, if_pos (form_con t (tForm_of hf) hw h0)]⟩
      · rw [if_pos h1] at h; exact absurd h h1
    · rw [if_pos h0] at h; exact absurd h h0
  · unfold sTransP at h; rw [if_pos hc] at h; exact absurd h hc
/-- There and back; and the constructor is shifted as it is. -/
theorem back_law (t : Tree) (b : Int) (hb : 0 ≤ b) (hb2 : b ≤ 1000) (h : (sShiftP t b 0).2 = 0) :
    sShiftP (sShiftP t b 0).1 (-b) 0 = (t, 0) ∧ (sShiftP t b 0).1.whole = true ∧ (sShiftP t b 0).1.size = t.size ∧ checkP sformP t = 0 ∧
    ((sTransP t).2 = 0 → (sTransP (sShiftP t b 0).1).2 = 0 → shiftP (sTransP t).1 b 0 = ((sTransP (sShiftP t b 0).1).1, 0)) := by
  by_cases hc : checkP sformP t = 0
  · have e : sShiftP t b 0 = swalkP (sshC b 0) t 0 := by unfold sShiftP; rw [if_neg (by simpa using hc), if_neg (by decide)]
    rw [e] at h ⊢
    obtain ⟨m, h1, h2⟩ := form_sh b hb hb2 t hc h
    rw [h1.goes]
    dsimp only
    have e2 : sShiftP m (-b) 0 = swalkP (sshC (-b) 0) m 0 := by unfold sShiftP; rw [if_neg (by simpa using h2), if_neg (by decide)]
    refine ⟨by rw [e2, h1.back], h1.whole, h1.size, hc, fun t0 m0 => ?_⟩
    obtain ⟨_, a1, a2, _, _, a5⟩ := sTrans_ok t t0
    obtain ⟨_, b1, b2, _, _, _⟩ := sTrans_ok m m0
    obtain ⟨p1, p2⟩ := h1.con a1 b1
    rw [a2, b2, shiftP_sh _ a5 b 0 (Int.le_refl _), if_pos p2, p1]
  · unfold sShiftP at h; rw [if_pos hc] at h; exact absurd h hc
end Go.Proofs.YtlbemgokilhdnaaDoor.Ab
namespace Go.Proofs.YtlbemgokilhdnaaDoor.Ab
set_option linter.unusedVariables false
set_option linter.unusedSimpArgs false
open Go.RowKit
attribute [local irreducible] AWP AOps AExit AThen ABlock ANoGoto FeetOk
theorem max_int (a b : Int) : (if b > a then b else a) = max a b := by split <;> omega
set_option maxHeartbeats 8000000 in
set_option maxRecDepth 10000 in
theorem sshC_a (by_ from_ : Int) (t : Tree) (d : Int) (hf0 : 0 ≤ from_) (ht : checkP isConP t = 0) (hd0 : 0 ≤ d) (hd : d ≤ 20000) :
    ACalls Tryd.prog 22 [.imm t.iv, .imm (.lit (.int .i64 d)), .obj 1000 0, .obj 1001 0] [(1000, .cells [.imm (.lit (.int .i64 from_))]), (1001, .cells [.imm (.lit (.int .i64 by_))])] (.imm (.tup [(sshC by_ from_ t d).1.iv, .lit (.int .i64 (sshC by_ from_ t d).2)])) [(1000, .cells [.imm (.lit (.int .i64 from_))]), (1001, .cells [.imm (.lit (.int .i64 by_))])] := by
  obtain ⟨hw, hz, hf⟩ := checkP_whole ht
  obtain ⟨Q, hQ⟩ : ∃ Q, sshC by_ from_ t d = Q := ⟨_, rfl⟩
  rw [hQ]
  unfold sshC at hQ
  by_cases h1 : from_ > 65536
  · rw [if_pos h1] at hQ
    subst hQ
    refine acalls_foot [1000, 1001] Tryd.func22 rfl rfl (Nat.le_of_ble_eq_true rfl) rfl rfl ?_
    repeat' (first | refine aops_nil ?_ | (refine aops_one ?_;  first | refine aops_quiet tabOk rfl rfl rfl (Nat.le_of_ble_eq_true rfl) rfl ?_ | (refine aops_cmp rfl rfl rfl (Nat.le_of_ble_eq_true rfl) rfl rfl rfl (fun hq => ?_) (fun hq => ?_) <;> (first | (simp only [decide_eq_true_eq, decide_eq_false_iff_not, beq_iff_eq, beq_eq_false_iff_ne, bne_iff_ne, bne_eq_false_iff_eq, Bool.not_eq_true', Bool.not_eq_false'] at hq; first | (exfalso; omega) | skip) | skip)) | refine aops_loadm tabOk rfl rfl rfl (Nat.le_of_ble_eq_true rfl) rfl rfl rfl rfl ?_) | (refine awp_one ?_;  first | refine awp_sreg ?_ | refine awp_seq ?_ | refine awp_ret ?_ | refine awp_cond (b := true) rfl (fun _ => ?_) (fun h => Bool.noConfusion h)) | (refine then_one ?_;  first | refine q_then_ret ?_))
    all_goals first
      | (exfalso; omega)
      | (refine gexit_same (aexit_foot (by first | exact .inl rfl | exact .inr rfl) (results_2 rfl (resOk_tmp rfl) (resOk_tmp rfl)) rfl (by repeat' first | exact trivial | refine ⟨rfl, ?_⟩) rfl ?_); rfl)
  · rw [if_neg h1] at hQ
    have c1 := Shift_a t (max by_ (-65537) - d) (from_ + d) (by omega)
    have c2 := Shift_a t by_ (from_ + d) (by omega)
    generalize shiftP t (max by_ (-65537) - d) (from_ + d) = X at *
    generalize shiftP t by_ (from_ + d) = Y at *
    obtain ⟨X1, X2⟩ := X
    obtain ⟨Y1, Y2⟩ := Y
    dsimp only at c1 c2 hQ
    by_cases h2 : by_ < 0 ∧ X2 ≠ 0
    · rw [if_pos h2] at hQ
      subst hQ
      refine acalls_foot [1000, 1001] Tryd.func22 rfl rfl (Nat.le_of_ble_eq_true rfl) rfl rfl ?_
      repeat' (first | refine aops_nil ?_ | (refine aops_one ?_;  first | refine aops_quiet tabOk rfl rfl rfl (Nat.le_of_ble_eq_true rfl) rfl ?_ | (refine aops_cmp rfl rfl rfl (Nat.le_of_ble_eq_true rfl) rfl rfl rfl (fun hq => ?_) (fun hq => ?_) <;> (first | (simp only [decide_eq_true_eq, decide_eq_false_iff_not, beq_iff_eq, beq_eq_false_iff_ne, bne_iff_ne, bne_eq_false_iff_eq, Bool.not_eq_true', Bool.not_eq_false'] at hq; first | (exfalso; omega) | skip) | skip)) | refine aops_call rfl rfl (Nat.le_of_ble_eq_true rfl) rfl rfl rfl rfl (c1) ?_ | refine aops_max rfl rfl rfl (Nat.le_of_ble_eq_true rfl) rfl rfl (max_int by_ (-65537)) ?_ | refine aops_add (z := from_ + d) rfl rfl rfl (Nat.le_of_ble_eq_true rfl) rfl rfl rfl (by omega) (by omega) ?_ | refine aops_sub (z := max by_ (-65537) - d) rfl rfl rfl (Nat.le_of_ble_eq_true rfl) rfl rfl rfl (by omega) (by omega) ?_ | refine aops_loadm tabOk rfl rfl rfl (Nat.le_of_ble_eq_true rfl) rfl rfl rfl rfl ?_) | (refine awp_one ?_;  first | refine awp_sreg ?_ | refine awp_seq ?_ | refine awp_ret ?_ | refine awp_skip ?_ | refine awp_cond (b := true) rfl (fun _ => ?_) (fun h => Bool.noConfusion h) | refine awp_cond (b := false) rfl (fun h => Bool.noConfusion h) (fun _ => ?_)) | (refine then_one ?_;  first | refine q_then ?_ | refine q_then_ret ?_))
      all_goals first
        | exact absurd (by assumption) h2.2
        | (exfalso; omega)
        | (refine gexit_same (aexit_foot (by first | exact .inl rfl | exact .inr rfl) (results_2 rfl (resOk_tmp rfl) (resOk_tmp rfl)) rfl (by repeat' first | exact trivial | refine ⟨rfl, ?_⟩) rfl ?_); rfl)
    · rw [if_neg h2] at hQ
      subst hQ
      refine acalls_foot [1000, 1001] Tryd.func22 rfl rfl (Nat.le_of_ble_eq_true rfl) rfl rfl ?_
      repeat' (first | refine aops_nil ?_ | (refine aops_one ?_;  first | refine aops_quiet tabOk rfl rfl rfl (Nat.le_of_ble_eq_true rfl) rfl ?_ | (refine aops_cmp rfl rfl rfl (Nat.le_of_ble_eq_true rfl) rfl rfl rfl (fun hq => ?_) (fun hq => ?_) <;> (first | (simp only [decide_eq_true_eq, decide_eq_false_iff_not, beq_iff_eq, beq_eq_false_iff_ne, bne_iff_ne, bne_eq_false_iff_eq, Bool.not_eq_true', Bool.not_eq_false'] at hq; first | (exfalso; omega) | skip) | skip)) | refine aops_call rfl rfl (Nat.le_of_ble_eq_true rfl) rfl rfl rfl rfl (c1) ?_ | refine aops_call rfl rfl (Nat.le_of_ble_eq_true rfl) rfl rfl rfl rfl (c2) ?_ | refine aops_max rfl rfl rfl (Nat.le_of_ble_eq_true rfl) rfl rfl (max_int by_ (-65537)) ?_ | refine aops_add (z := from_ + d) rfl rfl rfl (Nat.le_of_ble_eq_true rfl) rfl rfl rfl (by omega) (by omega) ?_ | refine aops_sub (z := max by_ (-65537) - d) rfl rfl rfl (Nat.le_of_ble_eq_true rfl) rfl rfl rfl (by omega) (by omega) ?_ | refine aops_loadm tabOk rfl rfl rfl (Nat.le_of_ble_eq_true rfl) rfl rfl rfl rfl ?_) | (refine awp_one ?_;  first | refine awp_sreg ?_ | refine awp_seq ?_ | refine awp_ret ?_ | refine awp_skip ?_ | refine awp_cond (b := true) rfl (fun _ => ?_) (fun h => Bool.noConfusion h) | refine awp_cond (b := false) rfl (fun h => Bool.noConfusion h) (fun _ => ?_)) | (refine then_one ?_;  first | refine q_then ?_))
      all_goals first
        | exact absurd ⟨by assumption, by assumption⟩ h2
        | (exfalso; omega)
        | (refine gexit_same (aexit_foot (by first | exact .inl rfl | exact .inr rfl) (results_2 rfl (resOk_tmp rfl) (resOk_tmp rfl)) rfl (by repeat' first | exact trivial | refine ⟨rfl, ?_⟩) rfl ?_); rfl)
theorem sshC_ne (by_ from_ : Int) (t : Tree) (d : Int) (ht : checkP isConP t = 0) (h : (sshC by_ from_ t d).2 = 0) : (sshC by_ from_ t d).1 ≠ .nil := by
  unfold sshC at h ⊢
  split
  · exact whole_ne (checkP_whole ht).1
  · rename_i h1
    rw [if_neg h1] at h
    split
    · rename_i h2; rw [if_pos h2] at h; exact absurd h h2.2
    · rename_i h2
      rw [if_neg h2] at h
      exact whole_ne (shiftP_fine _ _ _ h).1
set_option maxHeartbeats 16000000 in
set_option maxRecDepth 10000 in
theorem sShift_a (t : Tree) (by_ from_ : Int) (hs : t.size ≤ 1000000) :
    ACalls Tryd.prog 9 [.imm t.iv, .imm (.lit (.int .i64 by_)), .imm (.lit (.int .i64 from_))] [] (.imm (.tup [(sShiftP t by_ from_).1.iv, .lit (.int .i64 (sShiftP t by_ from_).2)])) [] := by
  have c1 := sCheck_any t hs
  obtain ⟨Q, hQ⟩ : ∃ Q, sShiftP t by_ from_ = Q := ⟨_, rfl⟩
  rw [hQ]
  unfold sShiftP at hQ
  by_cases hc : checkP sformP t = 0
  · rw [if_neg (by simpa using hc)] at hQ
    rw [hc] at c1
    by_cases hi : from_ < 0
    · rw [if_pos hi] at hQ
      subst hQ
      refine acalls_plain Tryd.func9 rfl rfl (Nat.le_of_ble_eq_true rfl) rfl ?_
      repeat' (first | refine aops_nil ?_ | (refine aops_one ?_;  first | refine aops_quiet tabOk rfl rfl rfl (Nat.le_of_ble_eq_true rfl) rfl ?_ | (refine aops_cmp rfl rfl rfl (Nat.le_of_ble_eq_true rfl) rfl rfl rfl (fun hq => ?_) (fun hq => ?_) <;> (first | (simp only [decide_eq_true_eq, decide_eq_false_iff_not, beq_iff_eq, beq_eq_false_iff_ne, bne_iff_ne, bne_eq_false_iff_eq, Bool.not_eq_true', Bool.not_eq_false'] at hq; first | (exfalso; omega) | skip) | skip)) | refine aops_call rfl rfl (Nat.le_of_ble_eq_true rfl) rfl rfl rfl rfl (c1) ?_ | refine aops_boxg 1001 (d := 4) rfl rfl rfl (Nat.le_of_ble_eq_true rfl) rfl rfl rfl rfl rfl rfl rfl ?_ | refine aops_boxg 1000 (d := 5) rfl rfl rfl (Nat.le_of_ble_eq_true rfl) rfl rfl rfl rfl rfl rfl rfl ?_ | refine aops_loadm tabOk rfl rfl rfl (Nat.le_of_ble_eq_true rfl) rfl rfl rfl rfl ?_) | (refine awp_one ?_;  first | refine awp_sreg ?_ | refine awp_seq ?_ | refine awp_ret ?_ | refine awp_skip ?_ | refine awp_cond (b := true) rfl (fun _ => ?_) (fun h => Bool.noConfusion h) | refine awp_cond (b := false) rfl (fun h => Bool.noConfusion h) (fun _ => ?_)) | (refine then_one ?_;  first | refine q_then ?_ | refine q_then_ret ?_))
      all_goals first
        | exact absurd rfl (by assumption)
        | (exfalso; omega)
        | (refine aexit_eq (by first | exact .inl rfl | exact .inr rfl) (results_2 rfl (resOk_tmp rfl) (resOk_tmp rfl)) rfl ?_; rfl)
    · rw [if_neg hi] at hQ
      obtain ⟨hw, hz, hf⟩ := checkP_whole hc
      have cw := (swalk2_a (sshC by_ from_) 22 (.lit (.int .i64 from_)) (.lit (.int .i64 by_)) (fun t' d h1 h2 h3 => ⟨sshC_a by_ from_ t' d (by omega) h1 h2 h3, sshC_ne by_ from_ t' d h1⟩) t 0 16384 (okW_form hf) hw (Int.le_refl _) (by omega) (by omega) hs).1
      rw [hQ] at cw
      clear hc hw hf hQ
      obtain ⟨Q1, Q2⟩ := Q
      dsimp only at *
      refine acalls_plain Tryd.func9 rfl rfl (Nat.le_of_ble_eq_true rfl) rfl ?_
      repeat' (first | refine aops_nil ?_ | (refine aops_one ?_;  first | refine aops_quiet tabOk rfl rfl rfl (Nat.le_of_ble_eq_true rfl) rfl ?_ | (refine aops_cmp rfl rfl rfl (Nat.le_of_ble_eq_true rfl) rfl rfl rfl (fun hq => ?_) (fun hq => ?_) <;> (first | (simp only [decide_eq_true_eq, decide_eq_false_iff_not, beq_iff_eq, beq_eq_false_iff_ne, bne_iff_ne, bne_eq_false_iff_eq, Bool.not_eq_true', Bool.not_eq_false'] at hq; first | (exfalso; omega) | skip) | skip)) | refine aops_call rfl rfl (Nat.le_of_ble_eq_true rfl) rfl rfl rfl rfl (c1) ?_ | refine aops_boxg 1001 (d := 4) rfl rfl rfl (Nat.le_of_ble_eq_true rfl) rfl rfl rfl rfl rfl rfl rfl ?_ | refine aops_boxg 1000 (d := 5) rfl rfl rfl (Nat.le_of_ble_eq_true rfl) rfl rfl rfl rfl rfl rfl rfl ?_ | refine aops_callm rfl rfl (Nat.le_of_ble_eq_true rfl) rfl rfl rfl rfl cw (by repeat' first | exact trivial | refine ⟨rfl, ?_⟩) rfl (by show ([1000, 1001] : List Nat).Nodup; decide) ?_ | refine aops_loadm tabOk rfl rfl rfl (Nat.le_of_ble_eq_true rfl) rfl rfl rfl rfl ?_) | (refine awp_one ?_;  first | refine awp_sreg ?_ | refine awp_seq ?_ | refine awp_ret ?_ | refine awp_skip ?_ | refine awp_cond (b := false) rfl (fun h => Bool.noConfusion h) (fun _ => ?_)) | (refine then_one ?_;  first | refine q_then ?_))
      all_goals first
        | exact absurd rfl (by assumption)
        | (exfalso; omega)
        | (refine aexit_eq (by first | exact .inl rfl | exact .inr rfl) (results_2 rfl (resOk_tmp rfl) (resOk_tmp rfl)) rfl ?_; rfl)
  · rw [if_pos hc] at hQ
    subst hQ
    generalize checkP sformP t = C at *
    refine acalls_plain Tryd.func9 rfl rfl (Nat.le_of_ble_eq_true rfl) rfl ?_
    repeat' (first | refine aops_nil ?_ | (refine aops_one ?_;  first | refine aops_quiet tabOk rfl rfl rfl (Nat.le_of_ble_eq_true rfl) rfl ?_ | (refine aops_cmp rfl rfl rfl (Nat.le_of_ble_eq_true rfl) rfl rfl rfl (fun hq => ?_) (fun hq => ?_) <;> (first | (simp only [decide_eq_true_eq, decide_eq_false_iff_not, beq_iff_eq, beq_eq_false_iff_ne, bne_iff_ne, bne_eq_false_iff_eq, Bool.not_eq_true', Bool.not_eq_false'] at hq; first | (exfalso; omega) | skip) | skip)) | refine aops_call rfl rfl (Nat.le_of_ble_eq_true rfl) rfl rfl rfl rfl (c1) ?_ | refine aops_boxg 1001 (d := 4) rfl rfl rfl (Nat.le_of_ble_eq_true rfl) rfl rfl rfl rfl rfl rfl rfl ?_ | refine aops_boxg 1000 (d := 5) rfl rfl rfl (Nat.le_of_ble_eq_true rfl) rfl rfl rfl rfl rfl rfl rfl ?_) | (refine awp_one ?_;  first | refine awp_sreg ?_ | refine awp_seq ?_ | refine awp_ret ?_ | refine awp_cond (b := true) rfl (fun _ => ?_) (fun h => Bool.noConfusion h)) | (refine then_one ?_;  first | refine q_then_ret ?_))
    all_goals first
      | exact absurd rfl (by assumption)
      | exact absurd (by assumption) hc
      | (refine aexit_eq (by first | exact .inl rfl | exact .inr rfl) (results_2 rfl (resOk_tmp rfl) (resOk_tmp rfl)) rfl ?_; rfl)
end Go.Proofs.YtlbemgokilhdnaaDoor.Ab
namespace Go.Proofs.YtlbemgokilhdnaaDoor.RP
set_option linter.unusedVariables false
set_option linter.unusedSimpArgs false
open Go.RowKit Go.Lib Go.Proofs.YtlbemgokilhdnaaDoorW.PrintWords Go.Proofs.YtlbemgokilhdnaaDoorW.PrintLast Go.Proofs.YtlbemgokilhdnaaDoorW.PrintMore Go.Proofs.YtlbemgokilhdnaaDoor.PAll
theorem w64 {x : Int} (h0 : -9223372036854775808 ≤ x) (h1 : x ≤ 9223372036854775807) : wrap64 x = x := by unfold wrap64; omega
theorem w64s (a : Nat) (h : a ≤ 9000000) : wrap64 ((a : Int) + 1) = ((a + 1 : Nat) : Int) := by rw [w64] <;> omega
def nn (d : Nat × Nat) : Int × Int := if d.1 = 65533 ∧ d.2 = 1 then (0, 0) else (d.1, d.2)
/-- Is the text valid from a place on? -/
def vf (s : ByteArray) (pos : Nat) : Bool := validD (s.data.toList.drop pos)
def high (r : Int) : Int := if 128 ≤ r ∧ r ≤ 1114111 ∧ r ≠ 65533 ∧ (r < 55296 ∨ 57343 < r) then 1 else 0
def blank (r : Int) : Int := if r = 32 ∨ r = 9 ∨ r = 10 then 3 else high r
def digit (r : Int) : Int := if 48 ≤ r ∧ r ≤ 57 then 2 else blank r
/-- A rune's class. -/
def classP (r : Int) : Int := if (65 ≤ r ∧ r ≤ 90) ∨ (97 ≤ r ∧ r ≤ 122) ∨ r = 95 then 1 else digit r
theorem vr_eq (k : Nat) (r : Int) : utf8_ValidRune.f (k + 1) r = some (decide ((0 ≤ r ∧ r < 55296) ∨ (57343 < r ∧ r ≤ 1114111))) := by
  unfold utf8_ValidRune.f
  by_cases h : 0 ≤ r
  · rw [if_pos h]
    by_cases h2 : r < 55296
    · rw [decide_eq_true h2, decide_eq_true (Or.inl ⟨h, h2⟩)]
      simp only [utf8_ValidRune.j0, if_true]
    · rw [decide_eq_false h2]
      simp only [utf8_ValidRune.j0, Bool.false_eq_true, if_false]
      by_cases h3 : 57343 < r
      · rw [if_pos h3]
        by_cases h4 : r ≤ 1114111
        · rw [if_pos h4, decide_eq_true (Or.inr ⟨h3, h4⟩)]
        · rw [if_neg h4, decide_eq_false (by omega)]
      · rw [if_neg h3, decide_eq_false (by omega)]
  · rw [if_neg h, decide_eq_false (by omega)]
    simp only [utf8_ValidRune.j0, Bool.false_eq_true, if_false]
    rw [if_neg (by omega)]
theorem c_j3 (k : Nat) (r : Int) (b : Bool) : runes_Class.j3 (k + 2) r b = some (if b = true then 3 else high r) := by
  cases b with
  | true => simp only [runes_Class.j3, if_true]
  | false =>
    simp only [runes_Class.j3, Bool.false_eq_true, if_false]
    unfold high
    by_cases h : 128 ≤ r
    · rw [if_pos h]
      by_cases h2 : r = 65533
      · rw [if_pos h2, if_neg (by omega)]
      · rw [if_neg h2, vr_eq]
        simp only [Option.bind_some]
        by_cases h3 : (0 ≤ r ∧ r < 55296) ∨ (57343 < r ∧ r ≤ 1114111)
        · rw [decide_eq_true h3, if_pos rfl, if_pos (by omega)]
        · rw [decide_eq_false h3, if_neg (by decide), if_neg (by omega)]
    · rw [if_neg h, if_neg (by omega)]
theorem c_j2 (k : Nat) (r : Int) (b : Bool) : runes_Class.j2 (k + 3) r b = some (if b = true then 2 else blank r) := by
  cases b with
  | true => simp only [runes_Class.j2, if_true]
  | false =>
    simp only [runes_Class.j2, Bool.false_eq_true, if_false, c_j3]
    unfold blank
    by_cases h : r = 32
    · rw [if_pos h, if_pos (by simpa using h), if_pos (by omega)]
    · rw [if_neg h]
      by_cases h2 : r = 9
      · rw [if_pos h2, if_pos (by simpa using h2), if_pos (by omega)]
      · rw [if_neg h2]
        by_cases h3 : r = 10
        · rw [if_pos (by simpa using h3), if_pos (by omega)]
        · rw [if_neg (by simpa using h3), if_neg (by omega)]
theorem c_j1 (k : Nat) (r : Int) (b : Bool) : runes_Class.j1 (k + 4) r b = some (if b = true then 1 else digit r) := by
  cases b with
  | true => simp only [runes_Class.j1, if_true]
  | false =>
    simp only [runes_Class.j1, Bool.false_eq_true, if_false, c_j2]
    unfold digit
    by_cases h : 48 ≤ r
    · rw [if_pos h]
      by_cases h2 : r ≤ 57
      · rw [if_pos (by simpa using h2), if_pos ⟨h, h2⟩]
      · rw [if_neg (by simpa using h2), if_neg (by omega)]
    · rw [if_neg h, if_neg (by omega)]
theorem c_j0 (k : Nat) (r : Int) (b : Bool) : runes_Class.j0 (k + 5) r b = some (if b = true then 1 else if (97 ≤ r ∧ r ≤ 122) ∨ r = 95 then 1 else digit r) := by
  cases b with
  | true => simp only [runes_Class.j0, if_true, c_j1]
  | false =>
    simp only [runes_Class.j0, Bool.false_eq_true, if_false, c_j1]
    by_cases h : 97 ≤ r
    · rw [if_pos h]
      by_cases h2 : r ≤ 122
      · rw [if_pos h2, if_pos (by simpa using h2), if_pos (by omega)]
      · rw [if_neg h2, if_neg (by simp; omega), if_neg (by omega)]
    · rw [if_neg h]
      by_cases h3 : r = 95
      · rw [if_pos (by simpa using h3), if_pos (by omega)]
      · rw [if_neg (by simpa using h3), if_neg (by omega)]
theorem class_eq (k : Nat) (r : Int) : runes_Class.f (k + 5) r = some (classP r) := by
  unfold runes_Class.f classP
  rw [c_j0, c_j0]
  by_cases h : 65 ≤ r
  · rw [if_pos h]
    by_cases h2 : r ≤ 90
    · rw [if_pos (by simpa using h2), if_pos (by omega)]
    · rw [if_neg (by simpa using h2)]
      by_cases h3 : (97 ≤ r ∧ r ≤ 122) ∨ r = 95
      · rw [if_pos h3, if_pos (by omega)]
      · rw [if_neg h3, if_neg (by omega)]
  · rw [if_neg h, if_neg (by decide)]
    by_cases h3 : (97 ≤ r ∧ r ≤ 122) ∨ r = 95
    · rw [if_pos h3, if_pos (by omega)]
    · rw [if_neg h3, if_neg (by omega)]
/-- May a rune not stand in a text? -/
def badR (r : Int) : Prop := r = 65533 ∨ (r < 32 ∧ ¬ classP r = 3) ∨ r = 127
instance (r : Int) : Decidable (badR r) := by unfold badR; infer_instance
/-- Is a rune right within a name (first: at its begin)? -/
def okR (first : Bool) (r : Int) : Bool := decide (classP r = 1) || (!first && (decide (classP r = 2) || decide (r = 39)))
/-- runes.Name's loop. -/
def nm (s : ByteArray) : Nat → Nat → Bool
  | 0, _ => true
  | f + 1, pos => if pos < s.size then (if okR (decide (pos = 0)) (Utf8.decode s pos).1 = true then nm s f (pos + (Utf8.decode s pos).2) else false) else true
def nameP (s : ByteArray) : Bool := decide (1 ≤ s.size ∧ s.size ≤ 32) && validD s.data.toList && nm s s.size 0
theorem nm_on {s : ByteArray} {f pos : Nat} (hp : pos < s.size) (h : okR (decide (pos = 0)) (Utf8.decode s pos).1 = true) : nm s (f + 1) pos = nm s f (pos + (Utf8.decode s pos).2) := by simp [nm, hp, h]
theorem nm_bad {s : ByteArray} {f pos : Nat} (hp : pos < s.size) (h : okR (decide (pos = 0)) (Utf8.decode s pos).1 = false) : nm s (f + 1) pos = false := by simp [nm, hp, h]
theorem nm_end {s : ByteArray} {f pos : Nat} (hp : ¬ pos < s.size) : nm s f pos = true := by cases f <;> simp [nm, hp]
theorem ext_list (s : ByteArray) (a b : Nat) : (s.extract a b).data.toList = (s.data.toList.drop a).take (b - a) := by
  simp [ByteArray.data_extract, Array.toList_extract, List.extract_eq_take_drop]
theorem tail_list (s : ByteArray) (P : Nat) : (s.extract P s.size).data.toList = s.data.toList.drop P := by
  rw [ext_list]
  have h2 : s.data.toList.length = s.size := Array.length_toList
  rw [List.take_of_length_le (by rw [List.length_drop]; omega)]
end Go.Proofs.YtlbemgokilhdnaaDoor.RP
namespace Go.Proofs.YtlbemgokilhdnaaDoor.RW
set_option linter.unusedVariables false
set_option linter.unusedSimpArgs false
open Go.RowKit Go.Lib Go.Proofs.YtlbemgokilhdnaaDoorW.PrintWords Go.Proofs.YtlbemgokilhdnaaDoorW.PrintLast Go.Proofs.YtlbemgokilhdnaaDoorW.PrintMore Go.Proofs.YtlbemgokilhdnaaDoor.RP Go.Proofs.YtlbemgokilhdnaaDoor.PAll
def Tabs (w : World) : Prop := Lib.Utf8Tabs (Tryd.laysValid_ren.g 3) (Tryd.laysValid_ren.g 4) w
theorem ret_bool {a b : Bool} (h : a = b) : Ending.returned (.bool a) = .returned (.bool b) := by rw [h]
theorem below_iter {w w1 : World} (hb : Below w.heap.size w w1) (s : ByteArray) (p : Nat) : Below w.heap.size w (w1.iter s p) := hb.alloc hb.size _
/-- One step of the iterator in block k: a world that is as it was, but for that block. -/
theorem iter_step {P : Program} {w wr : World} {k : Nat} {s : ByteArray} {pos : Nat} (hk : wr.heap[k]? = some (.stringIter s pos)) (hp : pos < s.size) (hw : w.heap.size ≤ k) (hb : Below w.heap.size w wr) :
    ∃ W2 : World, (∀ ty, (Instr.next (.pointer (some ⟨k, 0, none⟩)) true ty).run P wr = .ok (.tuple #[.bool true, .int .i64 pos, .int .i32 (Utf8.decode s pos).1]) W2) ∧
      (∀ j, j ≠ k → W2.heap[j]? = wr.heap[j]?) ∧ W2.heap[k]? = some (.stringIter s (pos + (Utf8.decode s pos).2)) ∧ W2.heap.size = wr.heap.size ∧ Below w.heap.size w W2 :=
  ⟨wr.iterAt k s (pos + (Utf8.decode s pos).2), fun ty => run_next_any_at wr k s pos ty hk hp, fun j hj => iterAt_other wr k j s _ hj, iterAt_heap wr k s pos _ hk, iterAt_size wr k s _, below_iterAt hb hw s _⟩
theorem iter_new {w1 : World} (s : ByteArray) (p : Nat) : (w1.iter s p).heap[w1.heap.size]? = some (.stringIter s p) := by simp [World.iter_heap]
theorem class_any (r : Int) (w : World) : Calls Tryd.prog 64 #[.int .i32 r] w fun e w' => e = .returned (.int .i64 (classP r)) ∧ Drawn0 w w' :=
  runes_Class.calls 5 r _ w (class_eq 0 r)
theorem name_empty (s : ByteArray) (w : World) (h : s.toList = []) :
    Calls Tryd.prog 50 #[.string s] w fun e w' => e = .returned (.bool false) ∧ Below w.heap.size w w' := by
  have h2 : s.toList.isEmpty = true := by rw [h]; rfl
  go_enter Tryd.func50, Tryd.ntmps50
  go_wp2
  go_ret
  exact ⟨rfl, Below.refl _ _⟩
theorem name_long (s : ByteArray) (w : World) (hs : s.size ≤ 1000000) (h : s.toList.isEmpty = false) (h2 : 32 < (s.size : Int)) :
    Calls Tryd.prog 50 #[.string s] w fun e w' => e = .returned (.bool false) ∧ Below w.heap.size w w' := by
  go_enter Tryd.func50, Tryd.ntmps50
  go_wp2
  go_ret
  exact ⟨rfl, Below.refl _ _⟩
theorem name_text (s : ByteArray) (w : World) (hs : s.size ≤ 1000000) (hT : Tabs w) (h : s.toList.isEmpty = false) (h2 : (s.size : Int) ≤ 32) (hv : validD s.data.toList = false) :
    Calls Tryd.prog 50 #[.string s] w fun e w' => e = .returned (.bool false) ∧ Below w.heap.size w w' := by
  have cV := Any.utf8_ValidString Tryd.laysValid s w (by omega) hT
  rw [hv] at cV
  clear hv hT
  go_enter Tryd.func50, Tryd.ntmps50
  go_wp2_with (go_at_call 63; refine cV.mono ?_; rintro e w1 ⟨rfl, hb⟩)
  go_ret
  exact ⟨rfl, hb⟩
theorem ok1 {r : Int} {b : Bool} (h : (classP r == 1) = true) : okR b r = true := by
  unfold okR; simp only [beq_iff_eq] at h; simp [h]
theorem ok2 {r : Int} {pos : Nat} (h : (classP r == 2) = true) (h0 : ((pos : Int) == 0) = false) : okR (decide (pos = 0)) r = true := by
  have : ¬ pos = 0 := by simp only [beq_eq_false_iff_ne] at h0; omega
  unfold okR; simp only [beq_iff_eq] at h; simp [h, this]
theorem ok3 {r : Int} {pos : Nat} (h : ((pos : Int) == 0) = false ∧ (r != 39) = false) : okR (decide (pos = 0)) r = true := by
  have : ¬ pos = 0 := by have h0 := h.1; simp only [beq_eq_false_iff_ne] at h0; omega
  have h2 := h.2
  simp only [bne_eq_false_iff_eq] at h2
  unfold okR; simp [h2, this]
theorem no1 {r : Int} {pos : Nat} (c1 : (classP r == 1) = false) (c2 : (classP r == 2) = true) (h0 : ((pos : Int) == 0) = true) : okR (decide (pos = 0)) r = false := by
  have : pos = 0 := by simp only [beq_iff_eq] at h0; omega
  simp only [beq_eq_false_iff_ne] at c1
  unfold okR; simp [c1, this]
theorem no2 {r : Int} {pos : Nat} (c1 : (classP r == 1) = false) (c2 : (classP r == 2) = false) (h0 : pos = 0) : okR (decide (pos = 0)) r = false := by
  simp only [beq_eq_false_iff_ne] at c1
  unfold okR; simp [c1, h0]
theorem no3 {r : Int} {pos : Nat} (c1 : (classP r == 1) = false) (c2 : (classP r == 2) = false) (h : ((pos : Int) == 0) = true ∨ (r != 39) = true) : okR (decide (pos = 0)) r = false := by
  simp only [beq_eq_false_iff_ne] at c1 c2
  rcases h with h | h
  · have : pos = 0 := by simp only [beq_iff_eq] at h; omega
    unfold okR; simp [c1, this]
  · simp only [bne_iff_ne] at h
    unfold okR; simp [c1, c2, h]
theorem toList_eq (s : ByteArray) : s.toList = s.data.toList := by
  have h := ByteArray.toList_mk s.data.toList
  have e : (ByteArray.mk s.data.toList.toArray) = s := by cases s; simp
  rw [e] at h
  exact h
theorem toList_size (s : ByteArray) : s.toList.length = s.size := by
  rw [toList_eq]
  exact Array.length_toList
theorem name_ok (s : ByteArray) (w : World) (hs : s.size ≤ 1000000) (hT : Tabs w) (h : s.toList.isEmpty = false) (h2 : (s.size : Int) ≤ 32) (hv : validD s.data.toList = true) :
    Calls Tryd.prog 50 #[.string s] w fun e w' => e = .returned (.bool (nm s s.size 0)) ∧ Below w.heap.size w w' := by
  have cV := Any.utf8_ValidString Tryd.laysValid s w (by omega) hT
  rw [hv] at cV
  clear hv hT
  go_enter Tryd.func50, Tryd.ntmps50
  go_wp2_with (go_at_call 63; refine cV.mono ?_; rintro e w1 ⟨rfl, hb⟩)
  have HBs := Aside0.mk hb.size
  go_loopg [3] (s.size + 1) (fun gk v3 wr => ∃ (f pos : Nat), gk = f + 1 ∧ Aside0 (Below w.heap.size w wr) ∧ Aside0 (wr.heap[w1.heap.size]? = some (.stringIter s pos)) ∧ Aside0 (nm s f pos = nm s s.size 0 ∧ s.size ≤ pos + f))
  case atStart => exact ⟨s.size, 0, rfl, ⟨below_iter hb _ _⟩, ⟨iter_new s 0⟩, ⟨rfl, by omega⟩⟩
  case round =>
    obtain ⟨f, pos, rfl, HB, HI, HA⟩ := hrel
    by_cases hp : pos < s.size
    · obtain ⟨W2, hnx, hm, hi, hz, hb2⟩ := iter_step (P := Tryd.prog) HI.out hp HBs.out HB.out
      have HB2 := Aside0.mk hb2
      have HI2 := Aside0.mk hi
      clear hm hi hz hb2 HI HB
      have hwd := width_pos s pos
      obtain ⟨f, rfl⟩ : ∃ f', f = f' + 1 := ⟨f - 1, by have := HA.out.2; omega⟩
      go_wp2_with (go_at_call 64; refine (class_any _ _).mono ?_; rintro e w3 ⟨rfl, ⟨nd, rfl⟩⟩)
      all_goals first
        | (go_ret; exact ⟨ret_bool ((nm_bad hp (by first | exact no1 ‹_› ‹_› ‹_› | exact no2 ‹_› ‹_› ‹_› | exact no3 ‹_› ‹_› ‹_›)).symm.trans HA.out.1), by repeat (first | exact HB2.out | apply pw_below_drewN)⟩)
        | (go_roundg (f + 1)
           case measure => omega
           case rel => exact ⟨f, pos + (Utf8.decode s pos).2, rfl, ⟨by repeat (first | exact HB2.out | apply pw_below_drewN)⟩, ⟨HI2.out⟩, ⟨(nm_on hp (by first | exact ok1 ‹_› | exact ok2 ‹_› ‹_› | exact ok3 ‹_›)).symm.trans HA.out.1, by have := HA.out.2; omega⟩⟩)
    · have hnx : ∀ ty, (Instr.next (.pointer (some ⟨w1.heap.size, 0, none⟩)) true ty).run Tryd.prog wr = _ := fun ty => run_next_end_at wr _ s pos ty HI.out hp
      go_wp2
      go_ret
      exact ⟨ret_bool ((nm_end hp).symm.trans HA.out.1), HB.out⟩
theorem name_any (s : ByteArray) (w : World) (hs : s.size ≤ 1000000) (hT : Tabs w) :
    Calls Tryd.prog 50 #[.string s] w fun e w' => e = .returned (.bool (nameP s)) ∧ Below w.heap.size w w' := by
  have hz := toList_size s
  unfold nameP
  by_cases h0 : s.toList = []
  · rw [h0] at hz
    simp only [List.length_nil] at hz
    rw [decide_eq_false (by omega), Bool.false_and, Bool.false_and]
    exact name_empty s w h0
  · have he : s.toList.isEmpty = false := by simpa using h0
    have h1 : 0 < s.toList.length := List.length_pos_iff.2 h0
    by_cases h2 : 32 < (s.size : Int)
    · rw [decide_eq_false (by omega), Bool.false_and, Bool.false_and]
      exact name_long s w hs he h2
    · rw [decide_eq_true (by omega), Bool.true_and]
      cases hv : validD s.data.toList with
      | false => exact name_text s w hs hT he (by omega) hv
      | true => exact name_ok s w hs hT he (by omega) hv
end Go.Proofs.YtlbemgokilhdnaaDoor.RW
namespace Go.Proofs.YtlbemgokilhdnaaDoor.RP
set_option linter.unusedVariables false
set_option linter.unusedSimpArgs false
open Go.RowKit Go.Lib Go.Proofs.YtlbemgokilhdnaaDoorW.PrintWords Go.Proofs.YtlbemgokilhdnaaDoorW.PrintLast Go.Proofs.YtlbemgokilhdnaaDoorW.PrintMore
/-- A rune that may be written. -/
def goodR (r : Int) : Prop := 0 ≤ r ∧ r ≤ 1114111 ∧ (r < 55296 ∨ 57343 < r)
def Good (l : List Int) : Prop := ∀ r, r ∈ l → goodR r
/-- Runes of a text that may be read. -/
def TextL (l : List Int) : Prop := ∀ r, r ∈ l → goodR r ∧ ¬ badR r
theorem TextL.drop {l : List Int} (h : TextL l) (n : Nat) : TextL (l.drop n) := fun x hx => h x (List.mem_of_mem_drop hx)
theorem TextL.take {l : List Int} (h : TextL l) (n : Nat) : TextL (l.take n) := fun x hx => h x (List.mem_of_mem_take hx)
theorem Good.drop {l : List Int} (h : Good l) (n : Nat) : Good (l.drop n) := fun x hx => h x (List.mem_of_mem_drop hx)
theorem Good.take {l : List Int} (h : Good l) (n : Nat) : Good (l.take n) := fun x hx => h x (List.mem_of_mem_take hx)
theorem TextL.append {a b : List Int} (h : TextL a) (k : TextL b) : TextL (a ++ b) := fun x hx => by
  rcases List.mem_append.1 hx with hx | hx
  · exact h x hx
  · exact k x hx
theorem ba_ext {a b : ByteArray} (h : a.data.toList = b.data.toList) : a = b := by
  apply ByteArray.ext
  apply Array.ext'
  exact h
theorem ba_size (a : ByteArray) : a.data.toList.length = a.size := Array.length_toList
instance : DecidableEq ByteArray := fun a b => decidable_of_iff (a.data.toList = b.data.toList) ⟨ba_ext, fun h => by rw [h]⟩
instance (a : ByteArray) (l : List ByteArray) : Decidable (a ∈ l) := decidable_of_iff (l.any (fun x => decide (x = a)) = true) (by
  rw [List.any_eq_true]
  exact ⟨fun ⟨x, h, e⟩ => by rw [← of_decide_eq_true e]; exact h, fun h => ⟨a, h, decide_eq_true rfl⟩⟩)
end Go.Proofs.YtlbemgokilhdnaaDoor.RP
namespace Go.Proofs.YtlbemgokilhdnaaDoor.RP
set_option linter.unusedVariables false
set_option linter.unusedSimpArgs false
open Go.RowKit Go.Lib Go.Proofs.YtlbemgokilhdnaaDoorW.PrintWords Go.Proofs.YtlbemgokilhdnaaDoorW.PrintLast Go.Proofs.YtlbemgokilhdnaaDoorW.PrintMore Go.Proofs.YtlbemgokilhdnaaDoor.PAll
theorem toListB (s : ByteArray) : s.toList = s.data.toList := by
  have h := ByteArray.toList_mk s.data.toList
  have e : (ByteArray.mk s.data.toList.toArray) = s := by cases s; simp
  rw [e] at h
  exact h
theorem toListB_inj {a b : ByteArray} : a.toList = b.toList ↔ a = b := by
  rw [toListB, toListB]
  exact ⟨ba_ext, fun h => by rw [h]⟩
def wordsL : List ByteArray := (lexer_words.f).getD []
theorem wordsL_eq : lexer_words.f = some wordsL := rfl
def wordB (s : ByteArray) : Bool := decide (s ∈ wordsL)
theorem index_l0 (l : List ByteArray) (a : ByteArray) (hl : l.length ≤ 1000000) : ∀ (d i k : Nat), i ≤ l.length → l.length - i ≤ d → d + 1 ≤ k →
    ∃ z, slices_Index_string_string.l0 k l a (l.length : Int) (i : Int) = some z ∧ (0 ≤ z ↔ a ∈ l.drop i) := by
  intro d
  induction d with
  | zero =>
    intro i k h1 h2 hk
    obtain ⟨k, rfl⟩ : ∃ m, k = m + 1 := ⟨k - 1, by omega⟩
    simp only [slices_Index_string_string.l0]
    rw [if_neg (by omega), List.drop_eq_nil_of_le (by omega)]
    exact ⟨-1, rfl, by simp⟩
  | succ d ih =>
    intro i k h1 h2 hk
    obtain ⟨k, rfl⟩ : ∃ m, k = m + 1 := ⟨k - 1, by omega⟩
    simp only [slices_Index_string_string.l0]
    by_cases hi : i < l.length
    · have hd : l.drop i = rdOf ByteArray.empty l (i : Int) :: l.drop (i + 1) := by
        rw [List.drop_eq_getElem_cons hi]
        simp [rdOf, List.getD, hi]
      rw [if_pos (by omega), if_pos (by omega), if_pos (by omega), hd]
      by_cases he : a = rdOf ByteArray.empty l (i : Int)
      · rw [if_pos (toListB_inj.2 he)]
        exact ⟨_, rfl, ⟨fun _ => by rw [← he]; exact List.mem_cons_self, fun _ => by omega⟩⟩
      · rw [if_neg (fun h => he (toListB_inj.1 h)), w64s i (by omega)]
        obtain ⟨z, hz, hm⟩ := ih (i + 1) k (by omega) (by omega) (by omega)
        exact ⟨z, hz, hm.trans ⟨fun h => List.mem_cons_of_mem _ h, fun h => (List.mem_cons.1 h).resolve_left he⟩⟩
    · rw [if_neg (by omega), List.drop_eq_nil_of_le (by omega)]
      exact ⟨-1, rfl, by simp⟩
theorem contains_eq (l : List ByteArray) (a : ByteArray) (hl : l.length ≤ 1000000) : slices_Contains_string_string.f (l.length + 1) l a = some (decide (a ∈ l)) := by
  unfold slices_Contains_string_string.f slices_Index_string_string.f
  obtain ⟨z, hz, hm⟩ := index_l0 l a hl l.length 0 (l.length + 1) (by omega) (by omega) (by omega)
  have e : (((0 : Nat)) : Int) = 0 := rfl
  rw [e] at hz
  rw [hz]
  simp only [Option.bind_some, List.drop_zero] at hm ⊢
  rw [decide_eq_decide.2 hm]
theorem word_eq (s : ByteArray) : lexer_Word.f (wordsL.length + 1) s = some (wordB s) := by
  unfold lexer_Word.f
  rw [wordsL_eq]
  simp only [Option.bind_some]
  rw [contains_eq wordsL s (by decide)]
  rfl
def nameB (w : ByteArray) : Bool := nameP w && !wordB w
end Go.Proofs.YtlbemgokilhdnaaDoor.RP
namespace Go.Proofs.YtlbemgokilhdnaaDoor.RP
set_option linter.unusedVariables false
set_option linter.unusedSimpArgs false
open Go.RowKit Go.Lib Go.Proofs.YtlbemgokilhdnaaDoorW.PrintWords Go.Proofs.YtlbemgokilhdnaaDoorW.PrintLast Go.Proofs.YtlbemgokilhdnaaDoorW.PrintMore Go.Proofs.YtlbemgokilhdnaaDoor.RP Go.Proofs.YtlbemgokilhdnaaDoor.RW Go.Proofs.YtlbemgokilhdnaaDoor.PAll
def consHead (b : UInt8) : List (List UInt8) → List (List UInt8)
  | [] => [[b]]
  | p :: r => (b :: p) :: r
def pcs : List UInt8 → List (List UInt8)
  | [] => [[]]
  | b :: t => if b = 46 then [] :: pcs t else consHead b (pcs t)
theorem pcs_ne (l : List UInt8) : pcs l ≠ [] := by
  cases l with
  | nil => simp [pcs]
  | cons b t =>
    rw [pcs]
    split
    · simp
    · cases pcs t <;> simp [consHead]
theorem pcs_app : ∀ (a c : List UInt8), pcs (a ++ 46 :: c) = pcs a ++ pcs c
  | [], c => rfl
  | b :: a, c => by
    rw [List.cons_append, pcs, pcs, pcs_app a c]
    split
    · rfl
    · cases hp : pcs a with
      | nil => exact absurd hp (pcs_ne a)
      | cons x r => rfl
theorem pcs_none : ∀ (a : List UInt8), (46 : UInt8) ∉ a → pcs a = [a]
  | [], _ => rfl
  | b :: a, h => by
    rw [pcs, if_neg (fun e => h (by rw [e]; exact List.mem_cons_self)), pcs_none a (fun hm => h (List.mem_cons_of_mem _ hm))]
    rfl
def mkB (l : List UInt8) : ByteArray := ⟨l.toArray⟩
theorem mkB_self (s : ByteArray) : mkB s.data.toList = s := by cases s; simp [mkB]
theorem mkB_size (l : List UInt8) : (mkB l).size = l.length := by rw [← ba_size]; rfl
def pcsB (s : ByteArray) : List ByteArray := (pcs s.data.toList).map mkB
abbrev dotB : ByteArray := ⟨#[46]⟩
theorem index_dot (s : ByteArray) : indexB s dotB = indexByte s.data.toList 46 := by
  have := one s dotB rfl
  exact this
theorem split_eq : ∀ (n : Nat) (s : ByteArray), s.size ≤ n → Lib.splitB dotB 0 (Lib.countB s dotB) s = pcsB s := by
  intro n
  induction n with
  | zero =>
    intro s hs
    rcases indexB_cases s dotB with h | ⟨i, h1, h2⟩
    · rw [splitB_miss _ _ _ _ h]
      have hn : (46 : UInt8) ∉ s.data.toList := fun hm => by
        obtain ⟨k, hk⟩ := List.getElem?_of_mem hm
        exact indexByte_none (by rw [← index_dot]; exact h) k hk
      unfold pcsB
      rw [pcs_none _ hn]; simp [mkB_self]
    · exfalso
      have : dotB.size = 1 := rfl
      omega
  | succ n ih =>
    intro s hs
    rcases indexB_cases s dotB with h | ⟨i, h1, h2⟩
    · rw [splitB_miss _ _ _ _ h]
      have hn : (46 : UInt8) ∉ s.data.toList := fun hm => by
        obtain ⟨k, hk⟩ := List.getElem?_of_mem hm
        exact indexByte_none (by rw [← index_dot]; exact h) k hk
      unfold pcsB
      rw [pcs_none _ hn]; simp [mkB_self]
    · have hd : dotB.size = 1 := rfl
      rw [countB_hit s dotB i (by omega) h1, show 1 + Lib.countB (s.extract (i + dotB.size) s.size) dotB = Lib.countB (s.extract (i + dotB.size) s.size) dotB + 1 by omega, splitB_hit _ _ _ _ i h1, hd]
      rw [ih (s.extract (i + 1) s.size) (by rw [ByteArray.size_extract]; omega)]
      obtain ⟨g1, g2⟩ := indexByte_some (l := s.data.toList) (c := 46) (o := i) (by rw [← index_dot]; exact h1)
      have hlt : i < s.data.toList.length := (List.getElem?_eq_some_iff.1 g1).1
      have e : s.data.toList = s.data.toList.take i ++ 46 :: s.data.toList.drop (i + 1) := by
        conv => lhs; rw [← List.take_append_drop i s.data.toList]
        rw [List.drop_eq_getElem_cons hlt]
        have : s.data.toList[i] = 46 := by rw [List.getElem?_eq_getElem hlt] at g1; exact Option.some.inj g1
        rw [this]
      have hn : (46 : UInt8) ∉ s.data.toList.take i := fun hm => by
        obtain ⟨k, hk⟩ := List.getElem?_of_mem hm
        have hki : k < i := by have := (List.getElem?_eq_some_iff.1 hk).1; rw [List.length_take] at this; omega
        rw [List.getElem?_take_of_lt hki] at hk
        exact g2 k hki hk
      unfold pcsB
      conv => rhs; rw [e, pcs_app, pcs_none _ hn]
      rw [List.map_append, List.map_singleton, List.singleton_append, Nat.add_zero]
      congr 1
      · apply ba_ext; rw [ext_list]; simp [mkB]
      · rw [tail_list]
def longP (s : ByteArray) : Bool := decide (s.size ≤ 128) && (pcsB s).all nameB
def splitP (s : ByteArray) : List ByteArray := if longP s = true then pcsB s else []
end Go.Proofs.YtlbemgokilhdnaaDoor.RP
namespace Go.Proofs.YtlbemgokilhdnaaDoor.Ab
set_option linter.unusedVariables false
set_option linter.unusedSimpArgs false
open Go.RowKit Go.Lib Go.Proofs.YtlbemgokilhdnaaDoorW.PrintWords Go.Proofs.YtlbemgokilhdnaaDoorW.PrintLast Go.Proofs.YtlbemgokilhdnaaDoorW.PrintMore Go.Proofs.YtlbemgokilhdnaaDoor.RP Go.Proofs.YtlbemgokilhdnaaDoor.RW Go.Proofs.YtlbemgokilhdnaaDoor.PAll
theorem acalls_lits {P : Program} {f : FuncId} {l : List Value} {r : Value} (he : Enters P f) (h1 : r.oneCell' = true)
    (h : ∀ w M, Amb w M → Calls P f l.toArray w fun e w' => e = .returned r ∧ Below w.heap.size w w') : ACalls P f (l.map fun v => .imm (.lit v)) [] (.imm (.lit r)) [] := by
  have := acalls_of (P := P) (f := f) (args := l.map .lit) (r := .lit r) he (fun w M vs ha hv => by
    rw [repL_lits_eq hv]
    exact (h w M ha).mono fun e w' ⟨h2, h3⟩ => ⟨r, h2, h3, rep_mk_lit h1⟩)
  rw [List.map_map] at this
  exact this
theorem amb_tabs {w : World} {M : Nat → Prop} (h : Amb w M) : Tabs w := h.tabs
theorem word_a (s : ByteArray) : ACalls Tryd.prog 51 [.imm (.lit (.string s))] [] (.imm (.lit (.bool (wordB s)))) [] :=
  acalls_lits (l := [.string s]) ⟨_, Tryd.func51, rfl, rfl⟩ rfl (fun w M ha => lexer_Word.calls _ s _ w (word_eq s))
end Go.Proofs.YtlbemgokilhdnaaDoor.Ab
namespace Go.Proofs.YtlbemgokilhdnaaDoor.Ab
set_option linter.unusedVariables false
set_option linter.unusedSimpArgs false
open Go.RowKit Go.Lib Go.Proofs.YtlbemgokilhdnaaDoorW.PrintWords Go.Proofs.YtlbemgokilhdnaaDoorW.PrintLast Go.Proofs.YtlbemgokilhdnaaDoorW.PrintMore Go.Proofs.YtlbemgokilhdnaaDoor.RP Go.Proofs.YtlbemgokilhdnaaDoor.RW Go.Proofs.YtlbemgokilhdnaaDoor.PAll
attribute [local irreducible] AWP AOps AExit AThen ABlock ANoGoto FeetOk
theorem strs_get (l : List ByteArray) (j : Nat) (h : j < l.length) : (strs l)[j * 1]? = some (.lit (.string l[j])) := by unfold strs; simp [h]
end Go.Proofs.YtlbemgokilhdnaaDoor.Ab
namespace Go.Proofs.YtlbemgokilhdnaaDoor.Ab
set_option linter.unusedVariables false
set_option linter.unusedSimpArgs false
open Go.RowKit Go.Lib Go.Proofs.YtlbemgokilhdnaaDoorW.PrintWords Go.Proofs.YtlbemgokilhdnaaDoorW.PrintLast Go.Proofs.YtlbemgokilhdnaaDoorW.PrintMore Go.Proofs.YtlbemgokilhdnaaDoor.RP Go.Proofs.YtlbemgokilhdnaaDoor.RW Go.Proofs.YtlbemgokilhdnaaDoor.PAll
theorem runesName_a (s : ByteArray) (hs : s.size ≤ 1000000) : ACalls Tryd.prog 50 [.imm (.lit (.string s))] [] (.imm (.lit (.bool (nameP s)))) [] :=
  acalls_lits (l := [.string s]) ⟨_, Tryd.func50, rfl, rfl⟩ rfl (fun w M ha => name_any s w hs (amb_tabs ha))
theorem pcs_len : ∀ l : List UInt8, (pcs l).length ≤ l.length + 1
  | [] => Nat.le_refl _
  | b :: t => by
    have := pcs_len t
    rw [pcs]
    split
    · simp only [List.length_cons]; omega
    · cases hp : pcs t with
      | nil => simp [consHead]
      | cons x r => rw [hp] at this; simp only [consHead, List.length_cons] at this ⊢; omega
theorem pcsB_len (s : ByteArray) : (pcsB s).length ≤ s.size + 1 := by
  unfold pcsB; rw [List.length_map, ← ba_size]; exact pcs_len _
theorem split_a (s : ByteArray) (hs : s.size ≤ 1000000) : ACalls Tryd.prog 38 [.imm (.lit (.string s)), .imm (.lit (.string dotB))] [] (.imm (.sl false (pcsB s).length (strs (pcsB s)))) [] :=
  acalls_of (args := [.lit (.string s), .lit (.string dotB)]) (r := .sl false (pcsB s).length (strs (pcsB s))) ⟨_, Tryd.func38, rfl, rfl⟩ (fun w M vs ha hv => by
    obtain ⟨v, us, rfl, h1, h2⟩ := repL_cons hv
    obtain ⟨v2, us, rfl, h3, h4⟩ := repL_cons h2
    rw [rep_lit h1, rep_lit h3, repL_nil h4]
    obtain ⟨m, hm⟩ := ha.most
    have hl := pcsB_len s
    have hc : Lib.countB s dotB + 1 = (pcsB s).length := by
      rw [← split_eq s.size s (Nat.le_refl _), splitB_all dotB (by decide) 0 _ s rfl]
    refine (Tryd.strings_Split s dotB m w (by omega) hm (by decide)).mono fun e w' ⟨he, hw⟩ => ⟨_, he, ?_, ?_⟩
    · rw [hw]; exact below_alloc _
    · rw [hc, split_eq s.size s (Nat.le_refl _)] at *
      subst hw
      exact rep_new_strs (cells := ((pcsB s).map Value.string).toArray) (T := 9) (fz := (0, 0)) (by show (w.heap.push _)[w.heap.size]? = _; simp) (Nat.le_refl _) (by rw [List.take_of_length_le (by simp)]) (Nat.le_refl _) (by unfold slMax; omega))
end Go.Proofs.YtlbemgokilhdnaaDoor.Ab
namespace Go.Proofs.YtlbemgokilhdnaaDoor.Ab
set_option linter.unusedVariables false
set_option linter.unusedSimpArgs false
open Go.RowKit Go.Lib Go.Proofs.YtlbemgokilhdnaaDoorW.PrintWords Go.Proofs.YtlbemgokilhdnaaDoorW.PrintLast Go.Proofs.YtlbemgokilhdnaaDoorW.PrintMore Go.Proofs.YtlbemgokilhdnaaDoor.RP Go.Proofs.YtlbemgokilhdnaaDoor.RW Go.Proofs.YtlbemgokilhdnaaDoor.PAll
attribute [local irreducible] AWP AOps AExit AThen ABlock ANoGoto FeetOk
set_option maxHeartbeats 4000000 in
set_option maxRecDepth 10000 in
theorem nCheck_a (s : ByteArray) (hs : s.size ≤ 1000000) : ACalls Tryd.prog 36 [.imm (.lit (.string s))] [] (.imm (.lit (.bool (nameB s)))) [] := by
  have c1 := runesName_a s hs
  have c2 := word_a s
  unfold nameB
  refine acalls_plain Tryd.func36 rfl rfl (Nat.le_of_ble_eq_true rfl) rfl ?_
  repeat' (first | refine aops_nil ?_ | (refine aops_one ?_; first | refine aops_quiet tabOk rfl rfl rfl (Nat.le_of_ble_eq_true rfl) rfl ?_ | refine aops_skip rfl rfl (Nat.le_of_ble_eq_true rfl) ?_ | (refine aops_cmp rfl rfl rfl (Nat.le_of_ble_eq_true rfl) rfl rfl rfl (fun hq => ?_) (fun hq => ?_) <;> (first | (simp only [decide_eq_true_eq, decide_eq_false_iff_not, beq_iff_eq, beq_eq_false_iff_ne, bne_iff_ne, bne_eq_false_iff_eq, Bool.not_eq_true', Bool.not_eq_false'] at hq; first | (exfalso; omega) | skip) | skip))| (refine aops_callq rfl rfl rfl (Nat.le_of_ble_eq_true rfl) rfl rfl rfl (c1) (fun hq => ?_) (fun hq => ?_)) | (refine aops_callq rfl rfl rfl (Nat.le_of_ble_eq_true rfl) rfl rfl rfl (c2) (fun hq => ?_) (fun hq => ?_)) | refine aops_inc rfl rfl rfl (Nat.le_of_ble_eq_true rfl) rfl rfl (by omega) ?_ | refine aops_add rfl rfl rfl (Nat.le_of_ble_eq_true rfl) rfl rfl rfl (by omega) (by omega) ?_ | refine aops_sub rfl rfl rfl (Nat.le_of_ble_eq_true rfl) rfl rfl rfl (by omega) (by omega) ?_ | refine aops_list tabOk rfl rfl rfl (Nat.le_of_ble_eq_true rfl) rfl rfl rfl rfl rfl rfl rfl rfl rfl ?_ | refine aops_pure tabOk rfl rfl (Nat.le_of_ble_eq_true rfl) rfl ?_ | refine aops_alloc tabOk rfl rfl rfl (Nat.le_of_ble_eq_true rfl) rfl rfl rfl rfl rfl rfl ?_ | refine aops_loadm tabOk rfl rfl rfl (Nat.le_of_ble_eq_true rfl) rfl rfl rfl rfl ?_ | refine aops_storem tabOk rfl rfl rfl rfl rfl rfl rfl rfl rfl rfl rfl ?_ | refine aops_index tabOk rfl rfl rfl (Nat.le_of_ble_eq_true rfl) rfl rfl rfl rfl (by first | assumption | omega) ?_ | refine aops_index0 tabOk rfl rfl rfl (Nat.le_of_ble_eq_true rfl) rfl rfl rfl rfl (by first | rfl | omega) (by first | omega | simp) ?_ | refine aops_load1 tabOk rfl rfl rfl (Nat.le_of_ble_eq_true rfl) rfl rfl rfl (by assumption) ?_ | refine aops_load1 tabOk rfl rfl rfl (Nat.le_of_ble_eq_true rfl) rfl rfl rfl (ivs_get _ _ (by first | assumption | omega)) ?_ | refine aops_inc rfl rfl rfl (Nat.le_of_ble_eq_true rfl) rfl rfl (by omega) ?_ | ((fail_if_success (refine aops_lit (b := true) rfl rfl rfl ?_)); (fail_if_success (refine aops_lit (b := false) rfl rfl rfl ?_)); refine aops_guard rfl rfl rfl (fun hq => ?_) (fun hq => ?_) <;> first | subst hq | (first | (simp only [decide_eq_true_eq, decide_eq_false_iff_not, beq_iff_eq, beq_eq_false_iff_ne, bne_iff_ne, bne_eq_false_iff_eq, Bool.not_eq_true', Bool.not_eq_false'] at hq; first | (exfalso; omega) | skip) | skip)) | fail) | (refine awp_one ?_; first | refine awp_sreg ?_ | refine awp_seq ?_ | refine awp_region ?_ | refine awp_block ?_ | refine awp_ret ?_ | refine awp_exit ?_ | refine awp_skip ?_ | refine awp_cond (b := true) rfl (fun _ => ?_) (fun h => Bool.noConfusion h) | refine awp_cond (b := false) rfl (fun h => Bool.noConfusion h) (fun _ => ?_) | refine awp_scope ?_ | refine awp_label ?_ | refine awp_sdraw mixed (by kernel_rfl) ?_ | refine awp_region_draw mixed (by kernel_rfl) ?_ | (refine awp_cond rfl (fun hq => ?_) (fun hq => ?_) <;> first | subst hq | (first | (simp only [decide_eq_true_eq, decide_eq_false_iff_not, beq_iff_eq, beq_eq_false_iff_ne, bne_iff_ne, bne_eq_false_iff_eq, Bool.not_eq_true', Bool.not_eq_false'] at hq; first | (exfalso; omega) | skip) | skip)) | fail) | (refine then_one ?_; first | refine q_then ?_ | refine q_then_exit ?_ | refine q_then_ret ?_ | fail) | (refine block_one ?_; first | refine q_block ?_ | refine q_block_exit ?_ | refine q_block_pass (by decide) ?_ | refine q_block_ret ?_ | fail) | refine feet_one (feetOk_of (by kernel_rfl)) ?_ | fail)
  all_goals (refine aexit_eq (by first | exact .inl rfl | exact .inr rfl) (results_1 rfl (resOk_tmp rfl)) rfl ?_; refine bool_eq ?_; simp_all)
set_option maxHeartbeats 4000000 in
set_option maxRecDepth 10000 in
theorem nBad_a (s : ByteArray) (hs : s.size ≤ 1000000) : ACalls Tryd.prog 35 [.imm (.lit (.string s))] [] (.imm (.lit (.bool (!nameB s)))) [] := by
  have c1 := nCheck_a s hs
  refine acalls_plain Tryd.func35 rfl rfl (Nat.le_of_ble_eq_true rfl) rfl ?_
  repeat' (first | refine aops_nil ?_ | (refine aops_one ?_; first | refine aops_quiet tabOk rfl rfl rfl (Nat.le_of_ble_eq_true rfl) rfl ?_ | refine aops_skip rfl rfl (Nat.le_of_ble_eq_true rfl) ?_ | (refine aops_cmp rfl rfl rfl (Nat.le_of_ble_eq_true rfl) rfl rfl rfl (fun hq => ?_) (fun hq => ?_) <;> (first | (simp only [decide_eq_true_eq, decide_eq_false_iff_not, beq_iff_eq, beq_eq_false_iff_ne, bne_iff_ne, bne_eq_false_iff_eq, Bool.not_eq_true', Bool.not_eq_false'] at hq; first | (exfalso; omega) | skip) | skip))| (refine aops_callq rfl rfl rfl (Nat.le_of_ble_eq_true rfl) rfl rfl rfl (c1) (fun hq => ?_) (fun hq => ?_)) | refine aops_inc rfl rfl rfl (Nat.le_of_ble_eq_true rfl) rfl rfl (by omega) ?_ | refine aops_add rfl rfl rfl (Nat.le_of_ble_eq_true rfl) rfl rfl rfl (by omega) (by omega) ?_ | refine aops_sub rfl rfl rfl (Nat.le_of_ble_eq_true rfl) rfl rfl rfl (by omega) (by omega) ?_ | refine aops_list tabOk rfl rfl rfl (Nat.le_of_ble_eq_true rfl) rfl rfl rfl rfl rfl rfl rfl rfl rfl ?_ | refine aops_pure tabOk rfl rfl (Nat.le_of_ble_eq_true rfl) rfl ?_ | refine aops_alloc tabOk rfl rfl rfl (Nat.le_of_ble_eq_true rfl) rfl rfl rfl rfl rfl rfl ?_ | refine aops_loadm tabOk rfl rfl rfl (Nat.le_of_ble_eq_true rfl) rfl rfl rfl rfl ?_ | refine aops_storem tabOk rfl rfl rfl rfl rfl rfl rfl rfl rfl rfl rfl ?_ | refine aops_index tabOk rfl rfl rfl (Nat.le_of_ble_eq_true rfl) rfl rfl rfl rfl (by first | assumption | omega) ?_ | refine aops_index0 tabOk rfl rfl rfl (Nat.le_of_ble_eq_true rfl) rfl rfl rfl rfl (by first | rfl | omega) (by first | omega | simp) ?_ | refine aops_load1 tabOk rfl rfl rfl (Nat.le_of_ble_eq_true rfl) rfl rfl rfl (by assumption) ?_ | refine aops_load1 tabOk rfl rfl rfl (Nat.le_of_ble_eq_true rfl) rfl rfl rfl (ivs_get _ _ (by first | assumption | omega)) ?_ | refine aops_inc rfl rfl rfl (Nat.le_of_ble_eq_true rfl) rfl rfl (by omega) ?_ | ((fail_if_success (refine aops_lit (b := true) rfl rfl rfl ?_)); (fail_if_success (refine aops_lit (b := false) rfl rfl rfl ?_)); refine aops_guard rfl rfl rfl (fun hq => ?_) (fun hq => ?_) <;> first | subst hq | (first | (simp only [decide_eq_true_eq, decide_eq_false_iff_not, beq_iff_eq, beq_eq_false_iff_ne, bne_iff_ne, bne_eq_false_iff_eq, Bool.not_eq_true', Bool.not_eq_false'] at hq; first | (exfalso; omega) | skip) | skip)) | fail) | (refine awp_one ?_; first | refine awp_sreg ?_ | refine awp_seq ?_ | refine awp_region ?_ | refine awp_block ?_ | refine awp_ret ?_ | refine awp_exit ?_ | refine awp_skip ?_ | refine awp_cond (b := true) rfl (fun _ => ?_) (fun h => Bool.noConfusion h) | refine awp_cond (b := false) rfl (fun h => Bool.noConfusion h) (fun _ => ?_) | refine awp_scope ?_ | refine awp_label ?_ | refine awp_sdraw mixed (by kernel_rfl) ?_ | refine awp_region_draw mixed (by kernel_rfl) ?_ | (refine awp_cond rfl (fun hq => ?_) (fun hq => ?_) <;> first | subst hq | (first | (simp only [decide_eq_true_eq, decide_eq_false_iff_not, beq_iff_eq, beq_eq_false_iff_ne, bne_iff_ne, bne_eq_false_iff_eq, Bool.not_eq_true', Bool.not_eq_false'] at hq; first | (exfalso; omega) | skip) | skip)) | fail) | (refine then_one ?_; first | refine q_then ?_ | refine q_then_exit ?_ | refine q_then_ret ?_ | fail) | (refine block_one ?_; first | refine q_block ?_ | refine q_block_exit ?_ | refine q_block_pass (by decide) ?_ | refine q_block_ret ?_ | fail) | refine feet_one (feetOk_of (by kernel_rfl)) ?_ | fail)
  all_goals (refine aexit_eq (by first | exact .inl rfl | exact .inr rfl) (results_1 rfl (resOk_tmp rfl)) rfl ?_; refine bool_eq ?_; simp_all)
set_option maxHeartbeats 4000000 in
set_option maxRecDepth 10000 in
theorem indexFunc_a (b : Bool) (l : List ByteArray) (f : FuncId) (R : ByteArray → Bool) (hl : l.length ≤ 1000000)
    (hf : ∀ i (hi : i < l.length), ACalls Tryd.prog f [.imm (.lit (.string l[i]))] [] (.imm (.lit (.bool (R l[i])))) []) :
    ∃ r : Int, (0 ≤ r ↔ l.any R = true) ∧ ACalls Tryd.prog 52 [.imm (.sl b l.length (strs l)), .imm (.func f [] [])] [] (.imm (.lit (.int .i64 r))) [] := by
  have hex : (∃ j, ∃ hj : j < l.length, R l[j] = true ∧ ∀ i (hi : i < l.length), i < j → R l[i] = false) ∨ (∀ i (hi : i < l.length), R l[i] = false) := by
    clear hf
    induction l with
    | nil => exact .inr (fun i hi => by simp at hi)
    | cons x l ih =>
      cases hx : R x with
      | true => exact .inl ⟨0, by simp, hx, fun i hi h => by omega⟩
      | false =>
        rcases ih (by simp at hl; omega) with ⟨j, hj, h1, h2⟩ | h
        · refine .inl ⟨j + 1, by simp; omega, by simpa using h1, fun i hi h => ?_⟩
          cases i with
          | zero => simpa using hx
          | succ i => simpa using h2 i (by simpa using hi) (by omega)
        · refine .inr fun i hi => ?_
          cases i with
          | zero => simpa using hx
          | succ i => simpa using h i (by simpa using hi)
  have walk : ∀ (z : Nat), z ≤ l.length → (∀ i (hi : i < l.length), i < z → R l[i] = false) → (∀ hz : z < l.length, R l[z] = true) →
      ACalls Tryd.prog 52 [.imm (.sl b l.length (strs l)), .imm (.func f [] [])] [] (.imm (.lit (.int .i64 (if z < l.length then (z : Int) else -1)))) [] := by
    intro z hz hno hyes
    refine acalls_plain Tryd.func52 rfl rfl (Nat.le_of_ble_eq_true rfl) rfl ?_
    repeat' (first | refine aops_nil ?_ | (refine aops_one ?_; first | refine aops_quiet tabOk rfl rfl rfl (Nat.le_of_ble_eq_true rfl) rfl ?_ | refine aops_skip rfl rfl (Nat.le_of_ble_eq_true rfl) ?_ | (refine aops_cmp rfl rfl rfl (Nat.le_of_ble_eq_true rfl) rfl rfl rfl (fun hq => ?_) (fun hq => ?_) <;> (first | (simp only [decide_eq_true_eq, decide_eq_false_iff_not, beq_iff_eq, beq_eq_false_iff_ne, bne_iff_ne, bne_eq_false_iff_eq, Bool.not_eq_true', Bool.not_eq_false'] at hq; first | (exfalso; omega) | skip) | skip)) | refine aops_inc rfl rfl rfl (Nat.le_of_ble_eq_true rfl) rfl rfl (by omega) ?_ | refine aops_add rfl rfl rfl (Nat.le_of_ble_eq_true rfl) rfl rfl rfl (by omega) (by omega) ?_ | refine aops_sub rfl rfl rfl (Nat.le_of_ble_eq_true rfl) rfl rfl rfl (by omega) (by omega) ?_ | refine aops_list tabOk rfl rfl rfl (Nat.le_of_ble_eq_true rfl) rfl rfl rfl rfl rfl rfl rfl rfl rfl ?_ | refine aops_pure tabOk rfl rfl (Nat.le_of_ble_eq_true rfl) rfl ?_ | refine aops_alloc tabOk rfl rfl rfl (Nat.le_of_ble_eq_true rfl) rfl rfl rfl rfl rfl rfl ?_ | refine aops_loadm tabOk rfl rfl rfl (Nat.le_of_ble_eq_true rfl) rfl rfl rfl rfl ?_ | refine aops_storem tabOk rfl rfl rfl rfl rfl rfl rfl rfl rfl rfl rfl ?_ | refine aops_index tabOk rfl rfl rfl (Nat.le_of_ble_eq_true rfl) rfl rfl rfl rfl (by first | assumption | omega) ?_ | refine aops_index0 tabOk rfl rfl rfl (Nat.le_of_ble_eq_true rfl) rfl rfl rfl rfl (by first | rfl | omega) (by first | omega | simp) ?_ | refine aops_load1 tabOk rfl rfl rfl (Nat.le_of_ble_eq_true rfl) rfl rfl rfl (by assumption) ?_ | refine aops_load1 tabOk rfl rfl rfl (Nat.le_of_ble_eq_true rfl) rfl rfl rfl (ivs_get _ _ (by first | assumption | omega)) ?_ | refine aops_inc rfl rfl rfl (Nat.le_of_ble_eq_true rfl) rfl rfl (by omega) ?_ | ((fail_if_success (refine aops_lit (b := true) rfl rfl rfl ?_)); (fail_if_success (refine aops_lit (b := false) rfl rfl rfl ?_)); refine aops_guard rfl rfl rfl (fun hq => ?_) (fun hq => ?_) <;> first | subst hq | (first | (simp only [decide_eq_true_eq, decide_eq_false_iff_not, beq_iff_eq, beq_eq_false_iff_ne, bne_iff_ne, bne_eq_false_iff_eq, Bool.not_eq_true', Bool.not_eq_false'] at hq; first | (exfalso; omega) | skip) | skip)) | fail) | (refine awp_one ?_; first | refine awp_sreg ?_ | refine awp_seq ?_ | refine awp_region ?_ | refine awp_block ?_ | refine awp_ret ?_ | refine awp_exit ?_ | refine awp_skip ?_ | refine awp_cond (b := true) rfl (fun _ => ?_) (fun h => Bool.noConfusion h) | refine awp_cond (b := false) rfl (fun h => Bool.noConfusion h) (fun _ => ?_) | refine awp_scope ?_ | refine awp_label ?_ | refine awp_sdraw mixed (by kernel_rfl) ?_ | refine awp_region_draw mixed (by kernel_rfl) ?_ | (refine awp_cond rfl (fun hq => ?_) (fun hq => ?_) <;> first | subst hq | (first | (simp only [decide_eq_true_eq, decide_eq_false_iff_not, beq_iff_eq, beq_eq_false_iff_ne, bne_iff_ne, bne_eq_false_iff_eq, Bool.not_eq_true', Bool.not_eq_false'] at hq; first | (exfalso; omega) | skip) | skip)) | fail) | (refine then_one ?_; first | refine q_then ?_ | refine q_then_exit ?_ | refine q_then_ret ?_ | fail) | (refine block_one ?_; first | refine q_block ?_ | refine q_block_exit ?_ | refine q_block_pass (by decide) ?_ | refine q_block_ret ?_ | fail) | refine feet_one (feetOk_of (by kernel_rfl)) ?_ | fail)
    refine awp_loop (ι := {j : Nat // j ≤ z}) (fun j => S.f ⟨[(8, .imm (.lit (.int .i64 (j.1 : Int)))), (7, .imm (.lit (.int .i64 (l.length : Int)))), (0, .imm (.sl b l.length (strs l))), (1, .imm (.func f [] []))], []⟩) (fun j => l.length - j.1) ⟨0, Nat.zero_le _⟩ (le_of (by repeat' first | exact trivial | refine ⟨rfl, ?_⟩) (by repeat' first | exact trivial | refine ⟨rfl, ?_⟩)) ?_
    rintro ⟨j, hj⟩
    dsimp only
    by_cases hlt : j < l.length
    · have c := hf j hlt
      by_cases hjz : j < z
      · rw [hno j hlt hjz] at c
        repeat' (first | refine aops_nil ?_ | (refine aops_one ?_; first | refine aops_quiet tabOk rfl rfl rfl (Nat.le_of_ble_eq_true rfl) rfl ?_ | refine aops_skip rfl rfl (Nat.le_of_ble_eq_true rfl) ?_ | (refine aops_cmp rfl rfl rfl (Nat.le_of_ble_eq_true rfl) rfl rfl rfl (fun hq => ?_) (fun hq => ?_) <;> (first | (simp only [decide_eq_true_eq, decide_eq_false_iff_not, beq_iff_eq, beq_eq_false_iff_ne, bne_iff_ne, bne_eq_false_iff_eq, Bool.not_eq_true', Bool.not_eq_false'] at hq; first | (exfalso; omega) | skip) | skip))| refine aops_load1 tabOk rfl rfl rfl (Nat.le_of_ble_eq_true rfl) rfl rfl rfl (strs_get l j hlt) ?_ | refine aops_call rfl rfl (Nat.le_of_ble_eq_true rfl) rfl rfl rfl rfl (c) ?_ | refine aops_inc rfl rfl rfl (Nat.le_of_ble_eq_true rfl) rfl rfl (by omega) ?_ | refine aops_add rfl rfl rfl (Nat.le_of_ble_eq_true rfl) rfl rfl rfl (by omega) (by omega) ?_ | refine aops_sub rfl rfl rfl (Nat.le_of_ble_eq_true rfl) rfl rfl rfl (by omega) (by omega) ?_ | refine aops_list tabOk rfl rfl rfl (Nat.le_of_ble_eq_true rfl) rfl rfl rfl rfl rfl rfl rfl rfl rfl ?_ | refine aops_pure tabOk rfl rfl (Nat.le_of_ble_eq_true rfl) rfl ?_ | refine aops_alloc tabOk rfl rfl rfl (Nat.le_of_ble_eq_true rfl) rfl rfl rfl rfl rfl rfl ?_ | refine aops_loadm tabOk rfl rfl rfl (Nat.le_of_ble_eq_true rfl) rfl rfl rfl rfl ?_ | refine aops_storem tabOk rfl rfl rfl rfl rfl rfl rfl rfl rfl rfl rfl ?_ | refine aops_index tabOk rfl rfl rfl (Nat.le_of_ble_eq_true rfl) rfl rfl rfl rfl (by first | assumption | omega) ?_ | refine aops_index0 tabOk rfl rfl rfl (Nat.le_of_ble_eq_true rfl) rfl rfl rfl rfl (by first | rfl | omega) (by first | omega | simp) ?_ | refine aops_load1 tabOk rfl rfl rfl (Nat.le_of_ble_eq_true rfl) rfl rfl rfl (by assumption) ?_ | refine aops_load1 tabOk rfl rfl rfl (Nat.le_of_ble_eq_true rfl) rfl rfl rfl (ivs_get _ _ (by first | assumption | omega)) ?_ | refine aops_inc rfl rfl rfl (Nat.le_of_ble_eq_true rfl) rfl rfl (by omega) ?_ | ((fail_if_success (refine aops_lit (b := true) rfl rfl rfl ?_)); (fail_if_success (refine aops_lit (b := false) rfl rfl rfl ?_)); refine aops_guard rfl rfl rfl (fun hq => ?_) (fun hq => ?_) <;> first | subst hq | (first | (simp only [decide_eq_true_eq, decide_eq_false_iff_not, beq_iff_eq, beq_eq_false_iff_ne, bne_iff_ne, bne_eq_false_iff_eq, Bool.not_eq_true', Bool.not_eq_false'] at hq; first | (exfalso; omega) | skip) | skip)) | fail) | (refine awp_one ?_; first | refine awp_sreg ?_ | refine awp_seq ?_ | refine awp_region ?_ | refine awp_block ?_ | refine awp_ret ?_ | refine awp_exit ?_ | refine awp_skip ?_ | refine awp_cond (b := true) rfl (fun _ => ?_) (fun h => Bool.noConfusion h) | refine awp_cond (b := false) rfl (fun h => Bool.noConfusion h) (fun _ => ?_) | refine awp_scope ?_ | refine awp_label ?_ | refine awp_sdraw mixed (by kernel_rfl) ?_ | refine awp_region_draw mixed (by kernel_rfl) ?_ | (refine awp_cond rfl (fun hq => ?_) (fun hq => ?_) <;> first | subst hq | (first | (simp only [decide_eq_true_eq, decide_eq_false_iff_not, beq_iff_eq, beq_eq_false_iff_ne, bne_iff_ne, bne_eq_false_iff_eq, Bool.not_eq_true', Bool.not_eq_false'] at hq; first | (exfalso; omega) | skip) | skip)) | fail) | (refine then_one ?_; first | refine q_then ?_ | refine q_then_exit ?_ | refine q_then_ret ?_ | fail) | (refine block_one ?_; first | refine q_block ?_ | refine q_block_exit ?_ | refine q_block_pass (by decide) ?_ | refine q_block_ret ?_ | fail) | refine feet_one (feetOk_of (by kernel_rfl)) ?_ | fail)
        all_goals exact ⟨⟨j + 1, hjz⟩, (by show l.length - (j + 1) < l.length - j; omega), (le_of (by repeat' first | exact trivial | refine ⟨rfl, ?_⟩) (by repeat' first | exact trivial | refine ⟨rfl, ?_⟩))⟩
      · have e : j = z := by omega
        subst e
        rw [hyes hlt] at c
        repeat' (first | refine aops_nil ?_ | (refine aops_one ?_; first | refine aops_quiet tabOk rfl rfl rfl (Nat.le_of_ble_eq_true rfl) rfl ?_ | refine aops_skip rfl rfl (Nat.le_of_ble_eq_true rfl) ?_ | (refine aops_cmp rfl rfl rfl (Nat.le_of_ble_eq_true rfl) rfl rfl rfl (fun hq => ?_) (fun hq => ?_) <;> (first | (simp only [decide_eq_true_eq, decide_eq_false_iff_not, beq_iff_eq, beq_eq_false_iff_ne, bne_iff_ne, bne_eq_false_iff_eq, Bool.not_eq_true', Bool.not_eq_false'] at hq; first | (exfalso; omega) | skip) | skip))| refine aops_load1 tabOk rfl rfl rfl (Nat.le_of_ble_eq_true rfl) rfl rfl rfl (strs_get l j hlt) ?_ | refine aops_call rfl rfl (Nat.le_of_ble_eq_true rfl) rfl rfl rfl rfl (c) ?_ | refine aops_inc rfl rfl rfl (Nat.le_of_ble_eq_true rfl) rfl rfl (by omega) ?_ | refine aops_add rfl rfl rfl (Nat.le_of_ble_eq_true rfl) rfl rfl rfl (by omega) (by omega) ?_ | refine aops_sub rfl rfl rfl (Nat.le_of_ble_eq_true rfl) rfl rfl rfl (by omega) (by omega) ?_ | refine aops_list tabOk rfl rfl rfl (Nat.le_of_ble_eq_true rfl) rfl rfl rfl rfl rfl rfl rfl rfl rfl ?_ | refine aops_pure tabOk rfl rfl (Nat.le_of_ble_eq_true rfl) rfl ?_ | refine aops_alloc tabOk rfl rfl rfl (Nat.le_of_ble_eq_true rfl) rfl rfl rfl rfl rfl rfl ?_ | refine aops_loadm tabOk rfl rfl rfl (Nat.le_of_ble_eq_true rfl) rfl rfl rfl rfl ?_ | refine aops_storem tabOk rfl rfl rfl rfl rfl rfl rfl rfl rfl rfl rfl ?_ | refine aops_index tabOk rfl rfl rfl (Nat.le_of_ble_eq_true rfl) rfl rfl rfl rfl (by first | assumption | omega) ?_ | refine aops_index0 tabOk rfl rfl rfl (Nat.le_of_ble_eq_true rfl) rfl rfl rfl rfl (by first | rfl | omega) (by first | omega | simp) ?_ | refine aops_load1 tabOk rfl rfl rfl (Nat.le_of_ble_eq_true rfl) rfl rfl rfl (by assumption) ?_ | refine aops_load1 tabOk rfl rfl rfl (Nat.le_of_ble_eq_true rfl) rfl rfl rfl (ivs_get _ _ (by first | assumption | omega)) ?_ | refine aops_inc rfl rfl rfl (Nat.le_of_ble_eq_true rfl) rfl rfl (by omega) ?_ | ((fail_if_success (refine aops_lit (b := true) rfl rfl rfl ?_)); (fail_if_success (refine aops_lit (b := false) rfl rfl rfl ?_)); refine aops_guard rfl rfl rfl (fun hq => ?_) (fun hq => ?_) <;> first | subst hq | (first | (simp only [decide_eq_true_eq, decide_eq_false_iff_not, beq_iff_eq, beq_eq_false_iff_ne, bne_iff_ne, bne_eq_false_iff_eq, Bool.not_eq_true', Bool.not_eq_false'] at hq; first | (exfalso; omega) | skip) | skip)) | fail) | (refine awp_one ?_; first | refine awp_sreg ?_ | refine awp_seq ?_ | refine awp_region ?_ | refine awp_block ?_ | refine awp_ret ?_ | refine awp_exit ?_ | refine awp_skip ?_ | refine awp_cond (b := true) rfl (fun _ => ?_) (fun h => Bool.noConfusion h) | refine awp_cond (b := false) rfl (fun h => Bool.noConfusion h) (fun _ => ?_) | refine awp_scope ?_ | refine awp_label ?_ | refine awp_sdraw mixed (by kernel_rfl) ?_ | refine awp_region_draw mixed (by kernel_rfl) ?_ | (refine awp_cond rfl (fun hq => ?_) (fun hq => ?_) <;> first | subst hq | (first | (simp only [decide_eq_true_eq, decide_eq_false_iff_not, beq_iff_eq, beq_eq_false_iff_ne, bne_iff_ne, bne_eq_false_iff_eq, Bool.not_eq_true', Bool.not_eq_false'] at hq; first | (exfalso; omega) | skip) | skip)) | fail) | (refine then_one ?_; first | refine q_then ?_ | refine q_then_exit ?_ | refine q_then_ret ?_ | fail) | (refine block_one ?_; first | refine q_block ?_ | refine q_block_exit ?_ | refine q_block_pass (by decide) ?_ | refine q_block_ret ?_ | fail) | refine feet_one (feetOk_of (by kernel_rfl)) ?_ | fail)
        all_goals (refine aexit_eq (by first | exact .inl rfl | exact .inr rfl) (results_1 rfl (resOk_tmp rfl)) rfl ?_; exact int_eq (by rw [if_pos hlt]))
    · repeat' (first | refine aops_nil ?_ | (refine aops_one ?_; first | refine aops_quiet tabOk rfl rfl rfl (Nat.le_of_ble_eq_true rfl) rfl ?_ | refine aops_skip rfl rfl (Nat.le_of_ble_eq_true rfl) ?_ | (refine aops_cmp rfl rfl rfl (Nat.le_of_ble_eq_true rfl) rfl rfl rfl (fun hq => ?_) (fun hq => ?_) <;> (first | (simp only [decide_eq_true_eq, decide_eq_false_iff_not, beq_iff_eq, beq_eq_false_iff_ne, bne_iff_ne, bne_eq_false_iff_eq, Bool.not_eq_true', Bool.not_eq_false'] at hq; first | (exfalso; omega) | skip) | skip)) | refine aops_inc rfl rfl rfl (Nat.le_of_ble_eq_true rfl) rfl rfl (by omega) ?_ | refine aops_add rfl rfl rfl (Nat.le_of_ble_eq_true rfl) rfl rfl rfl (by omega) (by omega) ?_ | refine aops_sub rfl rfl rfl (Nat.le_of_ble_eq_true rfl) rfl rfl rfl (by omega) (by omega) ?_ | refine aops_list tabOk rfl rfl rfl (Nat.le_of_ble_eq_true rfl) rfl rfl rfl rfl rfl rfl rfl rfl rfl ?_ | refine aops_pure tabOk rfl rfl (Nat.le_of_ble_eq_true rfl) rfl ?_ | refine aops_alloc tabOk rfl rfl rfl (Nat.le_of_ble_eq_true rfl) rfl rfl rfl rfl rfl rfl ?_ | refine aops_loadm tabOk rfl rfl rfl (Nat.le_of_ble_eq_true rfl) rfl rfl rfl rfl ?_ | refine aops_storem tabOk rfl rfl rfl rfl rfl rfl rfl rfl rfl rfl rfl ?_ | refine aops_index tabOk rfl rfl rfl (Nat.le_of_ble_eq_true rfl) rfl rfl rfl rfl (by first | assumption | omega) ?_ | refine aops_index0 tabOk rfl rfl rfl (Nat.le_of_ble_eq_true rfl) rfl rfl rfl rfl (by first | rfl | omega) (by first | omega | simp) ?_ | refine aops_load1 tabOk rfl rfl rfl (Nat.le_of_ble_eq_true rfl) rfl rfl rfl (by assumption) ?_ | refine aops_load1 tabOk rfl rfl rfl (Nat.le_of_ble_eq_true rfl) rfl rfl rfl (ivs_get _ _ (by first | assumption | omega)) ?_ | refine aops_inc rfl rfl rfl (Nat.le_of_ble_eq_true rfl) rfl rfl (by omega) ?_ | ((fail_if_success (refine aops_lit (b := true) rfl rfl rfl ?_)); (fail_if_success (refine aops_lit (b := false) rfl rfl rfl ?_)); refine aops_guard rfl rfl rfl (fun hq => ?_) (fun hq => ?_) <;> first | subst hq | (first | (simp only [decide_eq_true_eq, decide_eq_false_iff_not, beq_iff_eq, beq_eq_false_iff_ne, bne_iff_ne, bne_eq_false_iff_eq, Bool.not_eq_true', Bool.not_eq_false'] at hq; first | (exfalso; omega) | skip) | skip)) | fail) | (refine awp_one ?_; first | refine awp_sreg ?_ | refine awp_seq ?_ | refine awp_region ?_ | refine awp_block ?_ | refine awp_ret ?_ | refine awp_exit ?_ | refine awp_skip ?_ | refine awp_cond (b := true) rfl (fun _ => ?_) (fun h => Bool.noConfusion h) | refine awp_cond (b := false) rfl (fun h => Bool.noConfusion h) (fun _ => ?_) | refine awp_scope ?_ | refine awp_label ?_ | refine awp_sdraw mixed (by kernel_rfl) ?_ | refine awp_region_draw mixed (by kernel_rfl) ?_ | (refine awp_cond rfl (fun hq => ?_) (fun hq => ?_) <;> first | subst hq | (first | (simp only [decide_eq_true_eq, decide_eq_false_iff_not, beq_iff_eq, beq_eq_false_iff_ne, bne_iff_ne, bne_eq_false_iff_eq, Bool.not_eq_true', Bool.not_eq_false'] at hq; first | (exfalso; omega) | skip) | skip)) | fail) | (refine then_one ?_; first | refine q_then ?_ | refine q_then_exit ?_ | refine q_then_ret ?_ | fail) | (refine block_one ?_; first | refine q_block ?_ | refine q_block_exit ?_ | refine q_block_pass (by decide) ?_ | refine q_block_ret ?_ | fail) | refine feet_one (feetOk_of (by kernel_rfl)) ?_ | fail)
      all_goals (refine aexit_eq (by first | exact .inl rfl | exact .inr rfl) (results_1 rfl (resOk_tmp rfl)) rfl ?_; exact int_eq (by rw [if_neg (by omega)]))
  rcases hex with ⟨j, hj, h1, h2⟩ | h
  · refine ⟨_, ?_, walk j (by omega) (fun i hi h => h2 i hi h) (fun _ => h1)⟩
    rw [if_pos hj]
    exact ⟨fun _ => List.any_eq_true.2 ⟨l[j], List.getElem_mem hj, h1⟩, fun _ => by omega⟩
  · refine ⟨_, ?_, walk l.length (Nat.le_refl _) (fun i hi _ => h i hi) (fun hz => absurd hz (Nat.lt_irrefl _))⟩
    rw [if_neg (Nat.lt_irrefl _)]
    refine ⟨fun h => by omega, fun ha => ?_⟩
    obtain ⟨x, hx, hR⟩ := List.any_eq_true.1 ha
    obtain ⟨i, hi, rfl⟩ := List.mem_iff_getElem.1 hx
    rw [h i hi] at hR; cases hR
set_option maxHeartbeats 4000000 in
set_option maxRecDepth 10000 in
theorem containsFunc_a (b : Bool) (l : List ByteArray) (f : FuncId) (R : ByteArray → Bool) (hl : l.length ≤ 1000000)
    (hf : ∀ i (hi : i < l.length), ACalls Tryd.prog f [.imm (.lit (.string l[i]))] [] (.imm (.lit (.bool (R l[i])))) []) :
    ACalls Tryd.prog 37 [.imm (.sl b l.length (strs l)), .imm (.func f [] [])] [] (.imm (.lit (.bool (l.any R)))) [] := by
  obtain ⟨r, hr, c⟩ := indexFunc_a b l f R hl hf
  generalize l.any R = q at hr
  refine acalls_plain Tryd.func37 rfl rfl (Nat.le_of_ble_eq_true rfl) rfl ?_
  repeat' (first | refine aops_nil ?_ | (refine aops_one ?_; first | refine aops_quiet tabOk rfl rfl rfl (Nat.le_of_ble_eq_true rfl) rfl ?_ | refine aops_skip rfl rfl (Nat.le_of_ble_eq_true rfl) ?_ | (refine aops_cmp rfl rfl rfl (Nat.le_of_ble_eq_true rfl) rfl rfl rfl (fun hq => ?_) (fun hq => ?_) <;> (first | (simp only [decide_eq_true_eq, decide_eq_false_iff_not, beq_iff_eq, beq_eq_false_iff_ne, bne_iff_ne, bne_eq_false_iff_eq, Bool.not_eq_true', Bool.not_eq_false'] at hq; first | (exfalso; omega) | skip) | skip))| refine aops_call rfl rfl (Nat.le_of_ble_eq_true rfl) rfl rfl rfl rfl (c) ?_ | refine aops_inc rfl rfl rfl (Nat.le_of_ble_eq_true rfl) rfl rfl (by omega) ?_ | refine aops_add rfl rfl rfl (Nat.le_of_ble_eq_true rfl) rfl rfl rfl (by omega) (by omega) ?_ | refine aops_sub rfl rfl rfl (Nat.le_of_ble_eq_true rfl) rfl rfl rfl (by omega) (by omega) ?_ | refine aops_list tabOk rfl rfl rfl (Nat.le_of_ble_eq_true rfl) rfl rfl rfl rfl rfl rfl rfl rfl rfl ?_ | refine aops_pure tabOk rfl rfl (Nat.le_of_ble_eq_true rfl) rfl ?_ | refine aops_alloc tabOk rfl rfl rfl (Nat.le_of_ble_eq_true rfl) rfl rfl rfl rfl rfl rfl ?_ | refine aops_loadm tabOk rfl rfl rfl (Nat.le_of_ble_eq_true rfl) rfl rfl rfl rfl ?_ | refine aops_storem tabOk rfl rfl rfl rfl rfl rfl rfl rfl rfl rfl rfl ?_ | refine aops_index tabOk rfl rfl rfl (Nat.le_of_ble_eq_true rfl) rfl rfl rfl rfl (by first | assumption | omega) ?_ | refine aops_index0 tabOk rfl rfl rfl (Nat.le_of_ble_eq_true rfl) rfl rfl rfl rfl (by first | rfl | omega) (by first | omega | simp) ?_ | refine aops_load1 tabOk rfl rfl rfl (Nat.le_of_ble_eq_true rfl) rfl rfl rfl (by assumption) ?_ | refine aops_load1 tabOk rfl rfl rfl (Nat.le_of_ble_eq_true rfl) rfl rfl rfl (ivs_get _ _ (by first | assumption | omega)) ?_ | refine aops_inc rfl rfl rfl (Nat.le_of_ble_eq_true rfl) rfl rfl (by omega) ?_ | ((fail_if_success (refine aops_lit (b := true) rfl rfl rfl ?_)); (fail_if_success (refine aops_lit (b := false) rfl rfl rfl ?_)); refine aops_guard rfl rfl rfl (fun hq => ?_) (fun hq => ?_) <;> first | subst hq | (first | (simp only [decide_eq_true_eq, decide_eq_false_iff_not, beq_iff_eq, beq_eq_false_iff_ne, bne_iff_ne, bne_eq_false_iff_eq, Bool.not_eq_true', Bool.not_eq_false'] at hq; first | (exfalso; omega) | skip) | skip)) | fail) | (refine awp_one ?_; first | refine awp_sreg ?_ | refine awp_seq ?_ | refine awp_region ?_ | refine awp_block ?_ | refine awp_ret ?_ | refine awp_exit ?_ | refine awp_skip ?_ | refine awp_cond (b := true) rfl (fun _ => ?_) (fun h => Bool.noConfusion h) | refine awp_cond (b := false) rfl (fun h => Bool.noConfusion h) (fun _ => ?_) | refine awp_scope ?_ | refine awp_label ?_ | refine awp_sdraw mixed (by kernel_rfl) ?_ | refine awp_region_draw mixed (by kernel_rfl) ?_ | (refine awp_cond rfl (fun hq => ?_) (fun hq => ?_) <;> first | subst hq | (first | (simp only [decide_eq_true_eq, decide_eq_false_iff_not, beq_iff_eq, beq_eq_false_iff_ne, bne_iff_ne, bne_eq_false_iff_eq, Bool.not_eq_true', Bool.not_eq_false'] at hq; first | (exfalso; omega) | skip) | skip)) | fail) | (refine then_one ?_; first | refine q_then ?_ | refine q_then_exit ?_ | refine q_then_ret ?_ | fail) | (refine block_one ?_; first | refine q_block ?_ | refine q_block_exit ?_ | refine q_block_pass (by decide) ?_ | refine q_block_ret ?_ | fail) | refine feet_one (feetOk_of (by kernel_rfl)) ?_ | fail)
  all_goals (refine aexit_eq (by first | exact .inl rfl | exact .inr rfl) (results_1 rfl (resOk_tmp rfl)) rfl ?_; refine bool_eq ?_; cases q <;> first | rfl | (exfalso; simp at hr; omega))
theorem all_not_any (l : List ByteArray) (R : ByteArray → Bool) : (l.any fun x => !R x) = !(l.all R) := by
  induction l with
  | nil => rfl
  | cons x l ih => simp [ih, Bool.not_and]
theorem piece_size (s : ByteArray) : ∀ p ∈ pcsB s, p.size ≤ s.size := by
  have key : ∀ (l : List UInt8), ∀ p ∈ pcs l, p.length ≤ l.length := by
    intro l
    induction l with
    | nil => intro p hp; simp [pcs] at hp; simp [hp]
    | cons b t ih =>
      intro p hp
      rw [pcs] at hp
      split at hp
      · rcases List.mem_cons.1 hp with rfl | hp
        · simp
        · have := ih p hp; simp; omega
      · cases hq : pcs t with
        | nil => exact absurd hq (pcs_ne t)
        | cons x r =>
          rw [hq] at hp ih
          simp only [consHead] at hp
          rcases List.mem_cons.1 hp with rfl | hp
          · have := ih x List.mem_cons_self; simp; omega
          · have := ih p (List.mem_cons_of_mem _ hp); simp; omega
  intro p hp
  unfold pcsB at hp
  obtain ⟨q, hq, rfl⟩ := List.mem_map.1 hp
  rw [mkB_size, ← ba_size s]
  exact key _ q hq
set_option maxHeartbeats 4000000 in
set_option maxRecDepth 10000 in
theorem nLong_a (s : ByteArray) (hs : s.size ≤ 100000) : ACalls Tryd.prog 15 [.imm (.lit (.string s))] [] (.imm (.lit (.bool (longP s)))) [] := by
  have hl := pcsB_len s
  have c1 := split_a s (by omega)
  have c2 := containsFunc_a false (pcsB s) 35 (fun x => !nameB x) (by omega) (fun i hi => nBad_a _ (Nat.le_trans (piece_size s _ (List.getElem_mem hi)) (by omega)))
  rw [all_not_any] at c2
  unfold longP
  generalize (pcsB s).all nameB = q at c2
  refine acalls_plain Tryd.func15 rfl rfl (Nat.le_of_ble_eq_true rfl) rfl ?_
  repeat' (first | refine aops_nil ?_ | (refine aops_one ?_; first | refine aops_quiet tabOk rfl rfl rfl (Nat.le_of_ble_eq_true rfl) rfl ?_ | refine aops_skip rfl rfl (Nat.le_of_ble_eq_true rfl) ?_ | (refine aops_cmp rfl rfl rfl (Nat.le_of_ble_eq_true rfl) rfl rfl rfl (fun hq => ?_) (fun hq => ?_) <;> (first | (simp only [decide_eq_true_eq, decide_eq_false_iff_not, beq_iff_eq, beq_eq_false_iff_ne, bne_iff_ne, bne_eq_false_iff_eq, Bool.not_eq_true', Bool.not_eq_false'] at hq; first | (exfalso; omega) | skip) | skip))| refine aops_call rfl rfl (Nat.le_of_ble_eq_true rfl) rfl rfl rfl rfl (c1) ?_ | (refine aops_callq rfl rfl rfl (Nat.le_of_ble_eq_true rfl) rfl rfl rfl (c2) (fun hq => ?_) (fun hq => ?_)) | refine aops_inc rfl rfl rfl (Nat.le_of_ble_eq_true rfl) rfl rfl (by omega) ?_ | refine aops_add rfl rfl rfl (Nat.le_of_ble_eq_true rfl) rfl rfl rfl (by omega) (by omega) ?_ | refine aops_sub rfl rfl rfl (Nat.le_of_ble_eq_true rfl) rfl rfl rfl (by omega) (by omega) ?_ | refine aops_list tabOk rfl rfl rfl (Nat.le_of_ble_eq_true rfl) rfl rfl rfl rfl rfl rfl rfl rfl rfl ?_ | refine aops_pure tabOk rfl rfl (Nat.le_of_ble_eq_true rfl) rfl ?_ | refine aops_alloc tabOk rfl rfl rfl (Nat.le_of_ble_eq_true rfl) rfl rfl rfl rfl rfl rfl ?_ | refine aops_loadm tabOk rfl rfl rfl (Nat.le_of_ble_eq_true rfl) rfl rfl rfl rfl ?_ | refine aops_storem tabOk rfl rfl rfl rfl rfl rfl rfl rfl rfl rfl rfl ?_ | refine aops_index tabOk rfl rfl rfl (Nat.le_of_ble_eq_true rfl) rfl rfl rfl rfl (by first | assumption | omega) ?_ | refine aops_index0 tabOk rfl rfl rfl (Nat.le_of_ble_eq_true rfl) rfl rfl rfl rfl (by first | rfl | omega) (by first | omega | simp) ?_ | refine aops_load1 tabOk rfl rfl rfl (Nat.le_of_ble_eq_true rfl) rfl rfl rfl (by assumption) ?_ | refine aops_load1 tabOk rfl rfl rfl (Nat.le_of_ble_eq_true rfl) rfl rfl rfl (ivs_get _ _ (by first | assumption | omega)) ?_ | refine aops_inc rfl rfl rfl (Nat.le_of_ble_eq_true rfl) rfl rfl (by omega) ?_ | ((fail_if_success (refine aops_lit (b := true) rfl rfl rfl ?_)); (fail_if_success (refine aops_lit (b := false) rfl rfl rfl ?_)); refine aops_guard rfl rfl rfl (fun hq => ?_) (fun hq => ?_) <;> first | subst hq | (first | (simp only [decide_eq_true_eq, decide_eq_false_iff_not, beq_iff_eq, beq_eq_false_iff_ne, bne_iff_ne, bne_eq_false_iff_eq, Bool.not_eq_true', Bool.not_eq_false'] at hq; first | (exfalso; omega) | skip) | skip)) | fail) | (refine awp_one ?_; first | refine awp_sreg ?_ | refine awp_seq ?_ | refine awp_region ?_ | refine awp_block ?_ | refine awp_ret ?_ | refine awp_exit ?_ | refine awp_skip ?_ | refine awp_cond (b := true) rfl (fun _ => ?_) (fun h => Bool.noConfusion h) | refine awp_cond (b := false) rfl (fun h => Bool.noConfusion h) (fun _ => ?_) | refine awp_scope ?_ | refine awp_label ?_ | refine awp_sdraw mixed (by kernel_rfl) ?_ | refine awp_region_draw mixed (by kernel_rfl) ?_ | (refine awp_cond rfl (fun hq => ?_) (fun hq => ?_) <;> first | subst hq | (first | (simp only [decide_eq_true_eq, decide_eq_false_iff_not, beq_iff_eq, beq_eq_false_iff_ne, bne_iff_ne, bne_eq_false_iff_eq, Bool.not_eq_true', Bool.not_eq_false'] at hq; first | (exfalso; omega) | skip) | skip)) | fail) | (refine then_one ?_; first | refine q_then ?_ | refine q_then_exit ?_ | refine q_then_ret ?_ | fail) | (refine block_one ?_; first | refine q_block ?_ | refine q_block_exit ?_ | refine q_block_pass (by decide) ?_ | refine q_block_ret ?_ | fail) | refine feet_one (feetOk_of (by kernel_rfl)) ?_ | fail)
  all_goals (refine aexit_eq (by first | exact .inl rfl | exact .inr rfl) (results_1 rfl (resOk_tmp rfl)) rfl ?_; refine bool_eq ?_; cases q <;> simp_all <;> omega)
set_option maxHeartbeats 4000000 in
set_option maxRecDepth 10000 in
theorem nSplit_a (s : ByteArray) (hs : s.size ≤ 100000) : ACalls Tryd.prog 16 [.imm (.lit (.string s))] [] (.imm (.sl false (splitP s).length (strs (splitP s)))) [] := by
  have c1 := nLong_a s hs
  have c2 := split_a s (by omega)
  unfold splitP
  cases h : longP s with
  | true =>
    rw [h] at c1
    rw [if_pos rfl]
    refine acalls_plain Tryd.func16 rfl rfl (Nat.le_of_ble_eq_true rfl) rfl ?_
    repeat' (first | refine aops_nil ?_ | (refine aops_one ?_; first | refine aops_quiet tabOk rfl rfl rfl (Nat.le_of_ble_eq_true rfl) rfl ?_ | refine aops_skip rfl rfl (Nat.le_of_ble_eq_true rfl) ?_ | (refine aops_cmp rfl rfl rfl (Nat.le_of_ble_eq_true rfl) rfl rfl rfl (fun hq => ?_) (fun hq => ?_) <;> (first | (simp only [decide_eq_true_eq, decide_eq_false_iff_not, beq_iff_eq, beq_eq_false_iff_ne, bne_iff_ne, bne_eq_false_iff_eq, Bool.not_eq_true', Bool.not_eq_false'] at hq; first | (exfalso; omega) | skip) | skip))| refine aops_call rfl rfl (Nat.le_of_ble_eq_true rfl) rfl rfl rfl rfl (c1) ?_ | refine aops_call rfl rfl (Nat.le_of_ble_eq_true rfl) rfl rfl rfl rfl (c2) ?_ | refine aops_inc rfl rfl rfl (Nat.le_of_ble_eq_true rfl) rfl rfl (by omega) ?_ | refine aops_add rfl rfl rfl (Nat.le_of_ble_eq_true rfl) rfl rfl rfl (by omega) (by omega) ?_ | refine aops_sub rfl rfl rfl (Nat.le_of_ble_eq_true rfl) rfl rfl rfl (by omega) (by omega) ?_ | refine aops_list tabOk rfl rfl rfl (Nat.le_of_ble_eq_true rfl) rfl rfl rfl rfl rfl rfl rfl rfl rfl ?_ | refine aops_pure tabOk rfl rfl (Nat.le_of_ble_eq_true rfl) rfl ?_ | refine aops_alloc tabOk rfl rfl rfl (Nat.le_of_ble_eq_true rfl) rfl rfl rfl rfl rfl rfl ?_ | refine aops_loadm tabOk rfl rfl rfl (Nat.le_of_ble_eq_true rfl) rfl rfl rfl rfl ?_ | refine aops_storem tabOk rfl rfl rfl rfl rfl rfl rfl rfl rfl rfl rfl ?_ | refine aops_index tabOk rfl rfl rfl (Nat.le_of_ble_eq_true rfl) rfl rfl rfl rfl (by first | assumption | omega) ?_ | refine aops_index0 tabOk rfl rfl rfl (Nat.le_of_ble_eq_true rfl) rfl rfl rfl rfl (by first | rfl | omega) (by first | omega | simp) ?_ | refine aops_load1 tabOk rfl rfl rfl (Nat.le_of_ble_eq_true rfl) rfl rfl rfl (by assumption) ?_ | refine aops_load1 tabOk rfl rfl rfl (Nat.le_of_ble_eq_true rfl) rfl rfl rfl (ivs_get _ _ (by first | assumption | omega)) ?_ | refine aops_inc rfl rfl rfl (Nat.le_of_ble_eq_true rfl) rfl rfl (by omega) ?_ | ((fail_if_success (refine aops_lit (b := true) rfl rfl rfl ?_)); (fail_if_success (refine aops_lit (b := false) rfl rfl rfl ?_)); refine aops_guard rfl rfl rfl (fun hq => ?_) (fun hq => ?_) <;> first | subst hq | (first | (simp only [decide_eq_true_eq, decide_eq_false_iff_not, beq_iff_eq, beq_eq_false_iff_ne, bne_iff_ne, bne_eq_false_iff_eq, Bool.not_eq_true', Bool.not_eq_false'] at hq; first | (exfalso; omega) | skip) | skip)) | fail) | (refine awp_one ?_; first | refine awp_sreg ?_ | refine awp_seq ?_ | refine awp_region ?_ | refine awp_block ?_ | refine awp_ret ?_ | refine awp_exit ?_ | refine awp_skip ?_ | refine awp_cond (b := true) rfl (fun _ => ?_) (fun h => Bool.noConfusion h) | refine awp_cond (b := false) rfl (fun h => Bool.noConfusion h) (fun _ => ?_) | refine awp_scope ?_ | refine awp_label ?_ | refine awp_sdraw mixed (by kernel_rfl) ?_ | refine awp_region_draw mixed (by kernel_rfl) ?_ | (refine awp_cond rfl (fun hq => ?_) (fun hq => ?_) <;> first | subst hq | (first | (simp only [decide_eq_true_eq, decide_eq_false_iff_not, beq_iff_eq, beq_eq_false_iff_ne, bne_iff_ne, bne_eq_false_iff_eq, Bool.not_eq_true', Bool.not_eq_false'] at hq; first | (exfalso; omega) | skip) | skip)) | fail) | (refine then_one ?_; first | refine q_then ?_ | refine q_then_exit ?_ | refine q_then_ret ?_ | fail) | (refine block_one ?_; first | refine q_block ?_ | refine q_block_exit ?_ | refine q_block_pass (by decide) ?_ | refine q_block_ret ?_ | fail) | refine feet_one (feetOk_of (by kernel_rfl)) ?_ | fail)
    all_goals (refine aexit_eq (by first | exact .inl rfl | exact .inr rfl) (results_1 rfl (resOk_tmp rfl)) rfl ?_; rfl)
  | false =>
    rw [h] at c1
    rw [if_neg (by simp)]
    refine acalls_plain Tryd.func16 rfl rfl (Nat.le_of_ble_eq_true rfl) rfl ?_
    repeat' (first | refine aops_nil ?_ | (refine aops_one ?_; first | refine aops_quiet tabOk rfl rfl rfl (Nat.le_of_ble_eq_true rfl) rfl ?_ | refine aops_skip rfl rfl (Nat.le_of_ble_eq_true rfl) ?_ | (refine aops_cmp rfl rfl rfl (Nat.le_of_ble_eq_true rfl) rfl rfl rfl (fun hq => ?_) (fun hq => ?_) <;> (first | (simp only [decide_eq_true_eq, decide_eq_false_iff_not, beq_iff_eq, beq_eq_false_iff_ne, bne_iff_ne, bne_eq_false_iff_eq, Bool.not_eq_true', Bool.not_eq_false'] at hq; first | (exfalso; omega) | skip) | skip))| refine aops_call rfl rfl (Nat.le_of_ble_eq_true rfl) rfl rfl rfl rfl (c1) ?_ | refine aops_call rfl rfl (Nat.le_of_ble_eq_true rfl) rfl rfl rfl rfl (c2) ?_ | refine aops_inc rfl rfl rfl (Nat.le_of_ble_eq_true rfl) rfl rfl (by omega) ?_ | refine aops_add rfl rfl rfl (Nat.le_of_ble_eq_true rfl) rfl rfl rfl (by omega) (by omega) ?_ | refine aops_sub rfl rfl rfl (Nat.le_of_ble_eq_true rfl) rfl rfl rfl (by omega) (by omega) ?_ | refine aops_list tabOk rfl rfl rfl (Nat.le_of_ble_eq_true rfl) rfl rfl rfl rfl rfl rfl rfl rfl rfl ?_ | refine aops_pure tabOk rfl rfl (Nat.le_of_ble_eq_true rfl) rfl ?_ | refine aops_alloc tabOk rfl rfl rfl (Nat.le_of_ble_eq_true rfl) rfl rfl rfl rfl rfl rfl ?_ | refine aops_loadm tabOk rfl rfl rfl (Nat.le_of_ble_eq_true rfl) rfl rfl rfl rfl ?_ | refine aops_storem tabOk rfl rfl rfl rfl rfl rfl rfl rfl rfl rfl rfl ?_ | refine aops_index tabOk rfl rfl rfl (Nat.le_of_ble_eq_true rfl) rfl rfl rfl rfl (by first | assumption | omega) ?_ | refine aops_index0 tabOk rfl rfl rfl (Nat.le_of_ble_eq_true rfl) rfl rfl rfl rfl (by first | rfl | omega) (by first | omega | simp) ?_ | refine aops_load1 tabOk rfl rfl rfl (Nat.le_of_ble_eq_true rfl) rfl rfl rfl (by assumption) ?_ | refine aops_load1 tabOk rfl rfl rfl (Nat.le_of_ble_eq_true rfl) rfl rfl rfl (ivs_get _ _ (by first | assumption | omega)) ?_ | refine aops_inc rfl rfl rfl (Nat.le_of_ble_eq_true rfl) rfl rfl (by omega) ?_ | ((fail_if_success (refine aops_lit (b := true) rfl rfl rfl ?_)); (fail_if_success (refine aops_lit (b := false) rfl rfl rfl ?_)); refine aops_guard rfl rfl rfl (fun hq => ?_) (fun hq => ?_) <;> first | subst hq | (first | (simp only [decide_eq_true_eq, decide_eq_false_iff_not, beq_iff_eq, beq_eq_false_iff_ne, bne_iff_ne, bne_eq_false_iff_eq, Bool.not_eq_true', Bool.not_eq_false'] at hq; first | (exfalso; omega) | skip) | skip)) | fail) | (refine awp_one ?_; first | refine awp_sreg ?_ | refine awp_seq ?_ | refine awp_region ?_ | refine awp_block ?_ | refine awp_ret ?_ | refine awp_exit ?_ | refine awp_skip ?_ | refine awp_cond (b := true) rfl (fun _ => ?_) (fun h => Bool.noConfusion h) | refine awp_cond (b := false) rfl (fun h => Bool.noConfusion h) (fun _ => ?_) | refine awp_scope ?_ | refine awp_label ?_ | refine awp_sdraw mixed (by kernel_rfl) ?_ | refine awp_region_draw mixed (by kernel_rfl) ?_ | (refine awp_cond rfl (fun hq => ?_) (fun hq => ?_) <;> first | subst hq | (first | (simp only [decide_eq_true_eq, decide_eq_false_iff_not, beq_iff_eq, beq_eq_false_iff_ne, bne_iff_ne, bne_eq_false_iff_eq, Bool.not_eq_true', Bool.not_eq_false'] at hq; first | (exfalso; omega) | skip) | skip)) | fail) | (refine then_one ?_; first | refine q_then ?_ | refine q_then_exit ?_ | refine q_then_ret ?_ | fail) | (refine block_one ?_; first | refine q_block ?_ | refine q_block_exit ?_ | refine q_block_pass (by decide) ?_ | refine q_block_ret ?_ | fail) | refine feet_one (feetOk_of (by kernel_rfl)) ?_ | fail)
    all_goals (refine aexit_eq (by first | exact .inl rfl | exact .inr rfl) (results_1 rfl (resOk_nz (resOk_tmp rfl))) rfl ?_; rfl)
end Go.Proofs.YtlbemgokilhdnaaDoor.Ab
namespace Go.Proofs.YtlbemgokilhdnaaDoor.Ab
set_option linter.unusedVariables false
set_option linter.unusedSimpArgs false
open Go.RowKit Go.Proofs.YtlbemgokilhdnaaDoor.RP
attribute [local irreducible] AWP AOps AExit AThen ABlock ANoGoto FeetOk
theorem ba_size_append (a b : ByteArray) : (a ++ b).size = a.size + b.size := by rw [← ba_size, ByteArray.data_append, Array.toList_append, List.length_append, ba_size, ba_size]
theorem split_fine (s : ByteArray) : (splitP s).length ≤ s.size + 1 ∧ ∀ p ∈ splitP s, p.size ≤ s.size := by
  unfold splitP
  split
  · exact ⟨pcsB_len s, piece_size s⟩
  · exact ⟨by simp, by simp⟩
/-- The label that is asked for: the last name's of a space, the others' of modules. -/
def labS (space : ByteArray) (last : Bool) (s : ByteArray) : ByteArray := if last then (space ++ ⟨#[58]⟩) ++ s else ⟨#[109, 58]⟩ ++ s
def atS (space : ByteArray) : List ByteArray → Tree → Tree × Int
  | [], t => (t, 0)
  | s :: ss, t => if (fieldP (labS space ss.isEmpty s) t.kids).2 = true then atS space ss (fieldP (labS space ss.isEmpty s) t.kids).1 else (.nil, 8)
def spOk (space : ByteArray) : Bool := eqB space ⟨#[118]⟩ || eqB space ⟨#[116]⟩ || eqB space ⟨#[109]⟩
def sAtP (t : Tree) (space long : ByteArray) : Tree × Int :=
  if checkP sformP t ≠ 0 then (.nil, checkP sformP t) else if (isSigP t && spOk space) = false then (.nil, 16) else if longP long = false then (.nil, 2) else atS space (splitP long) t
theorem labS_t (space s : ByteArray) : labS space true s = (space ++ ⟨#[58]⟩) ++ s := by unfold labS; rw [if_pos rfl]
theorem labS_f (space s : ByteArray) : labS space false s = ⟨#[109, 58]⟩ ++ s := by unfold labS; rw [if_neg (by simp)]
theorem empty_drop (l : List ByteArray) (j : Nat) (h : j < l.length) : (l.drop (j + 1)).isEmpty = decide (j + 1 = l.length) := by
  by_cases e : j + 1 = l.length
  · rw [decide_eq_true e, e, List.drop_length]; rfl
  · rw [decide_eq_false e, List.isEmpty_eq_false_iff]
    intro h0
    have := congrArg List.length h0
    rw [List.length_drop, List.length_nil] at this
    omega
set_option maxHeartbeats 4000000 in
set_option maxRecDepth 10000 in
theorem isLabAt_a (t : Tree) (label : ByteArray) (hw : t.whole = true) : ACalls Tryd.prog 18 [.imm t.iv, .obj 1001 0] [(1001, .cells [.imm (.lit (.string label))])] (.imm (.lit (.bool (isLab label t)))) [(1001, .cells [.imm (.lit (.string label))])] := by
  obtain ⟨k, n, a, b, kids, rfl⟩ := whole_node hw
  have e : isLab label (.node k n a b kids) = (decide (k = 163) && eqB a label) := rfl
  rw [e]
  refine acalls_foot [1001] Tryd.func18 rfl rfl (Nat.le_of_ble_eq_true rfl) rfl rfl ?_
  repeat' (first | refine aops_nil ?_ | (refine aops_one ?_;  first | refine aops_quiet tabOk rfl rfl rfl (Nat.le_of_ble_eq_true rfl) rfl ?_ | refine aops_skip rfl rfl (Nat.le_of_ble_eq_true rfl) ?_ | (refine aops_cmp rfl rfl rfl (Nat.le_of_ble_eq_true rfl) rfl rfl rfl (fun hq => ?_) (fun hq => ?_) <;> (first | (simp only [decide_eq_true_eq, decide_eq_false_iff_not, beq_iff_eq, beq_eq_false_iff_ne, bne_iff_ne, bne_eq_false_iff_eq, Bool.not_eq_true', Bool.not_eq_false'] at hq; first | (exfalso; omega) | skip) | skip)) | refine aops_loadm tabOk rfl rfl rfl (Nat.le_of_ble_eq_true rfl) rfl rfl rfl rfl ?_) | (refine awp_one ?_;  first | refine awp_sreg ?_ | refine awp_seq ?_ | refine awp_ret ?_ | refine awp_region_draw mixed (by kernel_rfl) ?_) | (refine then_one ?_;  first | refine q_then ?_) | refine feet_one (feetOk_of (by kernel_rfl)) ?_)
  all_goals (refine gexit_same (aexit_foot (by first | exact .inl rfl | exact .inr rfl) (results_1 rfl (resOk_tmp rfl)) rfl (by repeat' first | exact trivial | refine ⟨rfl, ?_⟩) rfl ?_); refine bool_eq ?_; simp_all [eqB])
set_option maxHeartbeats 16000000 in
set_option maxRecDepth 10000 in
theorem At_a (t : Tree) (space long : ByteArray) (hs : t.size ≤ 100000) (hp : space.size ≤ 100000) (hl : long.size ≤ 100000) : ACalls Tryd.prog 6 [.imm t.iv, .imm (.lit (.string space)), .imm (.lit (.string long))] [] (.imm (.tup [(sAtP t space long).1.iv, .lit (.int .i64 (sAtP t space long).2)])) [] := by
  have c1 := sCheck_any t (by omega)
  obtain ⟨Q, hQ⟩ : ∃ Q, sAtP t space long = Q := ⟨_, rfl⟩
  rw [hQ]
  unfold sAtP at hQ
  by_cases hc : checkP sformP t = 0
  · rw [if_neg (by simpa using hc)] at hQ
    rw [hc] at c1
    obtain ⟨hw, hz, _⟩ := checkP_whole hc
    have c2 := isSig_any t hw (by omega)
    cases hsig : isSigP t with
    | false =>
      rw [hsig] at c2 hQ
      rw [Bool.false_and, if_pos rfl] at hQ
      subst hQ
      refine acalls_plain Tryd.func6 rfl rfl (Nat.le_of_ble_eq_true rfl) rfl ?_
      repeat' (first | refine aops_nil ?_ | (refine aops_one ?_;  first | refine aops_quiet tabOk rfl rfl rfl (Nat.le_of_ble_eq_true rfl) rfl ?_ | refine aops_skip rfl rfl (Nat.le_of_ble_eq_true rfl) ?_ | (refine aops_cmp rfl rfl rfl (Nat.le_of_ble_eq_true rfl) rfl rfl rfl (fun hq => ?_) (fun hq => ?_) <;> (first | (simp only [decide_eq_true_eq, decide_eq_false_iff_not, beq_iff_eq, beq_eq_false_iff_ne, bne_iff_ne, bne_eq_false_iff_eq, Bool.not_eq_true', Bool.not_eq_false'] at hq; first | (exfalso; omega) | skip) | skip)) | refine aops_call rfl rfl (Nat.le_of_ble_eq_true rfl) rfl rfl rfl rfl (c1) ?_ | refine aops_call rfl rfl (Nat.le_of_ble_eq_true rfl) rfl rfl rfl rfl (c2) ?_) | (refine awp_one ?_;  first | refine awp_sreg ?_ | refine awp_seq ?_ | refine awp_block ?_ | refine awp_ret ?_ | refine awp_skip ?_ | refine awp_cond (b := true) rfl (fun _ => ?_) (fun h => Bool.noConfusion h) | refine awp_cond (b := false) rfl (fun h => Bool.noConfusion h) (fun _ => ?_)) | (refine then_one ?_;  first | refine q_then ?_ | refine q_then_ret ?_) | (refine block_one ?_;  first | refine q_block_ret ?_))
      all_goals first
        | exact absurd rfl (by assumption)
        | (refine aexit_eq (by first | exact .inl rfl | exact .inr rfl) (results_2 rfl (resOk_tmp rfl) (resOk_tmp rfl)) rfl ?_; rfl)
    | true =>
      rw [hsig] at c2 hQ
      rw [Bool.true_and] at hQ
      cases hsp : spOk space with
      | false =>
        rw [hsp] at hQ
        rw [if_pos rfl] at hQ
        subst hQ
        unfold spOk at hsp
        refine acalls_plain Tryd.func6 rfl rfl (Nat.le_of_ble_eq_true rfl) rfl ?_
        repeat' (first | refine aops_nil ?_ | (refine aops_one ?_;  first | refine aops_quiet tabOk rfl rfl rfl (Nat.le_of_ble_eq_true rfl) rfl ?_ | refine aops_skip rfl rfl (Nat.le_of_ble_eq_true rfl) ?_ | (refine aops_cmp rfl rfl rfl (Nat.le_of_ble_eq_true rfl) rfl rfl rfl (fun hq => ?_) (fun hq => ?_) <;> (first | (simp only [decide_eq_true_eq, decide_eq_false_iff_not, beq_iff_eq, beq_eq_false_iff_ne, bne_iff_ne, bne_eq_false_iff_eq, Bool.not_eq_true', Bool.not_eq_false'] at hq; first | (exfalso; omega) | skip) | skip)) | refine aops_call rfl rfl (Nat.le_of_ble_eq_true rfl) rfl rfl rfl rfl (c1) ?_ | refine aops_call rfl rfl (Nat.le_of_ble_eq_true rfl) rfl rfl rfl rfl (c2) ?_) | (refine awp_one ?_;  first | refine awp_sreg ?_ | refine awp_seq ?_ | refine awp_block ?_ | refine awp_ret ?_ | refine awp_skip ?_ | refine awp_cond (b := true) rfl (fun _ => ?_) (fun h => Bool.noConfusion h) | refine awp_cond (b := false) rfl (fun h => Bool.noConfusion h) (fun _ => ?_)) | (refine then_one ?_;  first | refine q_then ?_ | refine q_then_ret ?_) | (refine block_one ?_;  first | refine q_block_ret ?_))
        all_goals first
          | exact absurd rfl (by assumption)
          | (refine aexit_eq (by first | exact .inl rfl | exact .inr rfl) (results_2 rfl (resOk_tmp rfl) (resOk_tmp rfl)) rfl ?_; rfl)
          | (exfalso; simp_all [eqB]; done)
      | true =>
        rw [hsp] at hQ
        rw [if_neg (by simp)] at hQ
        unfold spOk at hsp
        have c3 := nLong_a long hl
        have c4 := nSplit_a long hl
        obtain ⟨hsl, hsz⟩ := split_fine long
        cases hlg : longP long with
        | false =>
          rw [hlg] at c3 hQ
          rw [if_pos rfl] at hQ
          subst hQ
          clear c4
          refine acalls_plain Tryd.func6 rfl rfl (Nat.le_of_ble_eq_true rfl) rfl ?_
          repeat' (first | refine aops_nil ?_ | (refine aops_one ?_;  first | refine aops_quiet tabOk rfl rfl rfl (Nat.le_of_ble_eq_true rfl) rfl ?_ | refine aops_skip rfl rfl (Nat.le_of_ble_eq_true rfl) ?_ | (refine aops_cmp rfl rfl rfl (Nat.le_of_ble_eq_true rfl) rfl rfl rfl (fun hq => ?_) (fun hq => ?_) <;> (first | (simp only [decide_eq_true_eq, decide_eq_false_iff_not, beq_iff_eq, beq_eq_false_iff_ne, bne_iff_ne, bne_eq_false_iff_eq, Bool.not_eq_true', Bool.not_eq_false'] at hq; first | (exfalso; omega) | skip) | skip)) | refine aops_call rfl rfl (Nat.le_of_ble_eq_true rfl) rfl rfl rfl rfl (c1) ?_ | refine aops_call rfl rfl (Nat.le_of_ble_eq_true rfl) rfl rfl rfl rfl (c2) ?_ | refine aops_call rfl rfl (Nat.le_of_ble_eq_true rfl) rfl rfl rfl rfl (c3) ?_) | (refine awp_one ?_;  first | refine awp_sreg ?_ | refine awp_seq ?_ | refine awp_block ?_ | refine awp_ret ?_ | refine awp_skip ?_ | refine awp_cond (b := true) rfl (fun _ => ?_) (fun h => Bool.noConfusion h) | refine awp_cond (b := false) rfl (fun h => Bool.noConfusion h) (fun _ => ?_)) | (refine then_one ?_;  first | refine q_then ?_ | refine q_then_ret ?_) | (refine block_one ?_;  first | refine q_block_ret ?_))
          all_goals first
            | exact absurd rfl (by assumption)
            | (exfalso; simp_all [eqB]; done)
            | (refine aexit_eq (by first | exact .inl rfl | exact .inr rfl) (results_2 rfl (resOk_tmp rfl) (resOk_tmp rfl)) rfl ?_; rfl)
        | true =>
          rw [hlg] at c3 hQ
          rw [if_neg (by simp)] at hQ
          generalize splitP long = l at *
          refine acalls_plain Tryd.func6 rfl rfl (Nat.le_of_ble_eq_true rfl) rfl ?_
          repeat' (first | refine aops_nil ?_ | (refine aops_one ?_;  first | refine aops_quiet tabOk rfl rfl rfl (Nat.le_of_ble_eq_true rfl) rfl ?_ | refine aops_skip rfl rfl (Nat.le_of_ble_eq_true rfl) ?_ | (refine aops_cmp rfl rfl rfl (Nat.le_of_ble_eq_true rfl) rfl rfl rfl (fun hq => ?_) (fun hq => ?_) <;> (first | (simp only [decide_eq_true_eq, decide_eq_false_iff_not, beq_iff_eq, beq_eq_false_iff_ne, bne_iff_ne, bne_eq_false_iff_eq, Bool.not_eq_true', Bool.not_eq_false'] at hq; first | (exfalso; omega) | skip) | skip)) | refine aops_call rfl rfl (Nat.le_of_ble_eq_true rfl) rfl rfl rfl rfl (c1) ?_ | refine aops_call rfl rfl (Nat.le_of_ble_eq_true rfl) rfl rfl rfl rfl (c2) ?_ | refine aops_call rfl rfl (Nat.le_of_ble_eq_true rfl) rfl rfl rfl rfl (c3) ?_ | refine aops_call rfl rfl (Nat.le_of_ble_eq_true rfl) rfl rfl rfl rfl (c4) ?_ | refine aops_pure tabOk rfl rfl (Nat.le_of_ble_eq_true rfl) rfl ?_) | (refine awp_one ?_;  first | refine awp_sreg ?_ | refine awp_seq ?_ | refine awp_block ?_ | refine awp_ret ?_ | refine awp_skip ?_ | refine awp_cond (b := true) rfl (fun _ => ?_) (fun h => Bool.noConfusion h) | refine awp_cond (b := false) rfl (fun h => Bool.noConfusion h) (fun _ => ?_)) | (refine then_one ?_;  first | refine q_then ?_ | refine q_then_ret ?_) | (refine block_one ?_;  first | refine q_block ?_ | refine q_block_ret ?_))
          all_goals first
            | exact absurd rfl (by assumption)
            | (exfalso; simp_all [eqB]; done)
            | skip
          all_goals (
            clear hsp
            refine awp_loop (ι := {p : Nat × Tree // p.1 ≤ l.length ∧ isSigP p.2 = true ∧ p.2.whole = true ∧ p.2.size ≤ 100000 ∧ atS space (l.drop p.1) p.2 = Q}) (fun p => S.f ⟨[(43, .imm (.lit (.int .i64 (p.1.1 : Int)))), (42, .imm (.lit (.int .i64 (l.length : Int)))), (41, .imm (.sl false l.length (strs l))), (9, .imm (.sl false l.length (strs l))), (0, .imm p.1.2.iv), (1, .imm (.lit (.string space)))], []⟩) (fun p => l.length - p.1.1) ⟨(0, t), Nat.zero_le _, hsig, hw, hs, hQ⟩ (le_of (by repeat' first | exact trivial | refine ⟨rfl, ?_⟩) (by repeat' first | exact trivial | refine ⟨rfl, ?_⟩)) ?_
            rintro ⟨⟨j, u⟩, hj, us, uw, uz, hu⟩
            dsimp only at hj us uw uz hu ⊢
            clear c1 c2 c3 c4 hw hz hsig hs hc hQ hlg
            by_cases hlt : j < l.length
            · rw [List.drop_eq_getElem_cons hlt, atS, empty_drop l j hlt] at hu
              have hget := strs_get l j hlt
              have hsj := hsz _ (List.getElem_mem hlt)
              have s1 : (⟨#[109, 58]⟩ : ByteArray).size = 2 := rfl
              have s2 : (⟨#[58]⟩ : ByteArray).size = 1 := rfl
              have hf := fieldP_sig us uw (labS space (decide (j + 1 = l.length)) l[j])
              have hkf := sig_field_kids us
              generalize l[j] = s at *
              obtain ⟨k, n, a, b, kids, rfl⟩ := whole_node uw
              have hkl : kids.length < 1000000000 := by have := length_sizes kids uw; simp only [Tree.size] at uz; omega
              change ∀ t ∈ kids, _ at hkf
              have ekk : (Tree.node k n a b kids).kids = kids := rfl
              rw [ekk] at hu hf
              have ci := fun label => indexFunc1_a kids 18 (.lit (.string label)) (isLab label) hkl (fun j h => isLabAt_a _ label (wholes_mem uw (List.getElem_mem h)))
              by_cases hlast : j + 1 = l.length
              · rw [decide_eq_true hlast] at hu hf
                rw [labS_t] at hu hf
                replace ci := ci ((space ++ ⟨#[58]⟩) ++ s)
                rcases fieldP_find ((space ++ ⟨#[58]⟩) ++ s) kids 0 with ⟨h1, h2⟩ | ⟨i, h1, h2, h3, h4⟩
                · rw [h2] at hu
                  rw [if_neg (by simp)] at hu
                  subst hu
                  generalize findP (isLab ((space ++ ⟨#[58]⟩) ++ s)) kids 0 = Z at *
                  repeat' (first | refine aops_nil ?_ | (refine aops_one ?_;  first | refine aops_quiet tabOk rfl rfl rfl (Nat.le_of_ble_eq_true rfl) rfl ?_ | (refine aops_cmp rfl rfl rfl (Nat.le_of_ble_eq_true rfl) rfl rfl rfl (fun hq => ?_) (fun hq => ?_) <;> (first | (simp only [decide_eq_true_eq, decide_eq_false_iff_not, beq_iff_eq, beq_eq_false_iff_ne, bne_iff_ne, bne_eq_false_iff_eq, Bool.not_eq_true', Bool.not_eq_false'] at hq; first | (exfalso; omega) | skip) | skip)) | refine aops_load1 tabOk rfl rfl rfl (Nat.le_of_ble_eq_true rfl) rfl rfl rfl hget ?_ | refine aops_concat rfl rfl rfl (Nat.le_of_ble_eq_true rfl) rfl rfl (by first | omega | (simp only [ba_size_append]; omega)) ?_ | refine aops_allocg 1001 tabOk rfl rfl rfl (Nat.le_of_ble_eq_true rfl) rfl rfl rfl rfl rfl rfl ?_ | refine aops_callm rfl rfl (Nat.le_of_ble_eq_true rfl) rfl rfl rfl rfl ci (by repeat' first | exact trivial | refine ⟨rfl, ?_⟩) rfl (by show ([1001] : List Nat).Nodup; decide) ?_ | refine aops_sub rfl rfl rfl (Nat.le_of_ble_eq_true rfl) rfl rfl rfl (by omega) (by omega) ?_ | refine aops_pure tabOk rfl rfl (Nat.le_of_ble_eq_true rfl) rfl ?_ | refine aops_storem tabOk rfl rfl rfl rfl rfl rfl rfl rfl rfl rfl rfl ?_ | refine aops_index tabOk rfl rfl rfl (Nat.le_of_ble_eq_true rfl) rfl rfl rfl rfl (by first | assumption | omega) ?_) | (refine awp_one ?_;  first | refine awp_sreg ?_ | refine awp_seq ?_ | refine awp_region ?_ | refine awp_block ?_ | refine awp_ret ?_ | refine awp_skip ?_ | refine awp_cond (b := true) rfl (fun _ => ?_) (fun h => Bool.noConfusion h)) | (refine then_one ?_;  first | refine q_then ?_ | refine q_then_ret ?_) | (refine block_one ?_;  first | refine q_block_ret ?_))
                  all_goals first
                    | (exfalso; omega)
                    | (refine aexit_eq (by first | exact .inl rfl | exact .inr rfl) (results_2 rfl (resOk_tmp rfl) (resOk_tmp rfl)) rfl ?_; rfl)
                · rw [h3] at hu hf
                  rw [if_pos rfl] at hu
                  rw [h2, Nat.add_zero] at ci
                  obtain ⟨g1, g2, g3⟩ := hf rfl
                  dsimp only at hu g1 g2 g3
                  have hm := List.getElem_mem h1
                  unfold isLab at h4
                  rw [Bool.and_eq_true, decide_eq_true_eq] at h4
                  obtain ⟨n', a', b', c, e⟩ := hkf _ hm h4.1
                  have hget2 := ivs_get kids i h1
                  rw [e] at hget2 hu g1 g2 g3
                  dsimp only [kid0] at hu g1 g2 g3
                  clear h2 h3 h4 e hm hf hkf
                  repeat' (first | refine aops_nil ?_ | (refine aops_one ?_;  first | refine aops_quiet tabOk rfl rfl rfl (Nat.le_of_ble_eq_true rfl) rfl ?_ | (refine aops_cmp rfl rfl rfl (Nat.le_of_ble_eq_true rfl) rfl rfl rfl (fun hq => ?_) (fun hq => ?_) <;> (first | (simp only [decide_eq_true_eq, decide_eq_false_iff_not, beq_iff_eq, beq_eq_false_iff_ne, bne_iff_ne, bne_eq_false_iff_eq, Bool.not_eq_true', Bool.not_eq_false'] at hq; first | (exfalso; omega) | skip) | skip)) | refine aops_load1 tabOk rfl rfl rfl (Nat.le_of_ble_eq_true rfl) rfl rfl rfl hget ?_ | refine aops_concat rfl rfl rfl (Nat.le_of_ble_eq_true rfl) rfl rfl (by first | omega | (simp only [ba_size_append]; omega)) ?_ | refine aops_load1 tabOk rfl rfl rfl (Nat.le_of_ble_eq_true rfl) rfl rfl rfl hget2 ?_ | refine aops_allocg 1001 tabOk rfl rfl rfl (Nat.le_of_ble_eq_true rfl) rfl rfl rfl rfl rfl rfl ?_ | refine aops_callm rfl rfl (Nat.le_of_ble_eq_true rfl) rfl rfl rfl rfl ci (by repeat' first | exact trivial | refine ⟨rfl, ?_⟩) rfl (by show ([1001] : List Nat).Nodup; decide) ?_ | refine aops_inc rfl rfl rfl (Nat.le_of_ble_eq_true rfl) rfl rfl (by omega) ?_ | refine aops_sub rfl rfl rfl (Nat.le_of_ble_eq_true rfl) rfl rfl rfl (by omega) (by omega) ?_ | refine aops_pure tabOk rfl rfl (Nat.le_of_ble_eq_true rfl) rfl ?_ | refine aops_storem tabOk rfl rfl rfl rfl rfl rfl rfl rfl rfl rfl rfl ?_ | refine aops_index tabOk rfl rfl rfl (Nat.le_of_ble_eq_true rfl) rfl rfl rfl rfl (by first | assumption | omega) ?_ | refine aops_index0 tabOk rfl rfl rfl (Nat.le_of_ble_eq_true rfl) rfl rfl rfl rfl (by first | rfl | omega) (by first | omega | simp) ?_) | (refine awp_one ?_;  first | refine awp_sreg ?_ | refine awp_seq ?_ | refine awp_region ?_ | refine awp_block ?_ | refine awp_skip ?_ | refine awp_cond (b := true) rfl (fun _ => ?_) (fun h => Bool.noConfusion h) | refine awp_cond (b := false) rfl (fun h => Bool.noConfusion h) (fun _ => ?_)) | (refine then_one ?_;  first | refine q_then ?_) | (refine block_one ?_;  first | refine q_block ?_))
                  all_goals first
                    | (exfalso; omega)
                    | exact ⟨⟨(j + 1, c), hlt, g1, g2, Nat.le_trans (Nat.le_of_lt g3) uz, hu⟩, (by show l.length - (j + 1) < l.length - j; omega), (le_of (by repeat' first | exact trivial | refine ⟨rfl, ?_⟩) (by repeat' first | exact trivial | refine ⟨rfl, ?_⟩))⟩
              · rw [decide_eq_false hlast] at hu hf
                rw [labS_f] at hu hf
                replace ci := ci (⟨#[109, 58]⟩ ++ s)
                rcases fieldP_find (⟨#[109, 58]⟩ ++ s) kids 0 with ⟨h1, h2⟩ | ⟨i, h1, h2, h3, h4⟩
                · rw [h2] at hu
                  rw [if_neg (by simp)] at hu
                  subst hu
                  generalize findP (isLab (⟨#[109, 58]⟩ ++ s)) kids 0 = Z at *
                  repeat' (first | refine aops_nil ?_ | (refine aops_one ?_;  first | refine aops_quiet tabOk rfl rfl rfl (Nat.le_of_ble_eq_true rfl) rfl ?_ | (refine aops_cmp rfl rfl rfl (Nat.le_of_ble_eq_true rfl) rfl rfl rfl (fun hq => ?_) (fun hq => ?_) <;> (first | (simp only [decide_eq_true_eq, decide_eq_false_iff_not, beq_iff_eq, beq_eq_false_iff_ne, bne_iff_ne, bne_eq_false_iff_eq, Bool.not_eq_true', Bool.not_eq_false'] at hq; first | (exfalso; omega) | skip) | skip)) | refine aops_load1 tabOk rfl rfl rfl (Nat.le_of_ble_eq_true rfl) rfl rfl rfl hget ?_ | refine aops_concat rfl rfl rfl (Nat.le_of_ble_eq_true rfl) rfl rfl (by first | omega | (simp only [ba_size_append]; omega)) ?_ | refine aops_allocg 1001 tabOk rfl rfl rfl (Nat.le_of_ble_eq_true rfl) rfl rfl rfl rfl rfl rfl ?_ | refine aops_callm rfl rfl (Nat.le_of_ble_eq_true rfl) rfl rfl rfl rfl ci (by repeat' first | exact trivial | refine ⟨rfl, ?_⟩) rfl (by show ([1001] : List Nat).Nodup; decide) ?_ | refine aops_sub rfl rfl rfl (Nat.le_of_ble_eq_true rfl) rfl rfl rfl (by omega) (by omega) ?_ | refine aops_pure tabOk rfl rfl (Nat.le_of_ble_eq_true rfl) rfl ?_ | refine aops_storem tabOk rfl rfl rfl rfl rfl rfl rfl rfl rfl rfl rfl ?_ | refine aops_index tabOk rfl rfl rfl (Nat.le_of_ble_eq_true rfl) rfl rfl rfl rfl (by first | assumption | omega) ?_) | (refine awp_one ?_;  first | refine awp_sreg ?_ | refine awp_seq ?_ | refine awp_block ?_ | refine awp_ret ?_ | refine awp_skip ?_ | refine awp_cond (b := true) rfl (fun _ => ?_) (fun h => Bool.noConfusion h) | refine awp_cond (b := false) rfl (fun h => Bool.noConfusion h) (fun _ => ?_)) | (refine then_one ?_;  first | refine q_then ?_ | refine q_then_ret ?_) | (refine block_one ?_;  first | refine q_block_ret ?_))
                  all_goals first
                    | (exfalso; omega)
                    | (refine aexit_eq (by first | exact .inl rfl | exact .inr rfl) (results_2 rfl (resOk_tmp rfl) (resOk_tmp rfl)) rfl ?_; rfl)
                · rw [h3] at hu hf
                  rw [if_pos rfl] at hu
                  rw [h2, Nat.add_zero] at ci
                  obtain ⟨g1, g2, g3⟩ := hf rfl
                  dsimp only at hu g1 g2 g3
                  have hm := List.getElem_mem h1
                  unfold isLab at h4
                  rw [Bool.and_eq_true, decide_eq_true_eq] at h4
                  obtain ⟨n', a', b', c, e⟩ := hkf _ hm h4.1
                  have hget2 := ivs_get kids i h1
                  rw [e] at hget2 hu g1 g2 g3
                  dsimp only [kid0] at hu g1 g2 g3
                  clear h2 h3 h4 e hm hf hkf
                  repeat' (first | refine aops_nil ?_ | (refine aops_one ?_;  first | refine aops_quiet tabOk rfl rfl rfl (Nat.le_of_ble_eq_true rfl) rfl ?_ | (refine aops_cmp rfl rfl rfl (Nat.le_of_ble_eq_true rfl) rfl rfl rfl (fun hq => ?_) (fun hq => ?_) <;> (first | (simp only [decide_eq_true_eq, decide_eq_false_iff_not, beq_iff_eq, beq_eq_false_iff_ne, bne_iff_ne, bne_eq_false_iff_eq, Bool.not_eq_true', Bool.not_eq_false'] at hq; first | (exfalso; omega) | skip) | skip)) | refine aops_load1 tabOk rfl rfl rfl (Nat.le_of_ble_eq_true rfl) rfl rfl rfl hget ?_ | refine aops_concat rfl rfl rfl (Nat.le_of_ble_eq_true rfl) rfl rfl (by first | omega | (simp only [ba_size_append]; omega)) ?_ | refine aops_load1 tabOk rfl rfl rfl (Nat.le_of_ble_eq_true rfl) rfl rfl rfl hget2 ?_ | refine aops_allocg 1001 tabOk rfl rfl rfl (Nat.le_of_ble_eq_true rfl) rfl rfl rfl rfl rfl rfl ?_ | refine aops_callm rfl rfl (Nat.le_of_ble_eq_true rfl) rfl rfl rfl rfl ci (by repeat' first | exact trivial | refine ⟨rfl, ?_⟩) rfl (by show ([1001] : List Nat).Nodup; decide) ?_ | refine aops_inc rfl rfl rfl (Nat.le_of_ble_eq_true rfl) rfl rfl (by omega) ?_ | refine aops_sub rfl rfl rfl (Nat.le_of_ble_eq_true rfl) rfl rfl rfl (by omega) (by omega) ?_ | refine aops_pure tabOk rfl rfl (Nat.le_of_ble_eq_true rfl) rfl ?_ | refine aops_storem tabOk rfl rfl rfl rfl rfl rfl rfl rfl rfl rfl rfl ?_ | refine aops_index tabOk rfl rfl rfl (Nat.le_of_ble_eq_true rfl) rfl rfl rfl rfl (by first | assumption | omega) ?_ | refine aops_index0 tabOk rfl rfl rfl (Nat.le_of_ble_eq_true rfl) rfl rfl rfl rfl (by first | rfl | omega) (by first | omega | simp) ?_) | (refine awp_one ?_;  first | refine awp_sreg ?_ | refine awp_seq ?_ | refine awp_region ?_ | refine awp_block ?_ | refine awp_skip ?_ | refine awp_cond (b := true) rfl (fun _ => ?_) (fun h => Bool.noConfusion h) | refine awp_cond (b := false) rfl (fun h => Bool.noConfusion h) (fun _ => ?_)) | (refine then_one ?_;  first | refine q_then ?_) | (refine block_one ?_;  first | refine q_block ?_))
                  all_goals first
                    | (exfalso; omega)
                    | exact ⟨⟨(j + 1, c), hlt, g1, g2, Nat.le_trans (Nat.le_of_lt g3) uz, hu⟩, (by show l.length - (j + 1) < l.length - j; omega), (le_of (by repeat' first | exact trivial | refine ⟨rfl, ?_⟩) (by repeat' first | exact trivial | refine ⟨rfl, ?_⟩))⟩
            · have ej : j = l.length := by omega
              subst ej
              rw [List.drop_length, atS] at hu
              subst hu
              obtain ⟨pu, hpu⟩ := iv_ptr (whole_ne uw)
              dsimp only
              rw [hpu]
              repeat' (first | refine aops_nil ?_ | (refine aops_one ?_;  first | refine aops_quiet tabOk rfl rfl rfl (Nat.le_of_ble_eq_true rfl) rfl ?_ | (refine aops_cmp rfl rfl rfl (Nat.le_of_ble_eq_true rfl) rfl rfl rfl (fun hq => ?_) (fun hq => ?_) <;> (first | (simp only [decide_eq_true_eq, decide_eq_false_iff_not, beq_iff_eq, beq_eq_false_iff_ne, bne_iff_ne, bne_eq_false_iff_eq, Bool.not_eq_true', Bool.not_eq_false'] at hq; first | (exfalso; omega) | skip) | skip))) | (refine awp_one ?_;  first | refine awp_sreg ?_ | refine awp_seq ?_ | refine awp_ret ?_ | refine awp_exit ?_ | refine awp_cond (b := false) rfl (fun h => Bool.noConfusion h) (fun _ => ?_)) | (refine then_one ?_;  first | refine q_then ?_ | refine q_then_exit ?_) | (refine block_one ?_;  first | refine q_block_exit ?_))
              all_goals first
                | (exfalso; omega)
                | (refine aexit_eq (by first | exact .inl rfl | exact .inr rfl) (results_2 rfl (resOk_tmp rfl) (resOk_tmp rfl)) rfl ?_; rfl))
  · rw [if_pos hc] at hQ
    subst hQ
    generalize checkP sformP t = C at *
    refine acalls_plain Tryd.func6 rfl rfl (Nat.le_of_ble_eq_true rfl) rfl ?_
    repeat' (first | refine aops_nil ?_ | (refine aops_one ?_;  first | refine aops_quiet tabOk rfl rfl rfl (Nat.le_of_ble_eq_true rfl) rfl ?_ | (refine aops_cmp rfl rfl rfl (Nat.le_of_ble_eq_true rfl) rfl rfl rfl (fun hq => ?_) (fun hq => ?_) <;> (first | (simp only [decide_eq_true_eq, decide_eq_false_iff_not, beq_iff_eq, beq_eq_false_iff_ne, bne_iff_ne, bne_eq_false_iff_eq, Bool.not_eq_true', Bool.not_eq_false'] at hq; first | (exfalso; omega) | skip) | skip)) | refine aops_call rfl rfl (Nat.le_of_ble_eq_true rfl) rfl rfl rfl rfl (c1) ?_) | (refine awp_one ?_;  first | refine awp_sreg ?_ | refine awp_seq ?_ | refine awp_ret ?_ | refine awp_cond (b := true) rfl (fun _ => ?_) (fun h => Bool.noConfusion h)) | (refine then_one ?_;  first | refine q_then_ret ?_))
    all_goals first
      | exact absurd rfl (by assumption)
      | exact absurd (by assumption) hc
      | (refine aexit_eq (by first | exact .inl rfl | exact .inr rfl) (results_2 rfl (resOk_tmp rfl) (resOk_tmp rfl)) rfl ?_; rfl)
end Go.Proofs.YtlbemgokilhdnaaDoor.Ab
namespace Go.Proofs.YtlbemgokilhdnaaDoor.Ab
set_option linter.unusedVariables false
set_option linter.unusedSimpArgs false
open Go.RowKit Go.Lib Go.Proofs.YtlbemgokilhdnaaDoorW.PrintWords Go.Proofs.YtlbemgokilhdnaaDoorW.PrintLast Go.Proofs.YtlbemgokilhdnaaDoorW.PrintMore Go.Proofs.YtlbemgokilhdnaaDoor.RP Go.Proofs.YtlbemgokilhdnaaDoor.RW Go.Proofs.YtlbemgokilhdnaaDoor.PAll
/-- Texts, one behind the other, a separator between. -/
def joinS (sep : ByteArray) (l : List ByteArray) : ByteArray := ⟨(Lib.join (l.map (·.data.toList)) sep.data.toList).toArray⟩
theorem joinS_a (f : Bool) (l : List ByteArray) (sep : ByteArray) (hl : l.length ≤ 1000000) (hs : (joinS sep l).size ≤ 140737488355328) : ACalls Tryd.prog 57 [.imm (.sl f l.length (strs l)), .imm (.lit (.string sep))] [] (.imm (.lit (.string (joinS sep l)))) [] :=
  acalls_of (args := [.sl f l.length (strs l), .lit (.string sep)]) (r := .lit (.string (joinS sep l))) ⟨_, Tryd.func57, rfl, rfl⟩ (fun w M vs ha hv => by
    obtain ⟨v, us, rfl, h1, h2⟩ := repL_cons hv
    obtain ⟨v2, us, rfl, h3, h4⟩ := repL_cons h2
    rw [rep_lit h3, repL_nil h4]
    obtain ⟨a, cap, rfl, hc, hn, h⟩ := rep_strs h1
    have hj : (Lib.join (l.map (·.data.toList)) sep.data.toList).length ≤ 140737488355328 := by
      have e2 : (joinS sep l).size = (Lib.join (l.map (·.data.toList)) sep.data.toList).length := by rw [← ba_size]; rfl
      rw [← e2]; exact hs
    rcases h with rfl | ⟨b, o, rfl, hb, hcells⟩
    · refine (Tryd.strings_Join_none a cap sep w).mono fun e w' ⟨he, hw⟩ => ⟨_, he, ?_, ?_⟩
      · rw [hw]; exact Below.refl _ _
      · exact rep_mk_lit rfl
    · refine (Tryd.strings_Join b o cap l sep w hcells hb (by omega) hc hj).mono fun e w' ⟨he, hw⟩ => ⟨_, he, hw, ?_⟩
      exact rep_mk_lit rfl)
end Go.Proofs.YtlbemgokilhdnaaDoor.Ab
namespace Go.Proofs.YtlbemgokilhdnaaDoor.Ab
set_option linter.unusedVariables false
set_option linter.unusedSimpArgs false
open Go.RowKit Go.Proofs.YtlbemgokilhdnaaDoor.RP
attribute [local irreducible] AWP AOps AExit AThen ABlock ANoGoto FeetOk
abbrev strVX : ByteArray := ⟨#[118, 58, 120]⟩
/-- v:x = int -/
abbrev strVXI : ByteArray := ⟨#[118, 58, 120, 32, 61, 32, 105, 110, 116]⟩
def exV : Tree := .node 160 0 emptyB emptyB [.node 111 0 emptyB emptyB []]
def exN : Tree := .node 162 0 emptyB emptyB [.node 163 0 strVX emptyB [exV]]
def exC : Tree := .node 115 0 emptyB emptyB [.node 116 0 strVX emptyB [.node 111 0 emptyB emptyB []]]
set_option maxHeartbeats 4000000 in
set_option maxRecDepth 10000 in
theorem showInt_a : ACalls Tryd.prog 40 [.imm (Tree.iv (.node 111 0 emptyB emptyB []))] [] (.imm (.lit (.string ⟨#[105, 110, 116]⟩))) [] := by
  refine acalls_plain Tryd.func40 rfl rfl (Nat.le_of_ble_eq_true rfl) rfl ?_
  repeat' (first | refine aops_nil ?_ | (refine aops_one ?_;  first | refine aops_quiet tabOk rfl rfl rfl (Nat.le_of_ble_eq_true rfl) rfl ?_ | (refine aops_cmp rfl rfl rfl (Nat.le_of_ble_eq_true rfl) rfl rfl rfl (fun hq => ?_) (fun hq => ?_) <;> (first | (simp only [decide_eq_true_eq, decide_eq_false_iff_not, beq_iff_eq, beq_eq_false_iff_ne, bne_iff_ne, bne_eq_false_iff_eq, Bool.not_eq_true', Bool.not_eq_false'] at hq; first | (exfalso; omega) | skip) | skip)) | refine aops_pure tabOk rfl rfl (Nat.le_of_ble_eq_true rfl) rfl ?_) | (refine awp_one ?_;  first | refine awp_sreg ?_ | refine awp_seq ?_ | refine awp_region ?_ | refine awp_block ?_ | refine awp_ret ?_ | refine awp_cond (b := true) rfl (fun _ => ?_) (fun h => Bool.noConfusion h) | refine awp_cond (b := false) rfl (fun h => Bool.noConfusion h) (fun _ => ?_)) | (refine then_one ?_;  first | refine q_then ?_ | refine q_then_ret ?_) | (refine block_one ?_;  first | refine q_block_ret ?_))
  all_goals first
    | exact absurd rfl (by assumption)
    | (exfalso; omega)
    | (refine aexit_eq (by first | exact .inl rfl | exact .inr rfl) (results_1 rfl (resOk_tmp rfl)) rfl ?_; rfl)
theorem join_one : joinS ⟨#[32, 44, 32]⟩ [strVXI] = strVXI := rfl
set_option maxHeartbeats 8000000 in
set_option maxRecDepth 10000 in
theorem showEx_a : ACalls Tryd.prog 40 [.imm exC.iv] [] (.imm (.lit (.string ⟨#[123, 32, 118, 58, 120, 32, 61, 32, 105, 110, 116, 32, 125]⟩))) [] := by
  have c1 := showInt_a
  have c2 := joinS_a false [strVXI] ⟨#[32, 44, 32]⟩ (by decide) (by rw [join_one]; decide)
  rw [join_one] at c2
  unfold exC
  refine acalls_plain Tryd.func40 rfl rfl (Nat.le_of_ble_eq_true rfl) rfl ?_
  repeat' (first | refine aops_nil ?_ | (refine aops_one ?_;  first | refine aops_quiet tabOk rfl rfl rfl (Nat.le_of_ble_eq_true rfl) rfl ?_ | (refine aops_cmp rfl rfl rfl (Nat.le_of_ble_eq_true rfl) rfl rfl rfl (fun hq => ?_) (fun hq => ?_) <;> (first | (simp only [decide_eq_true_eq, decide_eq_false_iff_not, beq_iff_eq, beq_eq_false_iff_ne, bne_iff_ne, bne_eq_false_iff_eq, Bool.not_eq_true', Bool.not_eq_false'] at hq; first | (exfalso; omega) | skip) | skip)) | refine aops_pure tabOk rfl rfl (Nat.le_of_ble_eq_true rfl) rfl ?_) | (refine awp_one ?_;  first | refine awp_sreg ?_ | refine awp_seq ?_ | refine awp_region ?_ | refine awp_block ?_ | refine awp_skip ?_ | refine awp_cond (b := false) rfl (fun h => Bool.noConfusion h) (fun _ => ?_)) | (refine then_one ?_;  first | refine q_then ?_) | (refine block_one ?_;  first | refine q_block ?_))
  all_goals first
    | exact absurd rfl (by assumption)
    | (exfalso; omega)
    | skip
  refine awp_imp (imp_nil (t := 7) 500 9 1 rfl (by simp) rfl rfl) ?_
  refine awp_loop (ι := {j : Nat // j ≤ 1}) (fun j => S.f ⟨[(72, .imm (.lit (.int .i64 (j.1 : Int)))), (71, .imm (.lit (.int .i64 1))), (70, .imm (.sl false 1 (Tree.ivs [.node 116 0 strVX emptyB [.node 111 0 emptyB emptyB []]]))), (4, .imm (.lit (.string ⟨#[32, 44, 32]⟩))), (5, .imm (.lit (.string ⟨#[32, 61, 32]⟩))), (6, .imm (.lit (.string ⟨#[]⟩))), (7, .ref 500 j.1)], [(500, .arr 9 1 j.1 (strs ([strVXI].take j.1)))]⟩) (fun j => 1 - j.1) ⟨0, Nat.zero_le _⟩ (le_of (by repeat' first | exact trivial | refine ⟨rfl, ?_⟩) (by repeat' first | exact trivial | refine ⟨rfl, ?_⟩)) ?_
  rintro ⟨j, hj⟩
  dsimp only
  by_cases hlt : j < 1
  · obtain rfl : j = 0 := by omega
    have s1 : strVX.size = 3 := rfl
    have s2 : (⟨#[32, 61, 32]⟩ : ByteArray).size = 3 := rfl
    have s3 : (⟨#[105, 110, 116]⟩ : ByteArray).size = 3 := rfl
    repeat' (first | refine aops_nil ?_ | (refine aops_one ?_;  first | refine aops_quiet tabOk rfl rfl rfl (Nat.le_of_ble_eq_true rfl) rfl ?_ | (refine aops_cmp rfl rfl rfl (Nat.le_of_ble_eq_true rfl) rfl rfl rfl (fun hq => ?_) (fun hq => ?_) <;> (first | (simp only [decide_eq_true_eq, decide_eq_false_iff_not, beq_iff_eq, beq_eq_false_iff_ne, bne_iff_ne, bne_eq_false_iff_eq, Bool.not_eq_true', Bool.not_eq_false'] at hq; first | (exfalso; omega) | skip) | skip)) | refine aops_concat rfl rfl rfl (Nat.le_of_ble_eq_true rfl) rfl rfl (by first | omega | (simp only [ba_size_append]; omega)) ?_ | refine aops_call rfl rfl (Nat.le_of_ble_eq_true rfl) rfl rfl rfl rfl (c1) ?_ | refine aops_append tabOk rfl rfl rfl (Nat.le_of_ble_eq_true rfl) rfl rfl rfl rfl rfl rfl rfl (by first | omega | decide) rfl (by first | omega | (dsimp only; omega)) (by first | omega | (dsimp only; omega)) ?_ | refine aops_inc rfl rfl rfl (Nat.le_of_ble_eq_true rfl) rfl rfl (by omega) ?_ | refine aops_list tabOk rfl rfl rfl (Nat.le_of_ble_eq_true rfl) rfl rfl rfl rfl rfl rfl rfl rfl rfl ?_ | refine aops_index tabOk rfl rfl rfl (Nat.le_of_ble_eq_true rfl) rfl rfl rfl rfl (by first | assumption | omega) ?_) | (refine awp_one ?_;  first | refine awp_sreg ?_ | refine awp_seq ?_ | refine awp_region ?_ | refine awp_block ?_ | refine awp_skip ?_ | refine awp_cond (b := true) rfl (fun _ => ?_) (fun h => Bool.noConfusion h) | refine awp_region_draw mixed (by kernel_rfl) ?_) | (refine then_one ?_;  first | refine q_then ?_) | (refine block_one ?_;  first | refine q_block ?_) | refine feet_one (feetOk_of (by kernel_rfl)) ?_)
    all_goals first
      | (exfalso; omega)
      | exact ⟨⟨1, Nat.le_refl _⟩, (by show 1 - 1 < 1 - 0; omega), (le_of (by repeat' first | exact trivial | refine ⟨rfl, ?_⟩) (by repeat' first | exact trivial | refine ⟨rfl, ?_⟩))⟩
  · obtain rfl : j = 1 := by omega
    refine awp_imp ((Imp.of_le (σ' := S.f ⟨[(72, .imm (.lit (.int .i64 1))), (71, .imm (.lit (.int .i64 1))), (4, .imm (.lit (.string ⟨#[32, 44, 32]⟩))), (6, .imm (.lit (.string ⟨#[]⟩))), (7, .ref 500 1)], [(500, .arr 9 1 1 (strs [strVXI]))]⟩) (le_of (by repeat' first | exact trivial | refine ⟨rfl, ?_⟩) (by repeat' first | exact trivial | refine ⟨rfl, ?_⟩))).trans (imp_freezeR (g := 500) rfl (by repeat' first | exact trivial | exact fun _ => rfl | refine ⟨?_, ?_⟩) (by repeat' first | exact trivial | exact fun _ => rfl | refine ⟨?_, ?_⟩))) ?_
    have s1 : (⟨#[]⟩ : ByteArray).size = 0 := rfl
    have s2 : (⟨#[123, 32]⟩ : ByteArray).size = 2 := rfl
    have s3 : strVXI.size = 9 := rfl
    have s4 : (⟨#[32, 125]⟩ : ByteArray).size = 2 := rfl
    repeat' (first | refine aops_nil ?_ | (refine aops_one ?_;  first | refine aops_quiet tabOk rfl rfl rfl (Nat.le_of_ble_eq_true rfl) rfl ?_ | (refine aops_cmp rfl rfl rfl (Nat.le_of_ble_eq_true rfl) rfl rfl rfl (fun hq => ?_) (fun hq => ?_) <;> (first | (simp only [decide_eq_true_eq, decide_eq_false_iff_not, beq_iff_eq, beq_eq_false_iff_ne, bne_iff_ne, bne_eq_false_iff_eq, Bool.not_eq_true', Bool.not_eq_false'] at hq; first | (exfalso; omega) | skip) | skip)) | refine aops_concat rfl rfl rfl (Nat.le_of_ble_eq_true rfl) rfl rfl (by first | omega | (simp only [ba_size_append]; omega)) ?_ | refine aops_call rfl rfl (Nat.le_of_ble_eq_true rfl) rfl rfl rfl rfl (c2) ?_ | refine aops_pure tabOk rfl rfl (Nat.le_of_ble_eq_true rfl) rfl ?_) | (refine awp_one ?_;  first | refine awp_sreg ?_ | refine awp_seq ?_ | refine awp_ret ?_ | refine awp_exit ?_ | refine awp_skip ?_ | refine awp_cond (b := false) rfl (fun h => Bool.noConfusion h) (fun _ => ?_)) | (refine then_one ?_;  first | refine q_then ?_ | refine q_then_exit ?_) | (refine block_one ?_;  first | refine q_block_exit ?_))
    all_goals first
      | exact absurd rfl (by assumption)
      | (exfalso; omega)
      | (refine aexit_eq (by first | exact .inl rfl | exact .inr rfl) (results_1 rfl (resOk_tmp rfl)) rfl ?_; rfl)
set_option maxRecDepth 100000 in
theorem exN_trans : sTransP exN = (exC, 0) := by decide +kernel
set_option maxRecDepth 100000 in
theorem exN_at : sAtP exN ⟨#[118]⟩ ⟨#[120]⟩ = (exV, 0) := by decide +kernel
theorem exC_check : checkP isConP exC = 0 := by decide +kernel
set_option maxHeartbeats 4000000 in
set_option maxRecDepth 10000 in
theorem Show_ex : ACalls Tryd.prog 20 [.imm exC.iv] [] (.imm (.lit (.string ⟨#[123, 32, 118, 58, 120, 32, 61, 32, 105, 110, 116, 32, 125]⟩))) [] := by
  have c1 := Check_any exC (by decide)
  rw [exC_check] at c1
  have c2 := showEx_a
  generalize exC.iv = X at *
  refine acalls_plain Tryd.func20 rfl rfl (Nat.le_of_ble_eq_true rfl) rfl ?_
  repeat' (first | refine aops_nil ?_ | (refine aops_one ?_;  first | refine aops_quiet tabOk rfl rfl rfl (Nat.le_of_ble_eq_true rfl) rfl ?_ | refine aops_skip rfl rfl (Nat.le_of_ble_eq_true rfl) ?_ | (refine aops_cmp rfl rfl rfl (Nat.le_of_ble_eq_true rfl) rfl rfl rfl (fun hq => ?_) (fun hq => ?_) <;> (first | (simp only [decide_eq_true_eq, decide_eq_false_iff_not, beq_iff_eq, beq_eq_false_iff_ne, bne_iff_ne, bne_eq_false_iff_eq, Bool.not_eq_true', Bool.not_eq_false'] at hq; first | (exfalso; omega) | skip) | skip)) | refine aops_call rfl rfl (Nat.le_of_ble_eq_true rfl) rfl rfl rfl rfl (c1) ?_ | refine aops_call rfl rfl (Nat.le_of_ble_eq_true rfl) rfl rfl rfl rfl (c2) ?_) | (refine awp_one ?_;  first | refine awp_sreg ?_ | refine awp_seq ?_ | refine awp_ret ?_ | refine awp_skip ?_ | refine awp_cond (b := false) rfl (fun h => Bool.noConfusion h) (fun _ => ?_)) | (refine then_one ?_;  first | refine q_then ?_))
  all_goals first
    | exact absurd rfl (by assumption)
    | (refine aexit_eq (by first | exact .inl rfl | exact .inr rfl) (results_1 rfl (resOk_tmp rfl)) rfl ?_; rfl)
set_option maxHeartbeats 8000000 in
set_option maxRecDepth 10000 in
theorem works19_a : ACalls Tryd.prog 8 [] [] (.imm (.lit (.bool true))) [] := by
  have c1 := Trans_a exN (by decide)
  rw [exN_trans] at c1
  have c2 := At_a exN ⟨#[118]⟩ ⟨#[120]⟩ (by decide) (by decide) (by decide)
  rw [exN_at] at c2
  have c3 := Show_ex
  dsimp only at c1 c2
  generalize exC.iv = X at *
  refine acalls_plain Tryd.func8 rfl rfl (Nat.le_of_ble_eq_true rfl) rfl ?_
  repeat' (first | refine aops_nil ?_ | (refine aops_one ?_;  first | refine aops_quiet tabOk rfl rfl rfl (Nat.le_of_ble_eq_true rfl) rfl ?_ | refine aops_skip rfl rfl (Nat.le_of_ble_eq_true rfl) ?_ | (refine aops_cmp rfl rfl rfl (Nat.le_of_ble_eq_true rfl) rfl rfl rfl (fun hq => ?_) (fun hq => ?_) <;> (first | (simp only [decide_eq_true_eq, decide_eq_false_iff_not, beq_iff_eq, beq_eq_false_iff_ne, bne_iff_ne, bne_eq_false_iff_eq, Bool.not_eq_true', Bool.not_eq_false'] at hq; first | (exfalso; omega) | skip) | skip)) | refine aops_call rfl rfl (Nat.le_of_ble_eq_true rfl) rfl rfl rfl rfl (c1) ?_ | refine aops_call rfl rfl (Nat.le_of_ble_eq_true rfl) rfl rfl rfl rfl (c2) ?_ | refine aops_call rfl rfl (Nat.le_of_ble_eq_true rfl) rfl rfl rfl rfl (c3) ?_ | refine aops_list tabOk rfl rfl rfl (Nat.le_of_ble_eq_true rfl) rfl rfl rfl rfl rfl rfl rfl rfl rfl ?_ | refine aops_pure tabOk rfl rfl (Nat.le_of_ble_eq_true rfl) rfl ?_) | (refine awp_one ?_;  first | refine awp_sreg ?_ | refine awp_ret ?_))
  all_goals first
    | exact aexit_plain (by first | exact .inl rfl | exact .inr rfl) (results_1 rfl (resOk_tmp rfl)) rfl
    | exact absurd rfl (by assumption)
    | (exfalso; omega)
end Go.Proofs.YtlbemgokilhdnaaDoor.Ab
namespace Go.Proofs.YtlbemgokilhdnaaDoor.Ab
set_option linter.unusedVariables false
set_option linter.unusedSimpArgs false
open Go.RowKit Go.Proofs.YtlbemgokilhdnaaDoor.RP
attribute [local irreducible] AWP AOps AExit AThen ABlock ANoGoto FeetOk
theorem rem_range (b : Int) : -50 < b.tmod 50 ∧ b.tmod 50 < 50 := by
  have h1 := Int.tmod_lt_of_pos b (by decide : (0 : Int) < 50)
  have h2 := Int.tmod_lt_of_pos (-b) (by decide : (0 : Int) < 50)
  rw [Int.neg_tmod] at h2
  omega
theorem sTransP_zs (t : Tree) : ((sTransP t).1 = .nil ∨ (sTransP t).1.whole = true) ∧ (sTransP t).1.size ≤ 65536 := by
  by_cases h : (sTransP t).2 = 0
  · obtain ⟨_, _, e, g1, g2, _⟩ := sTrans_ok t h
    rw [e]
    exact ⟨.inr g1, g2⟩
  · have : (sTransP t).1 = .nil := by
      unfold sTransP at h ⊢
      split
      · rfl
      · rename_i h1
        rw [if_neg h1] at h
        unfold sizedP at h ⊢
        split
        · rfl
        · rename_i h2
          rw [if_neg h2] at h
          split
          · rfl
          · rename_i h3; rw [if_neg h3] at h; exact absurd rfl h
    rw [this]
    exact ⟨.inl rfl, by simp [Tree.size]⟩
theorem swalkP_bad (C : Tree → Int → Tree × Int) (hC : ∀ t d, (C t d).2 ≠ 0 → (C t d).1 = .nil) (t : Tree) (d : Int) (h : (swalkP C t d).2 ≠ 0) : (swalkP C t d).1 = .nil := by
  cases t with
  | nil => rw [swalkP]
  | node k n a b kids =>
    rw [swalkP] at h ⊢
    by_cases h1 : k < 160
    · rw [if_pos h1] at h ⊢; exact hC _ _ h
    · rw [if_neg h1] at h ⊢
      by_cases h2 : (swalkPs C kids (d + sbindsP k n)).2 ≠ 0
      · rw [if_pos h2]
      · rw [if_neg h2] at h; exact absurd rfl h
theorem shiftP_bad (t : Tree) (b f : Int) (h : (shiftP t b f).2 ≠ 0) : (shiftP t b f).1 = .nil := by
  unfold shiftP at h ⊢
  split
  · rename_i h1
    rw [if_pos h1] at h
    split
    · rename_i h2; rw [if_pos h2] at h; exact absurd rfl h
    · rfl
  · rfl
theorem sShiftP_bad (t : Tree) (b f : Int) (h : (sShiftP t b f).2 ≠ 0) : (sShiftP t b f).1 = .nil := by
  unfold sShiftP at h ⊢
  split
  · rfl
  · rename_i h1
    rw [if_neg h1] at h
    split
    · rfl
    · rename_i h2
      rw [if_neg h2] at h
      refine swalkP_bad _ (fun t d hq => ?_) _ _ h
      unfold sshC at hq ⊢
      split
      · rename_i h3; rw [if_pos h3] at hq; exact absurd rfl hq
      · rename_i h3
        rw [if_neg h3] at hq
        split
        · rfl
        · rename_i h4
          rw [if_neg h4] at hq
          exact shiftP_bad _ _ _ hq
set_option maxHeartbeats 8000000 in
set_option maxRecDepth 10000 in
theorem SemBack_a (l : List CellD) (hl : ∀ c ∈ l, c.f = false) (b : Int) : ACalls Tryd.prog 4 [.imm (.agg [.sl false l.length (cellIVs l)]), .imm (.lit (.int .i64 b))] [] (.imm (.lit (.bool true))) [] := by
  obtain ⟨x, x1, _, x3, d1⟩ := few10_s l hl
  obtain ⟨r1, r2⟩ := rem_range b
  obtain ⟨z1, hz1⟩ : ∃ z, b.tmod 50 = z := ⟨_, rfl⟩
  rw [hz1] at r1 r2
  obtain ⟨z, hz⟩ : ∃ z, (z1 + 50).tmod 50 = z := ⟨_, rfl⟩
  have r3 : 0 ≤ z := by rw [← hz]; exact Int.tmod_nonneg _ (by omega)
  have r4 : z < 50 := by rw [← hz]; exact Int.tmod_lt_of_pos _ (by decide)
  have c1 := sShift_a x z 0 (by omega)
  have hlaw := back_law x z r3 (by omega)
  have hbad := sShiftP_bad x z 0
  generalize sShiftP x z 0 = M at *
  obtain ⟨M1, M2⟩ := M
  dsimp only at c1 hlaw hbad
  by_cases hM : M2 = 0
  · subst hM
    obtain ⟨b1, b2, b3, b4, b5⟩ := hlaw rfl
    have hxw := (checkP_whole b4).1
    have c2 := sShift_a M1 (-z) 0 (by omega)
    rw [b1] at c2
    have s1 := Same_a x x (.inr hxw) (.inr hxw) (by omega) (by omega)
    rw [(sameP_iff _ _).2 rfl] at s1
    have c3 := Trans_a x (by omega)
    have c4 := Trans_a M1 (by omega)
    obtain ⟨t1, t2⟩ := sTransP_zs x
    obtain ⟨t3, t4⟩ := sTransP_zs M1
    generalize sTransP x = T at *
    generalize sTransP M1 = U at *
    obtain ⟨T1, T2⟩ := T
    obtain ⟨U1, U2⟩ := U
    dsimp only at *
    by_cases hT : T2 = 0
    · subst hT
      by_cases hU : U2 = 0
      · subst hU
        have c5 := Shift_a T1 z 0 (by omega)
        rw [b5 rfl rfl] at c5
        dsimp only at c5
        have s2 := Same_a U1 U1 t3 t3 (by omega) (by omega)
        rw [(sameP_iff _ _).2 rfl] at s2
        clear b1 b3 b4 b5 hlaw hbad t1 t2 t3 t4 hxw
        refine acalls_plain Tryd.func4 rfl rfl (Nat.le_of_ble_eq_true rfl) rfl ?_
        repeat' (first | refine aops_nil ?_ | (refine aops_one ?_;  first | refine aops_quiet tabOk rfl rfl rfl (Nat.le_of_ble_eq_true rfl) rfl ?_ | (refine aops_cmp rfl rfl rfl (Nat.le_of_ble_eq_true rfl) rfl rfl rfl (fun hq => ?_) (fun hq => ?_) <;> (first | (simp only [decide_eq_true_eq, decide_eq_false_iff_not, beq_iff_eq, beq_eq_false_iff_ne, bne_iff_ne, bne_eq_false_iff_eq, Bool.not_eq_true', Bool.not_eq_false'] at hq; first | (exfalso; omega) | skip) | skip)) | refine aops_rem rfl rfl rfl (Nat.le_of_ble_eq_true rfl) rfl rfl (by decide) hz1 ?_ | refine aops_rem rfl rfl rfl (Nat.le_of_ble_eq_true rfl) rfl rfl (by decide) hz ?_ | refine aops_neg (z := -z) rfl rfl rfl (Nat.le_of_ble_eq_true rfl) rfl (by omega) (by omega) (by omega) ?_ | refine aops_call rfl rfl (Nat.le_of_ble_eq_true rfl) rfl rfl rfl rfl (d1) ?_ | refine aops_call rfl rfl (Nat.le_of_ble_eq_true rfl) rfl rfl rfl rfl (c1) ?_ | refine aops_call rfl rfl (Nat.le_of_ble_eq_true rfl) rfl rfl rfl rfl (c2) ?_ | refine aops_call rfl rfl (Nat.le_of_ble_eq_true rfl) rfl rfl rfl rfl (c3) ?_ | refine aops_call rfl rfl (Nat.le_of_ble_eq_true rfl) rfl rfl rfl rfl (c4) ?_ | refine aops_call rfl rfl (Nat.le_of_ble_eq_true rfl) rfl rfl rfl rfl (c5) ?_ | refine aops_call rfl rfl (Nat.le_of_ble_eq_true rfl) rfl rfl rfl rfl (s1) ?_ | refine aops_call rfl rfl (Nat.le_of_ble_eq_true rfl) rfl rfl rfl rfl (s2) ?_ | refine aops_call rfl rfl (Nat.le_of_ble_eq_true rfl) rfl rfl rfl rfl (works19_a) ?_ | refine aops_add rfl rfl rfl (Nat.le_of_ble_eq_true rfl) rfl rfl rfl (by omega) (by omega) ?_ | refine aops_pure tabOk rfl rfl (Nat.le_of_ble_eq_true rfl) rfl ?_) | (refine awp_one ?_;  first | refine awp_sreg ?_ | refine awp_seq ?_ | refine awp_ret ?_ | refine awp_skip ?_ | refine awp_cond (b := false) rfl (fun h => Bool.noConfusion h) (fun _ => ?_)) | (refine then_one ?_;  first | refine q_then ?_))
        all_goals first
          | exact aexit_plain (by first | exact .inl rfl | exact .inr rfl) (results_1 rfl (resOk_tmp rfl)) rfl
          | exact absurd rfl (by assumption)
          | (exfalso; omega)
      · clear b1 b3 b4 b5 hlaw hbad t1 t2 t3 t4 hxw
        refine acalls_plain Tryd.func4 rfl rfl (Nat.le_of_ble_eq_true rfl) rfl ?_
        repeat' (first | refine aops_nil ?_ | (refine aops_one ?_;  first | refine aops_quiet tabOk rfl rfl rfl (Nat.le_of_ble_eq_true rfl) rfl ?_ | (refine aops_cmp rfl rfl rfl (Nat.le_of_ble_eq_true rfl) rfl rfl rfl (fun hq => ?_) (fun hq => ?_) <;> (first | (simp only [decide_eq_true_eq, decide_eq_false_iff_not, beq_iff_eq, beq_eq_false_iff_ne, bne_iff_ne, bne_eq_false_iff_eq, Bool.not_eq_true', Bool.not_eq_false'] at hq; first | (exfalso; omega) | skip) | skip)) | refine aops_rem rfl rfl rfl (Nat.le_of_ble_eq_true rfl) rfl rfl (by decide) hz1 ?_ | refine aops_rem rfl rfl rfl (Nat.le_of_ble_eq_true rfl) rfl rfl (by decide) hz ?_ | refine aops_neg (z := -z) rfl rfl rfl (Nat.le_of_ble_eq_true rfl) rfl (by omega) (by omega) (by omega) ?_ | refine aops_call rfl rfl (Nat.le_of_ble_eq_true rfl) rfl rfl rfl rfl (d1) ?_ | refine aops_call rfl rfl (Nat.le_of_ble_eq_true rfl) rfl rfl rfl rfl (c1) ?_ | refine aops_call rfl rfl (Nat.le_of_ble_eq_true rfl) rfl rfl rfl rfl (c2) ?_ | refine aops_call rfl rfl (Nat.le_of_ble_eq_true rfl) rfl rfl rfl rfl (c3) ?_ | refine aops_call rfl rfl (Nat.le_of_ble_eq_true rfl) rfl rfl rfl rfl (c4) ?_ | refine aops_call rfl rfl (Nat.le_of_ble_eq_true rfl) rfl rfl rfl rfl (s1) ?_ | refine aops_call rfl rfl (Nat.le_of_ble_eq_true rfl) rfl rfl rfl rfl (works19_a) ?_ | refine aops_add rfl rfl rfl (Nat.le_of_ble_eq_true rfl) rfl rfl rfl (by omega) (by omega) ?_ | refine aops_pure tabOk rfl rfl (Nat.le_of_ble_eq_true rfl) rfl ?_) | (refine awp_one ?_;  first | refine awp_sreg ?_ | refine awp_seq ?_ | refine awp_ret ?_ | refine awp_skip ?_ | refine awp_cond (b := true) rfl (fun _ => ?_) (fun h => Bool.noConfusion h) | refine awp_cond (b := false) rfl (fun h => Bool.noConfusion h) (fun _ => ?_)) | (refine then_one ?_;  first | refine q_then ?_ | refine q_then_ret ?_))
        all_goals first
          | exact aexit_plain (by first | exact .inl rfl | exact .inr rfl) (results_1 rfl (resOk_tmp rfl)) rfl
          | exact absurd (by assumption) hU
          | exact absurd rfl (by assumption)
          | (exfalso; omega)
    · clear b1 b3 b4 b5 hlaw hbad t1 t2 t3 t4 hxw
      refine acalls_plain Tryd.func4 rfl rfl (Nat.le_of_ble_eq_true rfl) rfl ?_
      repeat' (first | refine aops_nil ?_ | (refine aops_one ?_;  first | refine aops_quiet tabOk rfl rfl rfl (Nat.le_of_ble_eq_true rfl) rfl ?_ | refine aops_skip rfl rfl (Nat.le_of_ble_eq_true rfl) ?_ | (refine aops_cmp rfl rfl rfl (Nat.le_of_ble_eq_true rfl) rfl rfl rfl (fun hq => ?_) (fun hq => ?_) <;> (first | (simp only [decide_eq_true_eq, decide_eq_false_iff_not, beq_iff_eq, beq_eq_false_iff_ne, bne_iff_ne, bne_eq_false_iff_eq, Bool.not_eq_true', Bool.not_eq_false'] at hq; first | (exfalso; omega) | skip) | skip)) | refine aops_rem rfl rfl rfl (Nat.le_of_ble_eq_true rfl) rfl rfl (by decide) hz1 ?_ | refine aops_rem rfl rfl rfl (Nat.le_of_ble_eq_true rfl) rfl rfl (by decide) hz ?_ | refine aops_neg (z := -z) rfl rfl rfl (Nat.le_of_ble_eq_true rfl) rfl (by omega) (by omega) (by omega) ?_ | refine aops_call rfl rfl (Nat.le_of_ble_eq_true rfl) rfl rfl rfl rfl (d1) ?_ | refine aops_call rfl rfl (Nat.le_of_ble_eq_true rfl) rfl rfl rfl rfl (c1) ?_ | refine aops_call rfl rfl (Nat.le_of_ble_eq_true rfl) rfl rfl rfl rfl (c2) ?_ | refine aops_call rfl rfl (Nat.le_of_ble_eq_true rfl) rfl rfl rfl rfl (c3) ?_ | refine aops_call rfl rfl (Nat.le_of_ble_eq_true rfl) rfl rfl rfl rfl (c4) ?_ | refine aops_call rfl rfl (Nat.le_of_ble_eq_true rfl) rfl rfl rfl rfl (s1) ?_ | refine aops_call rfl rfl (Nat.le_of_ble_eq_true rfl) rfl rfl rfl rfl (works19_a) ?_ | refine aops_add rfl rfl rfl (Nat.le_of_ble_eq_true rfl) rfl rfl rfl (by omega) (by omega) ?_ | refine aops_pure tabOk rfl rfl (Nat.le_of_ble_eq_true rfl) rfl ?_) | (refine awp_one ?_;  first | refine awp_sreg ?_ | refine awp_seq ?_ | refine awp_ret ?_ | refine awp_skip ?_ | refine awp_cond (b := true) rfl (fun _ => ?_) (fun h => Bool.noConfusion h) | refine awp_cond (b := false) rfl (fun h => Bool.noConfusion h) (fun _ => ?_)) | (refine then_one ?_;  first | refine q_then ?_ | refine q_then_ret ?_))
      all_goals first
        | exact aexit_plain (by first | exact .inl rfl | exact .inr rfl) (results_1 rfl (resOk_tmp rfl)) rfl
        | exact absurd (by assumption) hT
        | exact absurd rfl (by assumption)
        | (exfalso; omega)
  · rw [hbad hM] at c1
    clear hlaw hbad
    refine acalls_plain Tryd.func4 rfl rfl (Nat.le_of_ble_eq_true rfl) rfl ?_
    repeat' (first | refine aops_nil ?_ | (refine aops_one ?_;  first | refine aops_quiet tabOk rfl rfl rfl (Nat.le_of_ble_eq_true rfl) rfl ?_ | (refine aops_cmp rfl rfl rfl (Nat.le_of_ble_eq_true rfl) rfl rfl rfl (fun hq => ?_) (fun hq => ?_) <;> (first | (simp only [decide_eq_true_eq, decide_eq_false_iff_not, beq_iff_eq, beq_eq_false_iff_ne, bne_iff_ne, bne_eq_false_iff_eq, Bool.not_eq_true', Bool.not_eq_false'] at hq; first | (exfalso; omega) | skip) | skip)) | refine aops_rem rfl rfl rfl (Nat.le_of_ble_eq_true rfl) rfl rfl (by decide) hz1 ?_ | refine aops_rem rfl rfl rfl (Nat.le_of_ble_eq_true rfl) rfl rfl (by decide) hz ?_ | refine aops_call rfl rfl (Nat.le_of_ble_eq_true rfl) rfl rfl rfl rfl (d1) ?_ | refine aops_call rfl rfl (Nat.le_of_ble_eq_true rfl) rfl rfl rfl rfl (c1) ?_ | refine aops_call rfl rfl (Nat.le_of_ble_eq_true rfl) rfl rfl rfl rfl (works19_a) ?_ | refine aops_add rfl rfl rfl (Nat.le_of_ble_eq_true rfl) rfl rfl rfl (by omega) (by omega) ?_ | refine aops_pure tabOk rfl rfl (Nat.le_of_ble_eq_true rfl) rfl ?_) | (refine awp_one ?_;  first | refine awp_sreg ?_ | refine awp_seq ?_ | refine awp_ret ?_ | refine awp_cond (b := true) rfl (fun _ => ?_) (fun h => Bool.noConfusion h)) | (refine then_one ?_;  first | refine q_then_ret ?_))
    all_goals first
      | exact aexit_plain (by first | exact .inl rfl | exact .inr rfl) (results_1 rfl (resOk_tmp rfl)) rfl
      | exact absurd (by assumption) hM
      | exact absurd rfl (by assumption)
      | (exfalso; omega)
theorem SemBack_law (xs : List IV) (h : FitsAll [tyTree, .int .i64] xs) : ACalls Tryd.prog 4 (xs.map .imm) [] (.imm (.lit (.bool true))) [] := by
  cases h with
  | cons h1 h =>
    cases h with
    | cons h2 h =>
      cases h
      obtain ⟨l, rfl, hl⟩ := fits_tree h1
      cases h2 with
      | int k n hn => exact SemBack_a l hl n
end Go.Proofs.YtlbemgokilhdnaaDoor.Ab
