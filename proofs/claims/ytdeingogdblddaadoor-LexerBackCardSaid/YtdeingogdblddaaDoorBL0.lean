/- Words, walks and laws under the claim's statement: what it uses of them. No condition of its own. -/
import Derived.Test.YtdeingogdblddaaDoorBA0
import Derived.Test.YtdeingogdblddaaDoorBAb0
import Derived.Test.YtdeingogdblddaaDoorBS0
namespace Go.Proofs.YtdeingogdblddaaDoor.Ab
set_option linter.unusedVariables false
set_option linter.unusedSimpArgs false
open Go.RowKit Go.Lib Go.Proofs.YtdeingogdblddaaDoorW.PrintWords Go.Proofs.YtdeingogdblddaaDoorW.PrintLast Go.Proofs.YtdeingogdblddaaDoorW.PrintMore Go.Proofs.YtdeingogdblddaaDoor.RP Go.Proofs.YtdeingogdblddaaDoor.RW Go.Proofs.YtdeingogdblddaaDoor.PAll
theorem amb_tabs {w : World} {M : Nat → Prop} (h : Amb w M) : Tabs w := h.tabs
theorem repL_reps {α : Type} {w : World} {M : Nat → Prop} (f : α → List IV) (sz : Nat) : ∀ (xs : List α) (inner : List Value), inner.length = xs.length * sz → (∀ j p, xs[j]? = some p → RepL w M (f p) ((inner.drop (j * sz)).take sz)) → RepL w M (xs.flatMap f) inner
  | [], inner, h, _ => by
    have e : inner = [] := List.eq_nil_of_length_eq_zero (by simpa using h)
    rw [e]; simp [RepL]
  | x :: xs, inner, h, hp => by
    have e : inner = inner.take sz ++ inner.drop sz := (List.take_append_drop _ _).symm
    rw [e, List.flatMap_cons]
    refine RepL.append ?_ ?_
    · have := hp 0 x rfl
      rw [Nat.zero_mul, List.drop_zero] at this
      exact this
    · refine repL_reps f sz xs _ ?_ (fun j p hj => ?_)
      · rw [List.length_drop, h, List.length_cons, Nat.add_mul, Nat.one_mul]; omega
      · have := hp (j + 1) p (by simpa using hj)
        rw [List.drop_drop, show sz + j * sz = (j + 1) * sz by rw [Nat.add_mul, Nat.one_mul]; omega]
        exact this
theorem rep_of_R {α : Type} {d : Kd α} {e : Nat} {w w' : World} {M : Nat → Prop} {v : Value} {xs : List α} (f : α → List IV) (h : d.R e w' w.heap.size (fun _ => True) v xs)
    (hf : ∀ ok x cs, d.M w' w.heap.size ok x cs → RepL w' (Mold w M) (f x) cs) (h1 : ∀ x, (f x).all IV.one = true) (hn : xs.length ≤ slMax) : Rep w' (Mold w M) (.sl false xs.length (xs.flatMap f)) v := by
  obtain ⟨_, inner, ho, hr⟩ := h
  refine rep_owns (own_weaken ho (Nat.zero_le _)) (repL_reps f d.sz xs inner hr.1 (fun j p hj => hf _ p _ (hr.2 j p hj))) ?_ hn (fun b hb => ?_)
  · rw [List.all_eq_true]
    intro x hx
    obtain ⟨y, _, hy⟩ := List.mem_flatMap.1 hx
    exact List.all_eq_true.1 (h1 y) x hy
  · rcases ho.2 with ⟨e, _⟩ | ⟨g, cap, cur, e, hg, _⟩
    · rw [e] at hb; cases hb
    · rw [e] at hb
      have : g = b := by simpa [blk] using hb
      rw [← this]
      exact mold_new hg
def tkIV (t : Tk) : List IV := [.lit (.int .i64 t.f0), .lit (.string t.f1), .lit (.int .i64 t.f2), .lit (.int .i64 t.f3)]
def tksIV (l : List Tk) : IV := .sl false l.length (l.flatMap tkIV)
theorem rep_R_tks {w w' : World} {M : Nat → Prop} {v : Value} {l : List Tk} (h : Kd.R k34 34 w' w.heap.size (fun _ => True) v l) (hn : l.length ≤ slMax) : Rep w' (Mold w M) (tksIV l) v :=
  rep_of_R tkIV h (fun ok x cs hm => by
    rw [k34_openM hm]
    exact ⟨rep_mk_lit rfl, rep_mk_lit rfl, rep_mk_lit rfl, rep_mk_lit rfl, trivial⟩) (fun _ => rfl) hn
theorem lexB_len (s : ByteArray) : (lexB s).1.length ≤ s.size := by
  have key : ∀ (f at_ : Nat) (acc : List Tk), acc.length ≤ at_ → at_ ≤ s.size → (lxB s f at_ acc).1.length ≤ s.size := by
    intro f
    induction f with
    | zero => intro at_ acc h1 h2; exact Nat.le_trans h1 h2
    | succ f ih =>
      intro at_ acc h1 h2
      rw [lxB]
      by_cases c0 : at_ < s.size
      · rw [if_pos c0]
        have hrs : (s.extract at_ s.size).size = s.size - at_ := by rw [ByteArray.size_extract]; omega
        have hb := spanB_le blkB (s.extract at_ s.size)
        rw [hrs] at hb
        by_cases c1 : 0 < spanB blkB (s.extract at_ s.size)
        · rw [if_pos c1]; exact ih _ _ (by omega) (by omega)
        · rw [if_neg c1]
          by_cases c2 : prefixB (s.extract at_ s.size) opB = true
          · rw [if_pos c2]
            have hcm := cmB_le (s.extract at_ s.size) (s.extract at_ s.size).size 0 0
            change 0 ≤ commentB (s.extract at_ s.size) ∧ commentB (s.extract at_ s.size) ≤ _ at hcm
            rw [hrs] at hcm
            split
            · exact Nat.zero_le _
            · exact ih _ _ (by omega) (by omega)
          · rw [if_neg c2]
            by_cases c3 : (tokB (s.extract at_ s.size)).2.2 = true
            · rw [if_pos c3]
              have := tokB_range (s.extract at_ s.size) (by omega) c3
              rw [hrs] at this
              exact ih _ _ (by rw [List.length_append]; simp; omega) (by omega)
            · rw [if_neg c3]; exact Nat.zero_le _
      · rw [if_neg c0]; exact Nat.le_trans h1 h2
  unfold lexB
  split
  · exact key _ _ _ (Nat.le_refl _) (Nat.zero_le _)
  · exact Nat.zero_le _
def lexIV (s : ByteArray) : IV := .tup [tksIV (lexB s).1, .lit (.int .i64 (lexB s).2.1), .lit (.int .i64 (lexB s).2.2)]
theorem lex_a (s : ByteArray) (hs : s.size ≤ 1000000) : ACalls Tryd.prog 19 [.imm (.lit (.string s))] [] (.imm (lexIV s)) [] :=
  acalls_of (args := [.lit (.string s)]) (r := lexIV s) ⟨_, Tryd.func19, rfl, rfl⟩ (fun w M vs ha hv => by
    obtain ⟨v, us, rfl, h1, h2⟩ := repL_cons hv
    rw [rep_lit h1, repL_nil h2]
    refine (lex_any s w hs (amb_tabs ha)).mono fun e w' ⟨v, he, hR, hb⟩ => ⟨_, he, hb, ?_⟩
    unfold lexIV
    rw [Rep]
    exact ⟨_, rfl, rep_R_tks hR (Nat.le_trans (lexB_len s) (by unfold slMax; omega)), rep_mk_lit rfl, rep_mk_lit rfl, trivial⟩)
end Go.Proofs.YtdeingogdblddaaDoor.Ab
namespace Go.Proofs.YtdeingogdblddaaDoor.Ab
set_option linter.unusedVariables false
set_option linter.unusedSimpArgs false
open Go.RowKit Go.Lib Go.Proofs.YtdeingogdblddaaDoorW.PrintWords Go.Proofs.YtdeingogdblddaaDoorW.PrintLast Go.Proofs.YtdeingogdblddaaDoorW.PrintMore Go.Proofs.YtdeingogdblddaaDoor.RP Go.Proofs.YtdeingogdblddaaDoor.RW Go.Proofs.YtdeingogdblddaaDoor.PAll
def eqTk (a b : Tk) : Bool := decide (a.f0 = b.f0) && (decide (a.f1 = b.f1) && (decide (a.f2 = b.f2) && decide (a.f3 = b.f3)))
theorem eqTk_iff (a b : Tk) : eqTk a b = true ↔ a = b := by
  obtain ⟨a0, a1, a2, a3⟩ := a
  obtain ⟨b0, b1, b2, b3⟩ := b
  simp [eqTk]
instance : DecidableEq Tk := fun a b => decidable_of_iff (eqTk a b = true) (eqTk_iff a b)
theorem eqTk_run (d : Nat) (w : World) (a b : Tk) : (Op.equalIn (d + 2) 34 (.agg #[.int .i64 a.f0, .string a.f1, .int .i64 a.f2, .int .i64 a.f3]) (.agg #[.int .i64 b.f0, .string b.f1, .int .i64 b.f2, .int .i64 b.f3])).run Tryd.prog w = .ok (eqTk a b) w := by
  rw [eqA34]
  congr 1
  unfold eqTk
  rw [beq_dec, beq_dec, beq_dec, beq_dec]
  rw [show decide (a.f1.toList = b.f1.toList) = decide (a.f1 = b.f1) from decide_eq_decide.2 toListB_inj]
theorem tk_guard : Tryd.prog.eqGuardType Tryd.prog.depth 34 = false := by kernel_rfl
theorem rep_tkagg {w : World} {M : Nat → Prop} {β : Nat → Value} {a : Tk} {v : Value} (h : RepA w M β (.imm (.agg (tkIV a))) v) : v = .agg #[.int .i64 a.f0, .string a.f1, .int .i64 a.f2, .int .i64 a.f3] := by
  rw [RepA, Rep] at h
  obtain ⟨vs, rfl, _, h⟩ := h
  have : tkIV a = [Value.int .i64 a.f0, .string a.f1, .int .i64 a.f2, .int .i64 a.f3].map .lit := rfl
  rw [this] at h
  have e := repL_lits_eq h
  congr 1
  apply Array.ext'
  exact e
theorem opT_tkeq {o : Oper} {vals : Operand → Option AV} {op : BinOp} {u : TypeId} {x y : Operand} {a b : Tk} {q : Bool} (ho : o.op = .binOp op 34 x y u) (hop : (op = .eql ∧ q = eqTk a b) ∨ (op = .neq ∧ q = !(eqTk a b))) (hx : vals x = some (.imm (.agg (tkIV a)))) (hy : vals y = some (.imm (.agg (tkIV b)))) :
    OpT Tryd.prog o vals (fun _ => none) (.imm (.lit (.bool q))) (fun _ => none) :=
  OpT.pure fun w M β ρ hv => by
    have h1 := rep_tkagg (hv x (by simp [ho, Op.operands]) _ hx)
    have h2 := rep_tkagg (hv y (by simp [ho, Op.operands]) _ hy)
    refine ⟨.bool q, ?_, by rw [RepA, Rep]; exact ⟨rfl, rfl⟩⟩
    have hg : ∀ op, (eqGuard op 34 x y (.agg #[.int .i64 a.f0, .string a.f1, .int .i64 a.f2, .int .i64 a.f3]) (.agg #[.int .i64 b.f0, .string b.f1, .int .i64 b.f2, .int .i64 b.f3])).run Tryd.prog w = .ok () w := fun op => by
      unfold eqGuard
      cases op <;> simp [Sem.run_bind, run_program, tk_guard]
    have he : ∀ w, (Op.equal 34 (.agg #[.int .i64 a.f0, .string a.f1, .int .i64 a.f2, .int .i64 a.f3]) (.agg #[.int .i64 b.f0, .string b.f1, .int .i64 b.f2, .int .i64 b.f3])).run Tryd.prog w = .ok (eqTk a b) w := fun w => eqTk_run 9998 w a b
    unfold execOp
    rcases hop with ⟨rfl, rfl⟩ | ⟨rfl, rfl⟩
    · simp only [ho, h1, h2, Sem.run_bind, hg, Result.andThen_ok, binOp, he, Sem.run_pure]
    · simp only [ho, h1, h2, Sem.run_bind, hg, Result.andThen_ok, binOp, he, Sem.run_pure]
section
variable {keep : List Nat} {N : Nat} {ops : Array Oper} {K : List Foot → SF → Prop} {o : Oper} {rest : List Oper} {ks : List Foot} {s : List (Nat × AV)} {m : Mem} {d : Nat}
theorem aops_tkne {u : TypeId} {x y : Operand} {a b : Tk} (ho : o.op = .binOp .neq 34 x y u) (hw : wantedA ops o (S.f ⟨s, m⟩) = some true) (hd : o.dst = some d) (hN : d < N) (hx : (S.f ⟨s, m⟩).ev x = some (.imm (.agg (tkIV a)))) (hy : (S.f ⟨s, m⟩).ev y = some (.imm (.agg (tkIV b))))
    (k1 : a ≠ b → AOps Tryd.prog keep N ops K rest (kNo :: ks) (S.f ⟨(d, .imm (.lit (.bool true))) :: s, m⟩)) (k2 : a = b → AOps Tryd.prog keep N ops K rest (kNo :: ks) (S.f ⟨(d, .imm (.lit (.bool false))) :: s, m⟩)) : AOps Tryd.prog keep N ops K (o :: rest) ks (S.f ⟨s, m⟩) := by
  refine aops_of hw hd hN (opT_tkeq ho (.inr ⟨rfl, rfl⟩) hx hy) ?_
  cases h : eqTk a b with
  | true => exact k2 ((eqTk_iff a b).1 h)
  | false => exact k1 (fun e => by rw [(eqTk_iff a b).2 e] at h; cases h)
end
theorem tks_get (l : List Tk) (j : Nat) (h : j < l.length) : ((l.flatMap tkIV).drop (j * 4)).take 4 = tkIV l[j] := by
  induction l generalizing j with
  | nil => simp at h
  | cons t l ih =>
    cases j with
    | zero => rfl
    | succ j =>
      rw [List.flatMap_cons, show (j + 1) * 4 = 4 + j * 4 by omega, ← List.drop_drop]
      have : (tkIV t ++ l.flatMap tkIV).drop 4 = l.flatMap tkIV := rfl
      rw [this, ih j (by simpa using h)]
      rfl
end Go.Proofs.YtdeingogdblddaaDoor.Ab
namespace Go.Proofs.YtdeingogdblddaaDoor.Ab
set_option linter.unusedVariables false
set_option linter.unusedSimpArgs false
open Go.RowKit Go.Lib Go.Proofs.YtdeingogdblddaaDoorW.PrintWords Go.Proofs.YtdeingogdblddaaDoorW.PrintLast Go.Proofs.YtdeingogdblddaaDoorW.PrintMore Go.Proofs.YtdeingogdblddaaDoor.RP Go.Proofs.YtdeingogdblddaaDoor.RW Go.Proofs.YtdeingogdblddaaDoor.PAll
attribute [local irreducible] AWP AOps AExit AThen ABlock ANoGoto FeetOk
theorem min_nat (n K : Nat) : (if (K : Int) < (n : Int) then (K : Int) else (n : Int)) = ((min n K : Nat) : Int) := by split <;> omega
def fewP (K : Nat) (s : ByteArray) : ByteArray := s.extract 0 (min s.size K)
theorem fewP_size (K : Nat) (s : ByteArray) : (fewP K s).size ≤ K := by unfold fewP; rw [ByteArray.size_extract]; omega
set_option maxHeartbeats 4000000 in
set_option maxRecDepth 10000 in
theorem few_a (s : ByteArray) : ACalls Tryd.prog 14 [.imm (.lit (.string s))] [] (.imm (.lit (.string (fewP 300 s)))) [] := by
  refine acalls_plain Tryd.func14 rfl rfl (Nat.le_of_ble_eq_true rfl) rfl ?_
  repeat' (first | refine aops_nil ?_ | (refine aops_one ?_; first | refine aops_quiet tabOk rfl rfl rfl (Nat.le_of_ble_eq_true rfl) rfl ?_ | refine aops_skip rfl rfl (Nat.le_of_ble_eq_true rfl) ?_ | (refine aops_cmp rfl rfl rfl (Nat.le_of_ble_eq_true rfl) rfl rfl rfl (fun hq => ?_) (fun hq => ?_) <;> (first | (simp only [decide_eq_true_eq, decide_eq_false_iff_not, beq_iff_eq, beq_eq_false_iff_ne, bne_iff_ne, bne_eq_false_iff_eq, Bool.not_eq_true', Bool.not_eq_false'] at hq; first | (exfalso; omega) | skip) | skip))| refine aops_min rfl rfl rfl (Nat.le_of_ble_eq_true rfl) rfl rfl (min_nat s.size 300) ?_ | refine aops_cut tabOk rfl rfl rfl (Nat.le_of_ble_eq_true rfl) rfl rfl rfl rfl (by omega) (by omega) rfl ?_ | refine aops_inc rfl rfl rfl (Nat.le_of_ble_eq_true rfl) rfl rfl (by omega) ?_ | refine aops_add rfl rfl rfl (Nat.le_of_ble_eq_true rfl) rfl rfl rfl (by omega) (by omega) ?_ | refine aops_sub rfl rfl rfl (Nat.le_of_ble_eq_true rfl) rfl rfl rfl (by omega) (by omega) ?_ | refine aops_list tabOk rfl rfl rfl (Nat.le_of_ble_eq_true rfl) rfl rfl rfl rfl rfl rfl rfl rfl rfl ?_ | refine aops_pure tabOk rfl rfl (Nat.le_of_ble_eq_true rfl) rfl ?_ | refine aops_alloc tabOk rfl rfl rfl (Nat.le_of_ble_eq_true rfl) rfl rfl rfl rfl rfl rfl ?_ | refine aops_loadm tabOk rfl rfl rfl (Nat.le_of_ble_eq_true rfl) rfl rfl rfl rfl ?_ | refine aops_storem tabOk rfl rfl rfl rfl rfl rfl rfl rfl rfl rfl rfl ?_ | refine aops_index tabOk rfl rfl rfl (Nat.le_of_ble_eq_true rfl) rfl rfl rfl rfl (by first | assumption | omega) ?_ | refine aops_index0 tabOk rfl rfl rfl (Nat.le_of_ble_eq_true rfl) rfl rfl rfl rfl (by first | rfl | omega) (by first | omega | simp) ?_ | refine aops_load1 tabOk rfl rfl rfl (Nat.le_of_ble_eq_true rfl) rfl rfl rfl (by assumption) ?_ | refine aops_load1 tabOk rfl rfl rfl (Nat.le_of_ble_eq_true rfl) rfl rfl rfl (ivs_get _ _ (by first | assumption | omega)) ?_ | refine aops_inc rfl rfl rfl (Nat.le_of_ble_eq_true rfl) rfl rfl (by omega) ?_ | ((fail_if_success (refine aops_lit (b := true) rfl rfl rfl ?_)); (fail_if_success (refine aops_lit (b := false) rfl rfl rfl ?_)); refine aops_guard rfl rfl rfl (fun hq => ?_) (fun hq => ?_) <;> first | subst hq | (first | (simp only [decide_eq_true_eq, decide_eq_false_iff_not, beq_iff_eq, beq_eq_false_iff_ne, bne_iff_ne, bne_eq_false_iff_eq, Bool.not_eq_true', Bool.not_eq_false'] at hq; first | (exfalso; omega) | skip) | skip)) | fail) | (refine awp_one ?_; first | refine awp_sreg ?_ | refine awp_seq ?_ | refine awp_region ?_ | refine awp_block ?_ | refine awp_ret ?_ | refine awp_exit ?_ | refine awp_skip ?_ | refine awp_cond (b := true) rfl (fun _ => ?_) (fun h => Bool.noConfusion h) | refine awp_cond (b := false) rfl (fun h => Bool.noConfusion h) (fun _ => ?_) | refine awp_scope ?_ | refine awp_label ?_ | refine awp_sdraw mixed (by kernel_rfl) ?_ | refine awp_region_draw mixed (by kernel_rfl) ?_ | (refine awp_cond rfl (fun hq => ?_) (fun hq => ?_) <;> first | subst hq | (first | (simp only [decide_eq_true_eq, decide_eq_false_iff_not, beq_iff_eq, beq_eq_false_iff_ne, bne_iff_ne, bne_eq_false_iff_eq, Bool.not_eq_true', Bool.not_eq_false'] at hq; first | (exfalso; omega) | skip) | skip)) | fail) | (refine then_one ?_; first | refine q_then ?_ | refine q_then_exit ?_ | refine q_then_ret ?_ | fail) | (refine block_one ?_; first | refine q_block ?_ | refine q_block_exit ?_ | refine q_block_pass (by decide) ?_ | refine q_block_ret ?_ | fail) | refine feet_one (feetOk_of (by kernel_rfl)) ?_ | fail)
  exact aexit_plain (by first | exact .inl rfl | exact .inr rfl) (results_1 rfl (resOk_tmp rfl)) rfl
set_option maxHeartbeats 4000000 in
set_option maxRecDepth 10000 in
theorem same_a (fa fb : Bool) (a b : List Tk) (ha : a.length ≤ 1000000) (hb : b.length ≤ 1000000) : ACalls Tryd.prog 50 [.imm (.sl fa a.length (a.flatMap tkIV)), .imm (.sl fb b.length (b.flatMap tkIV))] [] (.imm (.lit (.bool (decide (a = b))))) [] := by
  refine acalls_plain Tryd.func50 rfl rfl (Nat.le_of_ble_eq_true rfl) rfl ?_
  repeat' (first | refine aops_nil ?_ | (refine aops_one ?_; first | refine aops_quiet tabOk rfl rfl rfl (Nat.le_of_ble_eq_true rfl) rfl ?_ | refine aops_skip rfl rfl (Nat.le_of_ble_eq_true rfl) ?_ | (refine aops_cmp rfl rfl rfl (Nat.le_of_ble_eq_true rfl) rfl rfl rfl (fun hq => ?_) (fun hq => ?_) <;> (first | (simp only [decide_eq_true_eq, decide_eq_false_iff_not, beq_iff_eq, beq_eq_false_iff_ne, bne_iff_ne, bne_eq_false_iff_eq, Bool.not_eq_true', Bool.not_eq_false'] at hq; first | (exfalso; omega) | skip) | skip)) | refine aops_inc rfl rfl rfl (Nat.le_of_ble_eq_true rfl) rfl rfl (by omega) ?_ | refine aops_add rfl rfl rfl (Nat.le_of_ble_eq_true rfl) rfl rfl rfl (by omega) (by omega) ?_ | refine aops_sub rfl rfl rfl (Nat.le_of_ble_eq_true rfl) rfl rfl rfl (by omega) (by omega) ?_ | refine aops_list tabOk rfl rfl rfl (Nat.le_of_ble_eq_true rfl) rfl rfl rfl rfl rfl rfl rfl rfl rfl ?_ | refine aops_pure tabOk rfl rfl (Nat.le_of_ble_eq_true rfl) rfl ?_ | refine aops_alloc tabOk rfl rfl rfl (Nat.le_of_ble_eq_true rfl) rfl rfl rfl rfl rfl rfl ?_ | refine aops_loadm tabOk rfl rfl rfl (Nat.le_of_ble_eq_true rfl) rfl rfl rfl rfl ?_ | refine aops_storem tabOk rfl rfl rfl rfl rfl rfl rfl rfl rfl rfl rfl ?_ | refine aops_index tabOk rfl rfl rfl (Nat.le_of_ble_eq_true rfl) rfl rfl rfl rfl (by first | assumption | omega) ?_ | refine aops_index0 tabOk rfl rfl rfl (Nat.le_of_ble_eq_true rfl) rfl rfl rfl rfl (by first | rfl | omega) (by first | omega | simp) ?_ | refine aops_load1 tabOk rfl rfl rfl (Nat.le_of_ble_eq_true rfl) rfl rfl rfl (by assumption) ?_ | refine aops_load1 tabOk rfl rfl rfl (Nat.le_of_ble_eq_true rfl) rfl rfl rfl (ivs_get _ _ (by first | assumption | omega)) ?_ | refine aops_inc rfl rfl rfl (Nat.le_of_ble_eq_true rfl) rfl rfl (by omega) ?_ | ((fail_if_success (refine aops_lit (b := true) rfl rfl rfl ?_)); (fail_if_success (refine aops_lit (b := false) rfl rfl rfl ?_)); refine aops_guard rfl rfl rfl (fun hq => ?_) (fun hq => ?_) <;> first | subst hq | (first | (simp only [decide_eq_true_eq, decide_eq_false_iff_not, beq_iff_eq, beq_eq_false_iff_ne, bne_iff_ne, bne_eq_false_iff_eq, Bool.not_eq_true', Bool.not_eq_false'] at hq; first | (exfalso; omega) | skip) | skip)) | fail) | (refine awp_one ?_; first | refine awp_sreg ?_ | refine awp_seq ?_ | refine awp_region ?_ | refine awp_block ?_ | refine awp_ret ?_ | refine awp_exit ?_ | refine awp_skip ?_ | refine awp_cond (b := true) rfl (fun _ => ?_) (fun h => Bool.noConfusion h) | refine awp_cond (b := false) rfl (fun h => Bool.noConfusion h) (fun _ => ?_) | refine awp_scope ?_ | refine awp_label ?_ | refine awp_sdraw mixed (by kernel_rfl) ?_ | refine awp_region_draw mixed (by kernel_rfl) ?_ | (refine awp_cond rfl (fun hq => ?_) (fun hq => ?_) <;> first | subst hq | (first | (simp only [decide_eq_true_eq, decide_eq_false_iff_not, beq_iff_eq, beq_eq_false_iff_ne, bne_iff_ne, bne_eq_false_iff_eq, Bool.not_eq_true', Bool.not_eq_false'] at hq; first | (exfalso; omega) | skip) | skip)) | fail) | (refine then_one ?_; first | refine q_then ?_ | refine q_then_exit ?_ | refine q_then_ret ?_ | fail) | (refine block_one ?_; first | refine q_block ?_ | refine q_block_exit ?_ | refine q_block_pass (by decide) ?_ | refine q_block_ret ?_ | fail) | refine feet_one (feetOk_of (by kernel_rfl)) ?_ | fail)
  · refine aexit_eq (by first | exact .inl rfl | exact .inr rfl) (results_1 rfl (resOk_tmp rfl)) rfl ?_; exact bool_eq (decide_eq_false (fun e => by subst e; omega)).symm
  · have hl : a.length = b.length := by omega
    refine awp_loop (ι := {j : Nat // j ≤ a.length ∧ a.take j = b.take j}) (fun j => S.f ⟨[(5, .imm (.lit (.int .i64 (j.1 : Int)))), (0, .imm (.sl fa a.length (a.flatMap tkIV))), (1, .imm (.sl fb b.length (b.flatMap tkIV)))], []⟩) (fun j => a.length - j.1) ⟨0, Nat.zero_le _, rfl⟩ (le_of (by repeat' first | exact trivial | refine ⟨rfl, ?_⟩) (by repeat' first | exact trivial | refine ⟨rfl, ?_⟩)) ?_
    rintro ⟨j, hj, hok⟩
    dsimp only
    by_cases hlt : j < a.length
    · have hltb : j < b.length := by omega
      repeat' (first | refine aops_nil ?_ | (refine aops_one ?_; first | refine aops_quiet tabOk rfl rfl rfl (Nat.le_of_ble_eq_true rfl) rfl ?_ | refine aops_skip rfl rfl (Nat.le_of_ble_eq_true rfl) ?_ | (refine aops_cmp rfl rfl rfl (Nat.le_of_ble_eq_true rfl) rfl rfl rfl (fun hq => ?_) (fun hq => ?_) <;> (first | (simp only [decide_eq_true_eq, decide_eq_false_iff_not, beq_iff_eq, beq_eq_false_iff_ne, bne_iff_ne, bne_eq_false_iff_eq, Bool.not_eq_true', Bool.not_eq_false'] at hq; first | (exfalso; omega) | skip) | skip))| refine aops_loadr tabOk rfl rfl rfl (Nat.le_of_ble_eq_true rfl) rfl rfl rfl (tks_get a j hlt) rfl ?_ | refine aops_loadr tabOk rfl rfl rfl (Nat.le_of_ble_eq_true rfl) rfl rfl rfl (tks_get b j hltb) rfl ?_ | refine aops_tkne rfl rfl rfl (Nat.le_of_ble_eq_true rfl) rfl rfl (fun hq => ?_) (fun hq => ?_) | refine aops_inc rfl rfl rfl (Nat.le_of_ble_eq_true rfl) rfl rfl (by omega) ?_ | refine aops_add rfl rfl rfl (Nat.le_of_ble_eq_true rfl) rfl rfl rfl (by omega) (by omega) ?_ | refine aops_sub rfl rfl rfl (Nat.le_of_ble_eq_true rfl) rfl rfl rfl (by omega) (by omega) ?_ | refine aops_list tabOk rfl rfl rfl (Nat.le_of_ble_eq_true rfl) rfl rfl rfl rfl rfl rfl rfl rfl rfl ?_ | refine aops_pure tabOk rfl rfl (Nat.le_of_ble_eq_true rfl) rfl ?_ | refine aops_alloc tabOk rfl rfl rfl (Nat.le_of_ble_eq_true rfl) rfl rfl rfl rfl rfl rfl ?_ | refine aops_loadm tabOk rfl rfl rfl (Nat.le_of_ble_eq_true rfl) rfl rfl rfl rfl ?_ | refine aops_storem tabOk rfl rfl rfl rfl rfl rfl rfl rfl rfl rfl rfl ?_ | refine aops_index tabOk rfl rfl rfl (Nat.le_of_ble_eq_true rfl) rfl rfl rfl rfl (by first | assumption | omega) ?_ | refine aops_index0 tabOk rfl rfl rfl (Nat.le_of_ble_eq_true rfl) rfl rfl rfl rfl (by first | rfl | omega) (by first | omega | simp) ?_ | refine aops_load1 tabOk rfl rfl rfl (Nat.le_of_ble_eq_true rfl) rfl rfl rfl (by assumption) ?_ | refine aops_load1 tabOk rfl rfl rfl (Nat.le_of_ble_eq_true rfl) rfl rfl rfl (ivs_get _ _ (by first | assumption | omega)) ?_ | refine aops_inc rfl rfl rfl (Nat.le_of_ble_eq_true rfl) rfl rfl (by omega) ?_ | ((fail_if_success (refine aops_lit (b := true) rfl rfl rfl ?_)); (fail_if_success (refine aops_lit (b := false) rfl rfl rfl ?_)); refine aops_guard rfl rfl rfl (fun hq => ?_) (fun hq => ?_) <;> first | subst hq | (first | (simp only [decide_eq_true_eq, decide_eq_false_iff_not, beq_iff_eq, beq_eq_false_iff_ne, bne_iff_ne, bne_eq_false_iff_eq, Bool.not_eq_true', Bool.not_eq_false'] at hq; first | (exfalso; omega) | skip) | skip)) | fail) | (refine awp_one ?_; first | refine awp_sreg ?_ | refine awp_seq ?_ | refine awp_region ?_ | refine awp_block ?_ | refine awp_ret ?_ | refine awp_exit ?_ | refine awp_skip ?_ | refine awp_cond (b := true) rfl (fun _ => ?_) (fun h => Bool.noConfusion h) | refine awp_cond (b := false) rfl (fun h => Bool.noConfusion h) (fun _ => ?_) | refine awp_scope ?_ | refine awp_label ?_ | refine awp_sdraw mixed (by kernel_rfl) ?_ | refine awp_region_draw mixed (by kernel_rfl) ?_ | (refine awp_cond rfl (fun hq => ?_) (fun hq => ?_) <;> first | subst hq | (first | (simp only [decide_eq_true_eq, decide_eq_false_iff_not, beq_iff_eq, beq_eq_false_iff_ne, bne_iff_ne, bne_eq_false_iff_eq, Bool.not_eq_true', Bool.not_eq_false'] at hq; first | (exfalso; omega) | skip) | skip)) | fail) | (refine then_one ?_; first | refine q_then ?_ | refine q_then_exit ?_ | refine q_then_ret ?_ | fail) | (refine block_one ?_; first | refine q_block ?_ | refine q_block_exit ?_ | refine q_block_pass (by decide) ?_ | refine q_block_ret ?_ | fail) | refine feet_one (feetOk_of (by kernel_rfl)) ?_ | fail)
      all_goals first
        | (have hq : a[j] ≠ b[j] := by assumption
           refine aexit_eq (by first | exact .inl rfl | exact .inr rfl) (results_1 rfl (resOk_tmp rfl)) rfl ?_; exact bool_eq (decide_eq_false (fun e => hq (by subst e; rfl))).symm)
        | (have hq : a[j] = b[j] := by assumption
           exact ⟨⟨j + 1, hlt, by rw [List.take_succ_eq_append_getElem hlt, List.take_succ_eq_append_getElem hltb, hok, hq]⟩, (by show a.length - (j + 1) < a.length - j; omega), (le_of (by repeat' first | exact trivial | refine ⟨rfl, ?_⟩) (by repeat' first | exact trivial | refine ⟨rfl, ?_⟩))⟩)
    · repeat' (first | refine aops_nil ?_ | (refine aops_one ?_; first | refine aops_quiet tabOk rfl rfl rfl (Nat.le_of_ble_eq_true rfl) rfl ?_ | refine aops_skip rfl rfl (Nat.le_of_ble_eq_true rfl) ?_ | (refine aops_cmp rfl rfl rfl (Nat.le_of_ble_eq_true rfl) rfl rfl rfl (fun hq => ?_) (fun hq => ?_) <;> (first | (simp only [decide_eq_true_eq, decide_eq_false_iff_not, beq_iff_eq, beq_eq_false_iff_ne, bne_iff_ne, bne_eq_false_iff_eq, Bool.not_eq_true', Bool.not_eq_false'] at hq; first | (exfalso; omega) | skip) | skip)) | refine aops_inc rfl rfl rfl (Nat.le_of_ble_eq_true rfl) rfl rfl (by omega) ?_ | refine aops_add rfl rfl rfl (Nat.le_of_ble_eq_true rfl) rfl rfl rfl (by omega) (by omega) ?_ | refine aops_sub rfl rfl rfl (Nat.le_of_ble_eq_true rfl) rfl rfl rfl (by omega) (by omega) ?_ | refine aops_list tabOk rfl rfl rfl (Nat.le_of_ble_eq_true rfl) rfl rfl rfl rfl rfl rfl rfl rfl rfl ?_ | refine aops_pure tabOk rfl rfl (Nat.le_of_ble_eq_true rfl) rfl ?_ | refine aops_alloc tabOk rfl rfl rfl (Nat.le_of_ble_eq_true rfl) rfl rfl rfl rfl rfl rfl ?_ | refine aops_loadm tabOk rfl rfl rfl (Nat.le_of_ble_eq_true rfl) rfl rfl rfl rfl ?_ | refine aops_storem tabOk rfl rfl rfl rfl rfl rfl rfl rfl rfl rfl rfl ?_ | refine aops_index tabOk rfl rfl rfl (Nat.le_of_ble_eq_true rfl) rfl rfl rfl rfl (by first | assumption | omega) ?_ | refine aops_index0 tabOk rfl rfl rfl (Nat.le_of_ble_eq_true rfl) rfl rfl rfl rfl (by first | rfl | omega) (by first | omega | simp) ?_ | refine aops_load1 tabOk rfl rfl rfl (Nat.le_of_ble_eq_true rfl) rfl rfl rfl (by assumption) ?_ | refine aops_load1 tabOk rfl rfl rfl (Nat.le_of_ble_eq_true rfl) rfl rfl rfl (ivs_get _ _ (by first | assumption | omega)) ?_ | refine aops_inc rfl rfl rfl (Nat.le_of_ble_eq_true rfl) rfl rfl (by omega) ?_ | ((fail_if_success (refine aops_lit (b := true) rfl rfl rfl ?_)); (fail_if_success (refine aops_lit (b := false) rfl rfl rfl ?_)); refine aops_guard rfl rfl rfl (fun hq => ?_) (fun hq => ?_) <;> first | subst hq | (first | (simp only [decide_eq_true_eq, decide_eq_false_iff_not, beq_iff_eq, beq_eq_false_iff_ne, bne_iff_ne, bne_eq_false_iff_eq, Bool.not_eq_true', Bool.not_eq_false'] at hq; first | (exfalso; omega) | skip) | skip)) | fail) | (refine awp_one ?_; first | refine awp_sreg ?_ | refine awp_seq ?_ | refine awp_region ?_ | refine awp_block ?_ | refine awp_ret ?_ | refine awp_exit ?_ | refine awp_skip ?_ | refine awp_cond (b := true) rfl (fun _ => ?_) (fun h => Bool.noConfusion h) | refine awp_cond (b := false) rfl (fun h => Bool.noConfusion h) (fun _ => ?_) | refine awp_scope ?_ | refine awp_label ?_ | refine awp_sdraw mixed (by kernel_rfl) ?_ | refine awp_region_draw mixed (by kernel_rfl) ?_ | (refine awp_cond rfl (fun hq => ?_) (fun hq => ?_) <;> first | subst hq | (first | (simp only [decide_eq_true_eq, decide_eq_false_iff_not, beq_iff_eq, beq_eq_false_iff_ne, bne_iff_ne, bne_eq_false_iff_eq, Bool.not_eq_true', Bool.not_eq_false'] at hq; first | (exfalso; omega) | skip) | skip)) | fail) | (refine then_one ?_; first | refine q_then ?_ | refine q_then_exit ?_ | refine q_then_ret ?_ | fail) | (refine block_one ?_; first | refine q_block ?_ | refine q_block_exit ?_ | refine q_block_pass (by decide) ?_ | refine q_block_ret ?_ | fail) | refine feet_one (feetOk_of (by kernel_rfl)) ?_ | fail)
      all_goals (refine aexit_eq (by first | exact .inl rfl | exact .inr rfl) (results_1 rfl (resOk_tmp rfl)) rfl ?_; refine bool_eq (decide_eq_true ?_).symm; have e : j = a.length := by omega
                 rw [e, List.take_length, hl, List.take_length] at hok; first | done | exact hok)
abbrev exS : ByteArray := ⟨#[97, 46, 98, 61, 62, 126, 48, 55]⟩
def exL : List Tk := [⟨1, ⟨#[97, 46, 98]⟩, 0, 0⟩, ⟨3, ⟨#[61, 62]⟩, 0, 3⟩, ⟨2, ⟨#[126, 55]⟩, -7, 5⟩]
theorem ex_lex : lexB exS = (exL, 0, 0) := by decide +kernel
set_option maxHeartbeats 4000000 in
set_option maxRecDepth 10000 in
theorem works_a : ACalls Tryd.prog 18 [] [] (.imm (.lit (.bool true))) [] := by
  have hL := lex_a exS (by decide)
  rw [show lexIV exS = .tup [.sl false 3 (exL.flatMap tkIV), .lit (.int .i64 0), .lit (.int .i64 0)] from by unfold lexIV; rw [ex_lex]; rfl] at hL
  have hS := same_a false true exL exL (by decide) (by decide)
  rw [decide_eq_true (rfl : exL = exL)] at hS
  refine acalls_plain Tryd.func18 rfl rfl (Nat.le_of_ble_eq_true rfl) rfl ?_
  repeat' (first | refine aops_nil ?_ | (refine aops_one ?_; first | refine aops_quiet tabOk rfl rfl rfl (Nat.le_of_ble_eq_true rfl) rfl ?_ | refine aops_skip rfl rfl (Nat.le_of_ble_eq_true rfl) ?_ | (refine aops_cmp rfl rfl rfl (Nat.le_of_ble_eq_true rfl) rfl rfl rfl (fun hq => ?_) (fun hq => ?_) <;> (first | (simp only [decide_eq_true_eq, decide_eq_false_iff_not, beq_iff_eq, beq_eq_false_iff_ne, bne_iff_ne, bne_eq_false_iff_eq, Bool.not_eq_true', Bool.not_eq_false'] at hq; first | (exfalso; omega) | skip) | skip))| refine aops_call rfl rfl (Nat.le_of_ble_eq_true rfl) rfl rfl rfl rfl (hL) ?_ | refine aops_call rfl rfl (Nat.le_of_ble_eq_true rfl) rfl rfl rfl rfl (hS) ?_ | refine aops_inc rfl rfl rfl (Nat.le_of_ble_eq_true rfl) rfl rfl (by omega) ?_ | refine aops_add rfl rfl rfl (Nat.le_of_ble_eq_true rfl) rfl rfl rfl (by omega) (by omega) ?_ | refine aops_sub rfl rfl rfl (Nat.le_of_ble_eq_true rfl) rfl rfl rfl (by omega) (by omega) ?_ | refine aops_list tabOk rfl rfl rfl (Nat.le_of_ble_eq_true rfl) rfl rfl rfl rfl rfl rfl rfl rfl rfl ?_ | refine aops_pure tabOk rfl rfl (Nat.le_of_ble_eq_true rfl) rfl ?_ | refine aops_alloc tabOk rfl rfl rfl (Nat.le_of_ble_eq_true rfl) rfl rfl rfl rfl rfl rfl ?_ | refine aops_loadm tabOk rfl rfl rfl (Nat.le_of_ble_eq_true rfl) rfl rfl rfl rfl ?_ | refine aops_storem tabOk rfl rfl rfl rfl rfl rfl rfl rfl rfl rfl rfl ?_ | refine aops_index tabOk rfl rfl rfl (Nat.le_of_ble_eq_true rfl) rfl rfl rfl rfl (by first | assumption | omega) ?_ | refine aops_index0 tabOk rfl rfl rfl (Nat.le_of_ble_eq_true rfl) rfl rfl rfl rfl (by first | rfl | omega) (by first | omega | simp) ?_ | refine aops_load1 tabOk rfl rfl rfl (Nat.le_of_ble_eq_true rfl) rfl rfl rfl (by assumption) ?_ | refine aops_load1 tabOk rfl rfl rfl (Nat.le_of_ble_eq_true rfl) rfl rfl rfl (ivs_get _ _ (by first | assumption | omega)) ?_ | refine aops_inc rfl rfl rfl (Nat.le_of_ble_eq_true rfl) rfl rfl (by omega) ?_ | ((fail_if_success (refine aops_lit (b := true) rfl rfl rfl ?_)); (fail_if_success (refine aops_lit (b := false) rfl rfl rfl ?_)); refine aops_guard rfl rfl rfl (fun hq => ?_) (fun hq => ?_) <;> first | subst hq | (first | (simp only [decide_eq_true_eq, decide_eq_false_iff_not, beq_iff_eq, beq_eq_false_iff_ne, bne_iff_ne, bne_eq_false_iff_eq, Bool.not_eq_true', Bool.not_eq_false'] at hq; first | (exfalso; omega) | skip) | skip)) | fail) | (refine awp_one ?_; first | refine awp_sreg ?_ | refine awp_seq ?_ | refine awp_region ?_ | refine awp_block ?_ | refine awp_ret ?_ | refine awp_exit ?_ | refine awp_skip ?_ | refine awp_cond (b := true) rfl (fun _ => ?_) (fun h => Bool.noConfusion h) | refine awp_cond (b := false) rfl (fun h => Bool.noConfusion h) (fun _ => ?_) | refine awp_scope ?_ | refine awp_label ?_ | refine awp_sdraw mixed (by kernel_rfl) ?_ | refine awp_region_draw mixed (by kernel_rfl) ?_ | (refine awp_cond rfl (fun hq => ?_) (fun hq => ?_) <;> first | subst hq | (first | (simp only [decide_eq_true_eq, decide_eq_false_iff_not, beq_iff_eq, beq_eq_false_iff_ne, bne_iff_ne, bne_eq_false_iff_eq, Bool.not_eq_true', Bool.not_eq_false'] at hq; first | (exfalso; omega) | skip) | skip)) | fail) | (refine then_one ?_; first | refine q_then ?_ | refine q_then_exit ?_ | refine q_then_ret ?_ | fail) | (refine block_one ?_; first | refine q_block ?_ | refine q_block_exit ?_ | refine q_block_pass (by decide) ?_ | refine q_block_ret ?_ | fail) | refine feet_one (feetOk_of (by kernel_rfl)) ?_ | fail)
  exact aexit_plain (by first | exact .inl rfl | exact .inr rfl) (results_1 rfl (resOk_tmp rfl)) rfl
theorem fits_s {xs : List IV} (h : FitsAll [.string] xs) : ∃ s, xs = [.lit (.string s)] ∧ s.size ≤ 140737488351232 := by
  cases h with
  | cons h1 h2 =>
    cases h2
    cases h1 with
    | string s hs => exact ⟨s, rfl, hs⟩
end Go.Proofs.YtdeingogdblddaaDoor.Ab
namespace Go.Proofs.YtdeingogdblddaaDoor.Ab
set_option linter.unusedVariables false
set_option linter.unusedSimpArgs false
open Go.RowKit Go.Lib Go.Proofs.YtdeingogdblddaaDoorW.PrintWords Go.Proofs.YtdeingogdblddaaDoorW.PrintLast Go.Proofs.YtdeingogdblddaaDoorW.PrintMore Go.Proofs.YtdeingogdblddaaDoor.RP Go.Proofs.YtdeingogdblddaaDoor.RW Go.Proofs.YtdeingogdblddaaDoor.PAll
attribute [local irreducible] AWP AOps AExit AThen ABlock ANoGoto FeetOk
theorem ck_range (s : ByteArray) : ∀ (f pos : Nat), pos ≤ s.size → 0 ≤ (ck s f pos).1 ∧ (ck s f pos).1 ≤ s.size
  | 0, pos, h => by rw [show ck s 0 pos = (0, 0) from rfl]; exact ⟨by simp, by simp⟩
  | f + 1, pos, h => by
    by_cases hp : pos < s.size
    · by_cases hb : badR (Utf8.decode s pos).1
      · rw [ck_bad hp hb]; exact ⟨by simp, by dsimp only; omega⟩
      · rw [ck_on hp hb]; exact ck_range s f _ (w_le s pos hp)
    · rw [ck_end hp]; exact ⟨by simp, by simp⟩
theorem checkP_range (s : ByteArray) : 0 ≤ (checkP s).1 ∧ (checkP s).1 ≤ s.size := by
  unfold checkP
  split
  · exact ⟨by simp, by simp⟩
  · exact ck_range s s.size 0 (Nat.zero_le _)
theorem lexB_bad (s : ByteArray) (hs : s.size ≤ 16384) (h : (lexB s).2.2 ≠ 0) : (lexB s).1 = [] ∧ 0 ≤ (lexB s).2.1 ∧ (lexB s).2.1 ≤ s.size := by
  rcases lexB_any s hs with ⟨l, h1, rfl, h3⟩ | ⟨h1, h2⟩
  · cases hl : lex l with
    | some A =>
      rw [hl] at h3
      have h3' : lexB (enc l) = _ := h3
      rw [h3'] at h; exact absurd rfl h
    | none =>
      rw [hl] at h3
      obtain ⟨k, hk, h3'⟩ := h3
      rw [h3']; exact ⟨rfl, by simp, by dsimp only; omega⟩
  · rw [h2]; exact ⟨rfl, checkP_range s⟩
def tkOf (S : Nat) (p : Tk × List Int) : Tk := setAt p.1 ((S - (enc p.2).size : Nat) : Int)
theorem lexB_ok (s : ByteArray) (hs : s.size ≤ 16384) (h : (lexB s).2.2 = 0) : ∃ l A, TextL l ∧ s = enc l ∧ lex l = some A ∧ lexB s = (A.map (tkOf s.size), 0, 0) := by
  rcases lexB_any s hs with ⟨l, h1, rfl, h3⟩ | ⟨h1, h2⟩
  · cases hl : lex l with
    | some A =>
      rw [hl] at h3
      exact ⟨l, A, h1, rfl, hl, h3⟩
    | none =>
      rw [hl] at h3
      obtain ⟨k, hk, h3'⟩ := h3
      rw [h3'] at h; cases h
  · rw [h2] at h; exact absurd h h1
theorem lexB_of (l : List Int) (A : List (Tk × List Int)) (h : TextL l) (hz : (enc l).size ≤ 16384) (hl : lex l = some A) : lexB (enc l) = (A.map (tkOf (enc l).size), 0, 0) := by
  have := lexB_enc l h hz
  rw [hl] at this
  exact this
theorem places (s : ByteArray) (hs : s.size ≤ 16384) (h : (lexB s).2.2 = 0) (j : Nat) (hj : j < (lexB s).1.length) :
    ∃ (k n : Int) (tx : ByteArray) (a : Nat) (C : List Tk), (lexB s).1[j] = ⟨k, tx, n, (a : Int)⟩ ∧ a < s.size ∧ lexB (s.extract a s.size) = (⟨k, tx, n, 0⟩ :: C, 0, 0) ∧ ∀ (i : Nat) (hi : i < (lexB s).1.length), i + 1 = j → (lexB s).1[i].f3 < (a : Int) := by
  obtain ⟨l, A, h1, rfl, h2, h3⟩ := lexB_ok s hs h
  have hA : (lexB (enc l)).1 = A.map (tkOf (enc l).size) := by rw [h3]
  have hjA : j < A.length := by rw [hA, List.length_map] at hj; exact hj
  have key : ∀ i (hi : i < A.length), lex A[i].2 = some (A[i] :: A.drop (i + 1)) ∧ A[i].2 ≠ [] ∧ ∃ pre, l = pre ++ A[i].2 := fun i hi => by
    refine lex_part l.length l A (Nat.le_refl _) h2 (A.take i) A[i] (A.drop (i + 1)) ?_
    rw [← List.drop_eq_getElem_cons hi, List.take_append_drop]
  obtain ⟨k1, k2, pre, k3⟩ := key j hjA
  have hg := h1.good
  have hsub : TextL A[j].2 := fun r hr => h1 r (by rw [k3]; exact List.mem_append_right _ hr)
  have hsz : (enc l).size = (enc pre).size + (enc A[j].2).size := by rw [← enc_app_size, ← k3]
  have hpos : 0 < (enc A[j].2).size := by
    rcases Nat.eq_zero_or_pos (enc A[j].2).size with h0 | h0
    · exact absurd ((enc_nil_iff _ hsub.good).1 h0) k2
    · exact h0
  have hex : (enc l).extract (enc pre).size (enc l).size = enc A[j].2 := by
    have := ext_post pre A[j].2
    rw [← k3] at this
    exact this
  have hget : (lexB (enc l)).1[j] = tkOf (enc l).size A[j] := by simp only [hA, List.getElem_map]
  have h4 := lexB_of A[j].2 _ hsub (by omega) k1
  refine ⟨A[j].1.f0, A[j].1.f2, A[j].1.f1, (enc pre).size, (A.drop (j + 1)).map (tkOf (enc A[j].2).size), ?_, by omega, ?_, fun i hi hij => ?_⟩
  · rw [hget]; unfold tkOf setAt; congr 2; omega
  · rw [hex, h4, List.map_cons]
    unfold tkOf setAt
    rw [Nat.sub_self]; rfl
  · have hiA : i < A.length := by omega
    obtain ⟨i1, i2, _⟩ := key i hiA
    have hgi : (lexB (enc l)).1[i] = tkOf (enc l).size A[i] := by simp only [hA, List.getElem_map]
    have hmem : A[j] ∈ A.drop (i + 1) := by
      rw [List.mem_iff_getElem]
      exact ⟨0, by rw [List.length_drop]; omega, by rw [List.getElem_drop]; congr 1⟩
    obtain ⟨_, h6⟩ := lex_head (l := l) i1 i2
    obtain ⟨y, hy, hy2⟩ := h6 _ hmem
    have hsi : (enc A[i].2).size = (enc y).size + (enc A[j].2).size := by rw [← enc_app_size, ← hy2]
    have hyg : RP.Good y := fun r hr => hg r (by
      obtain ⟨_, _, pre2, e2⟩ := key i hiA
      rw [e2, hy2]; exact List.mem_append_right _ (List.mem_append_left _ hr))
    have hyp : 0 < (enc y).size := by
      rcases Nat.eq_zero_or_pos (enc y).size with h0 | h0
      · exact absurd ((enc_nil_iff _ hyg).1 h0) hy
      · exact h0
    rw [hgi]
    show (((enc l).size - (enc A[i].2).size : Nat) : Int) < _
    obtain ⟨_, _, pre2, e2⟩ := key i hiA
    have hs2 : (enc l).size = (enc pre2).size + (enc A[i].2).size := by rw [← enc_app_size, ← e2]
    omega
end Go.Proofs.YtdeingogdblddaaDoor.Ab
namespace Go.Proofs.YtdeingogdblddaaDoor.Ab
set_option linter.unusedVariables false
set_option linter.unusedSimpArgs false
open Go.RowKit Go.Lib Go.Proofs.YtdeingogdblddaaDoorW.PrintWords Go.Proofs.YtdeingogdblddaaDoorW.PrintLast Go.Proofs.YtdeingogdblddaaDoorW.PrintMore Go.Proofs.YtdeingogdblddaaDoor.RP Go.Proofs.YtdeingogdblddaaDoor.RW Go.Proofs.YtdeingogdblddaaDoor.PAll
attribute [local irreducible] AWP AOps AExit AThen ABlock ANoGoto FeetOk
def bare (t : Tk) : Tk := ⟨t.f0, t.f1, t.f2, 0⟩
end Go.Proofs.YtdeingogdblddaaDoor.Ab
namespace Go.Proofs.YtdeingogdblddaaDoor.Ab
set_option linter.unusedVariables false
set_option linter.unusedSimpArgs false
open Go.RowKit Go.Lib Go.Proofs.YtdeingogdblddaaDoorW.PrintWords Go.Proofs.YtdeingogdblddaaDoorW.PrintLast Go.Proofs.YtdeingogdblddaaDoorW.PrintMore Go.Proofs.YtdeingogdblddaaDoor.RP Go.Proofs.YtdeingogdblddaaDoor.RW Go.Proofs.YtdeingogdblddaaDoor.PAll
/-- Texts, one behind the other, a separator between. -/
def joinS (sep : ByteArray) (l : List ByteArray) : ByteArray := ⟨(Lib.join (l.map (·.data.toList)) sep.data.toList).toArray⟩
theorem joinS_size (sep : ByteArray) : ∀ (l : List ByteArray), (joinS sep l).size ≤ (l.map fun s => s.size + sep.size).sum := by
  have key : ∀ l : List (List UInt8), (Lib.join l sep.data.toList).length ≤ (l.map fun s => s.length + sep.size).sum := by
    intro l
    induction l with
    | nil => simp [Lib.join, List.intercalate]
    | cons x l ih =>
      cases l with
      | nil => simp [Lib.join, List.intercalate]
      | cons y l =>
        have h1 : Lib.join (x :: y :: l) sep.data.toList = x ++ (sep.data.toList ++ Lib.join (y :: l) sep.data.toList) := by
          simp [Lib.join, List.intercalate]
        rw [h1, List.length_append, List.length_append, ba_size, List.map_cons, List.sum_cons]
        omega
  intro l
  have h := key (l.map (·.data.toList))
  rw [List.map_map] at h
  have e : ((fun s : List UInt8 => s.length + sep.size) ∘ fun s : ByteArray => s.data.toList) = fun s : ByteArray => s.size + sep.size := by
    funext s
    show s.data.toList.length + sep.size = _
    rw [ba_size]
  rw [e] at h
  have e2 : (joinS sep l).size = (Lib.join (l.map (·.data.toList)) sep.data.toList).length := by rw [← ba_size]; rfl
  rw [e2]
  exact h
theorem joinS_a (f : Bool) (l : List ByteArray) (sep : ByteArray) (hl : l.length ≤ 1000000) (hs : (joinS sep l).size ≤ 140737488355328) : ACalls Tryd.prog 57 [.imm (.sl f l.length (strs l)), .imm (.lit (.string sep))] [] (.imm (.lit (.string (joinS sep l)))) [] :=
  acalls_of (args := [.sl f l.length (strs l), .lit (.string sep)]) (r := .lit (.string (joinS sep l))) ⟨_, Tryd.func57, rfl, rfl⟩ (fun w M vs ha hv => by
    obtain ⟨v, us, rfl, h1, h2⟩ := repL_cons hv
    obtain ⟨v2, us, rfl, h3, h4⟩ := repL_cons h2
    rw [rep_lit h3, repL_nil h4]
    obtain ⟨a, cap, rfl, hc, hn, h⟩ := rep_strs h1
    have hj : (Lib.join (l.map (·.data.toList)) sep.data.toList).length ≤ 140737488355328 := by
      have e2 : (joinS sep l).size = (Lib.join (l.map (·.data.toList)) sep.data.toList).length := by rw [← ba_size]; rfl
      rw [← e2]; exact hs
    rcases h with rfl | ⟨b, o, rfl, hb, hcells⟩
    · refine (Tryd.strings_Join_none a cap sep w).mono fun e w' ⟨he, hw⟩ => ⟨_, he, ?_, ?_⟩
      · rw [hw]; exact Below.refl _ _
      · exact rep_mk_lit rfl
    · refine (Tryd.strings_Join b o cap l sep w hcells hb (by omega) hc hj).mono fun e w' ⟨he, hw⟩ => ⟨_, he, hw, ?_⟩
      exact rep_mk_lit rfl)
end Go.Proofs.YtdeingogdblddaaDoor.Ab
namespace Go.Proofs.YtdeingogdblddaaDoor.Ab
set_option linter.unusedVariables false
set_option linter.unusedSimpArgs false
open Go.RowKit Go.Lib Go.Proofs.YtdeingogdblddaaDoorW.PrintWords Go.Proofs.YtdeingogdblddaaDoorW.PrintLast Go.Proofs.YtdeingogdblddaaDoorW.PrintMore Go.Proofs.YtdeingogdblddaaDoor.RP Go.Proofs.YtdeingogdblddaaDoor.RW Go.Proofs.YtdeingogdblddaaDoor.PAll
attribute [local irreducible] AWP AOps AExit AThen ABlock ANoGoto FeetOk
def okTk (t : Tk) : Bool := decide ((lexB t.f1).2.2 = 0 ∧ (lexB t.f1).1 = [setAt t 0])
abbrev blankB : ByteArray := ⟨#[32]⟩
def showP (l : List Tk) : ByteArray × Int := if l.all okTk = true then (joinS blankB (l.map (·.f1)), 0) else (⟨#[]⟩, 2)
theorem join_bound (l : List ByteArray) (K : Nat) (h : ∀ s ∈ l, s.size ≤ K) : (l.map fun s => s.size + blankB.size).sum ≤ l.length * (K + 1) := by
  have e : blankB.size = 1 := rfl
  induction l with
  | nil => simp
  | cons x l ih =>
    have h1 := h x List.mem_cons_self
    have h2 := ih (fun s hs => h s (List.mem_cons_of_mem _ hs))
    rw [List.map_cons, List.sum_cons, List.length_cons, Nat.add_mul]
    omega
theorem strs_snoc2 (l : List ByteArray) (x : ByteArray) : strs (l ++ [x]) = strs l ++ [.lit (.string x)] := by simp [strs]
set_option maxHeartbeats 16000000 in
set_option maxRecDepth 10000 in
theorem show_a (f : Bool) (l : List Tk) (hl : l.length ≤ 1000) (hs : ∀ t ∈ l, t.f1.size ≤ 1000) : ACalls Tryd.prog 21 [.imm (.sl f l.length (l.flatMap tkIV))] [] (.imm (.tup [.lit (.string (showP l).1), .lit (.int .i64 (showP l).2)])) [] := by
  have hbad : ∀ j (h : j < l.length), okTk l[j] = false → showP l = (⟨#[]⟩, 2) := fun j h hb => by
    unfold showP
    rw [if_neg]
    rw [List.all_eq_true]
    intro hc
    have := hc _ (List.getElem_mem h)
    rw [hb] at this
    cases this
  have hgood : (∀ t ∈ l, okTk t = true) → showP l = (joinS blankB (l.map (·.f1)), 0) := fun h => by
    unfold showP
    rw [if_pos (List.all_eq_true.2 h)]
  generalize showP l = R at *
  refine acalls_made Tryd.func21 rfl rfl (Nat.le_of_ble_eq_true rfl) rfl ?_
  repeat' (first | refine aops_nil ?_ | (refine aops_one ?_; first | refine aops_quiet tabOk rfl rfl rfl (Nat.le_of_ble_eq_true rfl) rfl ?_ | refine aops_skip rfl rfl (Nat.le_of_ble_eq_true rfl) ?_ | (refine aops_cmp rfl rfl rfl (Nat.le_of_ble_eq_true rfl) rfl rfl rfl (fun hq => ?_) (fun hq => ?_) <;> (first | (simp only [decide_eq_true_eq, decide_eq_false_iff_not, beq_iff_eq, beq_eq_false_iff_ne, bne_iff_ne, bne_eq_false_iff_eq, Bool.not_eq_true', Bool.not_eq_false'] at hq; first | (exfalso; omega) | skip) | skip)) | refine aops_inc rfl rfl rfl (Nat.le_of_ble_eq_true rfl) rfl rfl (by omega) ?_ | refine aops_add rfl rfl rfl (Nat.le_of_ble_eq_true rfl) rfl rfl rfl (by omega) (by omega) ?_ | refine aops_sub rfl rfl rfl (Nat.le_of_ble_eq_true rfl) rfl rfl rfl (by omega) (by omega) ?_ | refine aops_list tabOk rfl rfl rfl (Nat.le_of_ble_eq_true rfl) rfl rfl rfl rfl rfl rfl rfl rfl rfl ?_ | refine aops_pure tabOk rfl rfl (Nat.le_of_ble_eq_true rfl) rfl ?_ | refine aops_alloc tabOk rfl rfl rfl (Nat.le_of_ble_eq_true rfl) rfl rfl rfl rfl rfl rfl ?_ | refine aops_loadm tabOk rfl rfl rfl (Nat.le_of_ble_eq_true rfl) rfl rfl rfl rfl ?_ | refine aops_storem tabOk rfl rfl rfl rfl rfl rfl rfl rfl rfl rfl rfl ?_ | refine aops_index tabOk rfl rfl rfl (Nat.le_of_ble_eq_true rfl) rfl rfl rfl rfl (by first | assumption | omega) ?_ | refine aops_index0 tabOk rfl rfl rfl (Nat.le_of_ble_eq_true rfl) rfl rfl rfl rfl (by first | rfl | omega) (by first | omega | simp) ?_ | refine aops_load1 tabOk rfl rfl rfl (Nat.le_of_ble_eq_true rfl) rfl rfl rfl (by assumption) ?_ | refine aops_load1 tabOk rfl rfl rfl (Nat.le_of_ble_eq_true rfl) rfl rfl rfl (ivs_get _ _ (by first | assumption | omega)) ?_ | refine aops_inc rfl rfl rfl (Nat.le_of_ble_eq_true rfl) rfl rfl (by omega) ?_ | ((fail_if_success (refine aops_lit (b := true) rfl rfl rfl ?_)); (fail_if_success (refine aops_lit (b := false) rfl rfl rfl ?_)); refine aops_guard rfl rfl rfl (fun hq => ?_) (fun hq => ?_) <;> first | subst hq | (first | (simp only [decide_eq_true_eq, decide_eq_false_iff_not, beq_iff_eq, beq_eq_false_iff_ne, bne_iff_ne, bne_eq_false_iff_eq, Bool.not_eq_true', Bool.not_eq_false'] at hq; first | (exfalso; omega) | skip) | skip)) | fail) | (refine awp_one ?_; first | refine awp_sreg ?_ | refine awp_seq ?_ | refine awp_region ?_ | refine awp_block ?_ | refine awp_ret ?_ | refine awp_exit ?_ | refine awp_skip ?_ | refine awp_cond (b := true) rfl (fun _ => ?_) (fun h => Bool.noConfusion h) | refine awp_cond (b := false) rfl (fun h => Bool.noConfusion h) (fun _ => ?_) | refine awp_scope ?_ | refine awp_label ?_ | refine awp_sdraw mixed (by kernel_rfl) ?_ | refine awp_region_draw mixed (by kernel_rfl) ?_ | (refine awp_cond rfl (fun hq => ?_) (fun hq => ?_) <;> first | subst hq | (first | (simp only [decide_eq_true_eq, decide_eq_false_iff_not, beq_iff_eq, beq_eq_false_iff_ne, bne_iff_ne, bne_eq_false_iff_eq, Bool.not_eq_true', Bool.not_eq_false'] at hq; first | (exfalso; omega) | skip) | skip)) | fail) | (refine then_one ?_; first | refine q_then ?_ | refine q_then_exit ?_ | refine q_then_ret ?_ | fail) | (refine block_one ?_; first | refine q_block ?_ | refine q_block_exit ?_ | refine q_block_pass (by decide) ?_ | refine q_block_ret ?_ | fail) | refine feet_one (feetOk_of (by kernel_rfl)) ?_ | fail)
  refine awp_imp (imp_nil (t := 4) 500 9 1 rfl (by simp) rfl rfl) ?_
  refine awp_loop (ι := {j : Nat // j ≤ l.length ∧ ∀ t ∈ l.take j, okTk t = true}) (fun j => S.f ⟨[(12, .imm (.lit (.int .i64 (j.1 : Int)))), (11, .imm (.lit (.int .i64 (l.length : Int)))), (10, .imm (.sl f l.length (l.flatMap tkIV))), (4, .ref 500 j.1)], [(500, .arr 9 1 j.1 (strs ((l.take j.1).map (·.f1))))]⟩) (fun j => l.length - j.1) ⟨0, Nat.zero_le _, fun t h => by rw [List.take_zero] at h; cases h⟩ (le_of (by repeat' first | exact trivial | refine ⟨rfl, ?_⟩) (by repeat' first | exact trivial | refine ⟨rfl, ?_⟩)) ?_
  rintro ⟨j, hj, hall⟩
  dsimp only
  by_cases hlt : j < l.length
  · have hrow := tks_get l j hlt
    have hmem := List.getElem_mem hlt
    have hsz := hs _ hmem
    have hb := hbad j hlt
    have hD : strs ((l.take (j + 1)).map (·.f1)) = strs ((l.take j).map (·.f1)) ++ [.lit (.string l[j].f1)] := by
      rw [List.take_succ_eq_append_getElem hlt, List.map_append, List.map_singleton, strs_snoc2]
    have hall2 : okTk l[j] = true → ∀ t ∈ l.take (j + 1), okTk t = true := fun h t ht2 => by
      rw [List.take_succ_eq_append_getElem hlt, List.mem_append] at ht2
      rcases ht2 with ht2 | ht2
      · exact hall t ht2
      · rw [List.mem_singleton.1 ht2]; exact h
    generalize l[j] = tk at *
    obtain ⟨k, tx, n, p⟩ := tk
    change _ = [IV.lit (.int .i64 k), .lit (.string tx), .lit (.int .i64 n), .lit (.int .i64 p)] at hrow
    dsimp only at hsz hD
    have c1 := lex_a tx (by omega)
    unfold lexIV tksIV at c1
    unfold okTk setAt at hb hall2
    dsimp only at hb hall2
    generalize lexB tx = Q at *
    obtain ⟨L, Q1, e⟩ := Q
    dsimp only at *
    by_cases he : e = 0
    · subst he
      rcases L with _ | ⟨q, _ | ⟨q2, r⟩⟩
      · have e1 := hb (by simp)
        subst e1
        simp only [List.length_nil, List.flatMap_nil] at c1
        repeat' (first | refine aops_nil ?_ | (refine aops_one ?_; first | refine aops_quiet tabOk rfl rfl rfl (Nat.le_of_ble_eq_true rfl) rfl ?_ | refine aops_skip rfl rfl (Nat.le_of_ble_eq_true rfl) ?_ | (refine aops_cmp rfl rfl rfl (Nat.le_of_ble_eq_true rfl) rfl rfl rfl (fun hq => ?_) (fun hq => ?_) <;> (first | (simp only [decide_eq_true_eq, decide_eq_false_iff_not, beq_iff_eq, beq_eq_false_iff_ne, bne_iff_ne, bne_eq_false_iff_eq, Bool.not_eq_true', Bool.not_eq_false'] at hq; first | (exfalso; omega) | skip) | skip))| refine aops_loadr tabOk rfl rfl rfl (Nat.le_of_ble_eq_true rfl) rfl rfl rfl hrow rfl ?_ | refine aops_call rfl rfl (Nat.le_of_ble_eq_true rfl) rfl rfl rfl rfl (c1) ?_ | refine aops_inc rfl rfl rfl (Nat.le_of_ble_eq_true rfl) rfl rfl (by omega) ?_ | refine aops_add rfl rfl rfl (Nat.le_of_ble_eq_true rfl) rfl rfl rfl (by omega) (by omega) ?_ | refine aops_sub rfl rfl rfl (Nat.le_of_ble_eq_true rfl) rfl rfl rfl (by omega) (by omega) ?_ | refine aops_list tabOk rfl rfl rfl (Nat.le_of_ble_eq_true rfl) rfl rfl rfl rfl rfl rfl rfl rfl rfl ?_ | refine aops_pure tabOk rfl rfl (Nat.le_of_ble_eq_true rfl) rfl ?_ | refine aops_alloc tabOk rfl rfl rfl (Nat.le_of_ble_eq_true rfl) rfl rfl rfl rfl rfl rfl ?_ | refine aops_loadm tabOk rfl rfl rfl (Nat.le_of_ble_eq_true rfl) rfl rfl rfl rfl ?_ | refine aops_storem tabOk rfl rfl rfl rfl rfl rfl rfl rfl rfl rfl rfl ?_ | refine aops_index tabOk rfl rfl rfl (Nat.le_of_ble_eq_true rfl) rfl rfl rfl rfl (by first | assumption | omega) ?_ | refine aops_index0 tabOk rfl rfl rfl (Nat.le_of_ble_eq_true rfl) rfl rfl rfl rfl (by first | rfl | omega) (by first | omega | simp) ?_ | refine aops_load1 tabOk rfl rfl rfl (Nat.le_of_ble_eq_true rfl) rfl rfl rfl (by assumption) ?_ | refine aops_load1 tabOk rfl rfl rfl (Nat.le_of_ble_eq_true rfl) rfl rfl rfl (ivs_get _ _ (by first | assumption | omega)) ?_ | refine aops_inc rfl rfl rfl (Nat.le_of_ble_eq_true rfl) rfl rfl (by omega) ?_ | ((fail_if_success (refine aops_lit (b := true) rfl rfl rfl ?_)); (fail_if_success (refine aops_lit (b := false) rfl rfl rfl ?_)); refine aops_guard rfl rfl rfl (fun hq => ?_) (fun hq => ?_) <;> first | subst hq | (first | (simp only [decide_eq_true_eq, decide_eq_false_iff_not, beq_iff_eq, beq_eq_false_iff_ne, bne_iff_ne, bne_eq_false_iff_eq, Bool.not_eq_true', Bool.not_eq_false'] at hq; first | (exfalso; omega) | skip) | skip)) | fail) | (refine awp_one ?_; first | refine awp_sreg ?_ | refine awp_seq ?_ | refine awp_region ?_ | refine awp_block ?_ | refine awp_ret ?_ | refine awp_exit ?_ | refine awp_skip ?_ | refine awp_cond (b := true) rfl (fun _ => ?_) (fun h => Bool.noConfusion h) | refine awp_cond (b := false) rfl (fun h => Bool.noConfusion h) (fun _ => ?_) | refine awp_scope ?_ | refine awp_label ?_ | refine awp_sdraw mixed (by kernel_rfl) ?_ | refine awp_region_draw mixed (by kernel_rfl) ?_ | (refine awp_cond rfl (fun hq => ?_) (fun hq => ?_) <;> first | subst hq | (first | (simp only [decide_eq_true_eq, decide_eq_false_iff_not, beq_iff_eq, beq_eq_false_iff_ne, bne_iff_ne, bne_eq_false_iff_eq, Bool.not_eq_true', Bool.not_eq_false'] at hq; first | (exfalso; omega) | skip) | skip)) | fail) | (refine then_one ?_; first | refine q_then ?_ | refine q_then_exit ?_ | refine q_then_ret ?_ | fail) | (refine block_one ?_; first | refine q_block ?_ | refine q_block_exit ?_ | refine q_block_pass (by decide) ?_ | refine q_block_ret ?_ | fail) | refine feet_one (feetOk_of (by kernel_rfl)) ?_ | fail)
        all_goals first
          | (refine iexit_same ?_; refine aexit_eq (by first | exact .inl rfl | exact .inr rfl) (results_2 rfl (resOk_tmp rfl) (resOk_tmp rfl)) rfl ?_; rfl)
          | exact absurd rfl (by assumption)
          | (exfalso; omega)
      · change ACalls _ _ _ _ (.imm (.tup [.sl false 1 (tkIV q), _, _])) _ at c1
        by_cases hq1 : q = ⟨k, tx, n, 0⟩
        · have h2 := hall2 (by rw [hq1]; simp)
          repeat' (first | refine aops_nil ?_ | (refine aops_one ?_; first | refine aops_quiet tabOk rfl rfl rfl (Nat.le_of_ble_eq_true rfl) rfl ?_ | refine aops_skip rfl rfl (Nat.le_of_ble_eq_true rfl) ?_ | (refine aops_cmp rfl rfl rfl (Nat.le_of_ble_eq_true rfl) rfl rfl rfl (fun hq => ?_) (fun hq => ?_) <;> (first | (simp only [decide_eq_true_eq, decide_eq_false_iff_not, beq_iff_eq, beq_eq_false_iff_ne, bne_iff_ne, bne_eq_false_iff_eq, Bool.not_eq_true', Bool.not_eq_false'] at hq; first | (exfalso; omega) | skip) | skip))| refine aops_loadr tabOk rfl rfl rfl (Nat.le_of_ble_eq_true rfl) rfl rfl rfl hrow rfl ?_ | refine aops_call rfl rfl (Nat.le_of_ble_eq_true rfl) rfl rfl rfl rfl (c1) ?_ | refine aops_tkne (a := q) (b := ⟨k, tx, n, 0⟩) rfl rfl rfl (Nat.le_of_ble_eq_true rfl) rfl rfl (fun hq => absurd hq1 hq) (fun hq => ?_) | refine aops_append tabOk rfl rfl rfl (Nat.le_of_ble_eq_true rfl) rfl rfl rfl rfl rfl rfl rfl (by first | omega | decide) rfl (by first | omega | (dsimp only; omega)) (by first | omega | (dsimp only; omega)) ?_ | refine aops_inc rfl rfl rfl (Nat.le_of_ble_eq_true rfl) rfl rfl (by omega) ?_ | refine aops_add rfl rfl rfl (Nat.le_of_ble_eq_true rfl) rfl rfl rfl (by omega) (by omega) ?_ | refine aops_sub rfl rfl rfl (Nat.le_of_ble_eq_true rfl) rfl rfl rfl (by omega) (by omega) ?_ | refine aops_list tabOk rfl rfl rfl (Nat.le_of_ble_eq_true rfl) rfl rfl rfl rfl rfl rfl rfl rfl rfl ?_ | refine aops_pure tabOk rfl rfl (Nat.le_of_ble_eq_true rfl) rfl ?_ | refine aops_alloc tabOk rfl rfl rfl (Nat.le_of_ble_eq_true rfl) rfl rfl rfl rfl rfl rfl ?_ | refine aops_loadm tabOk rfl rfl rfl (Nat.le_of_ble_eq_true rfl) rfl rfl rfl rfl ?_ | refine aops_storem tabOk rfl rfl rfl rfl rfl rfl rfl rfl rfl rfl rfl ?_ | refine aops_index tabOk rfl rfl rfl (Nat.le_of_ble_eq_true rfl) rfl rfl rfl rfl (by first | assumption | omega) ?_ | refine aops_index0 tabOk rfl rfl rfl (Nat.le_of_ble_eq_true rfl) rfl rfl rfl rfl (by first | rfl | omega) (by first | omega | simp) ?_ | refine aops_load1 tabOk rfl rfl rfl (Nat.le_of_ble_eq_true rfl) rfl rfl rfl (by assumption) ?_ | refine aops_load1 tabOk rfl rfl rfl (Nat.le_of_ble_eq_true rfl) rfl rfl rfl (ivs_get _ _ (by first | assumption | omega)) ?_ | refine aops_inc rfl rfl rfl (Nat.le_of_ble_eq_true rfl) rfl rfl (by omega) ?_ | ((fail_if_success (refine aops_lit (b := true) rfl rfl rfl ?_)); (fail_if_success (refine aops_lit (b := false) rfl rfl rfl ?_)); refine aops_guard rfl rfl rfl (fun hq => ?_) (fun hq => ?_) <;> first | subst hq | (first | (simp only [decide_eq_true_eq, decide_eq_false_iff_not, beq_iff_eq, beq_eq_false_iff_ne, bne_iff_ne, bne_eq_false_iff_eq, Bool.not_eq_true', Bool.not_eq_false'] at hq; first | (exfalso; omega) | skip) | skip)) | fail) | (refine awp_one ?_; first | refine awp_sreg ?_ | refine awp_seq ?_ | refine awp_region ?_ | refine awp_block ?_ | refine awp_ret ?_ | refine awp_exit ?_ | refine awp_skip ?_ | refine awp_cond (b := true) rfl (fun _ => ?_) (fun h => Bool.noConfusion h) | refine awp_cond (b := false) rfl (fun h => Bool.noConfusion h) (fun _ => ?_) | refine awp_scope ?_ | refine awp_label ?_ | refine awp_sdraw mixed (by kernel_rfl) ?_ | refine awp_region_draw mixed (by kernel_rfl) ?_ | (refine awp_cond rfl (fun hq => ?_) (fun hq => ?_) <;> first | subst hq | (first | (simp only [decide_eq_true_eq, decide_eq_false_iff_not, beq_iff_eq, beq_eq_false_iff_ne, bne_iff_ne, bne_eq_false_iff_eq, Bool.not_eq_true', Bool.not_eq_false'] at hq; first | (exfalso; omega) | skip) | skip)) | fail) | (refine then_one ?_; first | refine q_then ?_ | refine q_then_exit ?_ | refine q_then_ret ?_ | fail) | (refine block_one ?_; first | refine q_block ?_ | refine q_block_exit ?_ | refine q_block_pass (by decide) ?_ | refine q_block_ret ?_ | fail) | refine feet_one (feetOk_of (by kernel_rfl)) ?_ | fail)
          all_goals first
            | exact absurd rfl (by assumption)
            | (exfalso; omega)
            | (refine ⟨⟨j + 1, hlt, h2⟩, (by show l.length - (j + 1) < l.length - j; omega), ?_⟩; dsimp only; rw [hD]; exact (le_of (by repeat' first | exact trivial | refine ⟨rfl, ?_⟩) (by repeat' first | exact trivial | refine ⟨rfl, ?_⟩)))
        · have e1 := hb (by simp [hq1])
          subst e1
          repeat' (first | refine aops_nil ?_ | (refine aops_one ?_; first | refine aops_quiet tabOk rfl rfl rfl (Nat.le_of_ble_eq_true rfl) rfl ?_ | refine aops_skip rfl rfl (Nat.le_of_ble_eq_true rfl) ?_ | (refine aops_cmp rfl rfl rfl (Nat.le_of_ble_eq_true rfl) rfl rfl rfl (fun hq => ?_) (fun hq => ?_) <;> (first | (simp only [decide_eq_true_eq, decide_eq_false_iff_not, beq_iff_eq, beq_eq_false_iff_ne, bne_iff_ne, bne_eq_false_iff_eq, Bool.not_eq_true', Bool.not_eq_false'] at hq; first | (exfalso; omega) | skip) | skip))| refine aops_loadr tabOk rfl rfl rfl (Nat.le_of_ble_eq_true rfl) rfl rfl rfl hrow rfl ?_ | refine aops_call rfl rfl (Nat.le_of_ble_eq_true rfl) rfl rfl rfl rfl (c1) ?_ | refine aops_tkne (a := q) (b := ⟨k, tx, n, 0⟩) rfl rfl rfl (Nat.le_of_ble_eq_true rfl) rfl rfl (fun hq => ?_) (fun hq => absurd hq hq1) | refine aops_inc rfl rfl rfl (Nat.le_of_ble_eq_true rfl) rfl rfl (by omega) ?_ | refine aops_add rfl rfl rfl (Nat.le_of_ble_eq_true rfl) rfl rfl rfl (by omega) (by omega) ?_ | refine aops_sub rfl rfl rfl (Nat.le_of_ble_eq_true rfl) rfl rfl rfl (by omega) (by omega) ?_ | refine aops_list tabOk rfl rfl rfl (Nat.le_of_ble_eq_true rfl) rfl rfl rfl rfl rfl rfl rfl rfl rfl ?_ | refine aops_pure tabOk rfl rfl (Nat.le_of_ble_eq_true rfl) rfl ?_ | refine aops_alloc tabOk rfl rfl rfl (Nat.le_of_ble_eq_true rfl) rfl rfl rfl rfl rfl rfl ?_ | refine aops_loadm tabOk rfl rfl rfl (Nat.le_of_ble_eq_true rfl) rfl rfl rfl rfl ?_ | refine aops_storem tabOk rfl rfl rfl rfl rfl rfl rfl rfl rfl rfl rfl ?_ | refine aops_index tabOk rfl rfl rfl (Nat.le_of_ble_eq_true rfl) rfl rfl rfl rfl (by first | assumption | omega) ?_ | refine aops_index0 tabOk rfl rfl rfl (Nat.le_of_ble_eq_true rfl) rfl rfl rfl rfl (by first | rfl | omega) (by first | omega | simp) ?_ | refine aops_load1 tabOk rfl rfl rfl (Nat.le_of_ble_eq_true rfl) rfl rfl rfl (by assumption) ?_ | refine aops_load1 tabOk rfl rfl rfl (Nat.le_of_ble_eq_true rfl) rfl rfl rfl (ivs_get _ _ (by first | assumption | omega)) ?_ | refine aops_inc rfl rfl rfl (Nat.le_of_ble_eq_true rfl) rfl rfl (by omega) ?_ | ((fail_if_success (refine aops_lit (b := true) rfl rfl rfl ?_)); (fail_if_success (refine aops_lit (b := false) rfl rfl rfl ?_)); refine aops_guard rfl rfl rfl (fun hq => ?_) (fun hq => ?_) <;> first | subst hq | (first | (simp only [decide_eq_true_eq, decide_eq_false_iff_not, beq_iff_eq, beq_eq_false_iff_ne, bne_iff_ne, bne_eq_false_iff_eq, Bool.not_eq_true', Bool.not_eq_false'] at hq; first | (exfalso; omega) | skip) | skip)) | fail) | (refine awp_one ?_; first | refine awp_sreg ?_ | refine awp_seq ?_ | refine awp_region ?_ | refine awp_block ?_ | refine awp_ret ?_ | refine awp_exit ?_ | refine awp_skip ?_ | refine awp_cond (b := true) rfl (fun _ => ?_) (fun h => Bool.noConfusion h) | refine awp_cond (b := false) rfl (fun h => Bool.noConfusion h) (fun _ => ?_) | refine awp_scope ?_ | refine awp_label ?_ | refine awp_sdraw mixed (by kernel_rfl) ?_ | refine awp_region_draw mixed (by kernel_rfl) ?_ | (refine awp_cond rfl (fun hq => ?_) (fun hq => ?_) <;> first | subst hq | (first | (simp only [decide_eq_true_eq, decide_eq_false_iff_not, beq_iff_eq, beq_eq_false_iff_ne, bne_iff_ne, bne_eq_false_iff_eq, Bool.not_eq_true', Bool.not_eq_false'] at hq; first | (exfalso; omega) | skip) | skip)) | fail) | (refine then_one ?_; first | refine q_then ?_ | refine q_then_exit ?_ | refine q_then_ret ?_ | fail) | (refine block_one ?_; first | refine q_block ?_ | refine q_block_exit ?_ | refine q_block_pass (by decide) ?_ | refine q_block_ret ?_ | fail) | refine feet_one (feetOk_of (by kernel_rfl)) ?_ | fail)
          all_goals first
            | (refine iexit_same ?_; refine aexit_eq (by first | exact .inl rfl | exact .inr rfl) (results_2 rfl (resOk_tmp rfl) (resOk_tmp rfl)) rfl ?_; rfl)
            | exact absurd rfl (by assumption)
            | (exfalso; omega)
      · have e1 := hb (by simp)
        subst e1
        simp only [List.length_cons] at c1
        repeat' (first | refine aops_nil ?_ | (refine aops_one ?_; first | refine aops_quiet tabOk rfl rfl rfl (Nat.le_of_ble_eq_true rfl) rfl ?_ | refine aops_skip rfl rfl (Nat.le_of_ble_eq_true rfl) ?_ | (refine aops_cmp rfl rfl rfl (Nat.le_of_ble_eq_true rfl) rfl rfl rfl (fun hq => ?_) (fun hq => ?_) <;> (first | (simp only [decide_eq_true_eq, decide_eq_false_iff_not, beq_iff_eq, beq_eq_false_iff_ne, bne_iff_ne, bne_eq_false_iff_eq, Bool.not_eq_true', Bool.not_eq_false'] at hq; first | (exfalso; omega) | skip) | skip))| refine aops_loadr tabOk rfl rfl rfl (Nat.le_of_ble_eq_true rfl) rfl rfl rfl hrow rfl ?_ | refine aops_call rfl rfl (Nat.le_of_ble_eq_true rfl) rfl rfl rfl rfl (c1) ?_ | refine aops_inc rfl rfl rfl (Nat.le_of_ble_eq_true rfl) rfl rfl (by omega) ?_ | refine aops_add rfl rfl rfl (Nat.le_of_ble_eq_true rfl) rfl rfl rfl (by omega) (by omega) ?_ | refine aops_sub rfl rfl rfl (Nat.le_of_ble_eq_true rfl) rfl rfl rfl (by omega) (by omega) ?_ | refine aops_list tabOk rfl rfl rfl (Nat.le_of_ble_eq_true rfl) rfl rfl rfl rfl rfl rfl rfl rfl rfl ?_ | refine aops_pure tabOk rfl rfl (Nat.le_of_ble_eq_true rfl) rfl ?_ | refine aops_alloc tabOk rfl rfl rfl (Nat.le_of_ble_eq_true rfl) rfl rfl rfl rfl rfl rfl ?_ | refine aops_loadm tabOk rfl rfl rfl (Nat.le_of_ble_eq_true rfl) rfl rfl rfl rfl ?_ | refine aops_storem tabOk rfl rfl rfl rfl rfl rfl rfl rfl rfl rfl rfl ?_ | refine aops_index tabOk rfl rfl rfl (Nat.le_of_ble_eq_true rfl) rfl rfl rfl rfl (by first | assumption | omega) ?_ | refine aops_index0 tabOk rfl rfl rfl (Nat.le_of_ble_eq_true rfl) rfl rfl rfl rfl (by first | rfl | omega) (by first | omega | simp) ?_ | refine aops_load1 tabOk rfl rfl rfl (Nat.le_of_ble_eq_true rfl) rfl rfl rfl (by assumption) ?_ | refine aops_load1 tabOk rfl rfl rfl (Nat.le_of_ble_eq_true rfl) rfl rfl rfl (ivs_get _ _ (by first | assumption | omega)) ?_ | refine aops_inc rfl rfl rfl (Nat.le_of_ble_eq_true rfl) rfl rfl (by omega) ?_ | ((fail_if_success (refine aops_lit (b := true) rfl rfl rfl ?_)); (fail_if_success (refine aops_lit (b := false) rfl rfl rfl ?_)); refine aops_guard rfl rfl rfl (fun hq => ?_) (fun hq => ?_) <;> first | subst hq | (first | (simp only [decide_eq_true_eq, decide_eq_false_iff_not, beq_iff_eq, beq_eq_false_iff_ne, bne_iff_ne, bne_eq_false_iff_eq, Bool.not_eq_true', Bool.not_eq_false'] at hq; first | (exfalso; omega) | skip) | skip)) | fail) | (refine awp_one ?_; first | refine awp_sreg ?_ | refine awp_seq ?_ | refine awp_region ?_ | refine awp_block ?_ | refine awp_ret ?_ | refine awp_exit ?_ | refine awp_skip ?_ | refine awp_cond (b := true) rfl (fun _ => ?_) (fun h => Bool.noConfusion h) | refine awp_cond (b := false) rfl (fun h => Bool.noConfusion h) (fun _ => ?_) | refine awp_scope ?_ | refine awp_label ?_ | refine awp_sdraw mixed (by kernel_rfl) ?_ | refine awp_region_draw mixed (by kernel_rfl) ?_ | (refine awp_cond rfl (fun hq => ?_) (fun hq => ?_) <;> first | subst hq | (first | (simp only [decide_eq_true_eq, decide_eq_false_iff_not, beq_iff_eq, beq_eq_false_iff_ne, bne_iff_ne, bne_eq_false_iff_eq, Bool.not_eq_true', Bool.not_eq_false'] at hq; first | (exfalso; omega) | skip) | skip)) | fail) | (refine then_one ?_; first | refine q_then ?_ | refine q_then_exit ?_ | refine q_then_ret ?_ | fail) | (refine block_one ?_; first | refine q_block ?_ | refine q_block_exit ?_ | refine q_block_pass (by decide) ?_ | refine q_block_ret ?_ | fail) | refine feet_one (feetOk_of (by kernel_rfl)) ?_ | fail)
        all_goals first
          | (refine iexit_same ?_; refine aexit_eq (by first | exact .inl rfl | exact .inr rfl) (results_2 rfl (resOk_tmp rfl) (resOk_tmp rfl)) rfl ?_; rfl)
          | exact absurd rfl (by assumption)
          | (exfalso; omega)
    · have e1 := hb (by simp [he])
      subst e1
      repeat' (first | refine aops_nil ?_ | (refine aops_one ?_; first | refine aops_quiet tabOk rfl rfl rfl (Nat.le_of_ble_eq_true rfl) rfl ?_ | refine aops_skip rfl rfl (Nat.le_of_ble_eq_true rfl) ?_ | (refine aops_cmp rfl rfl rfl (Nat.le_of_ble_eq_true rfl) rfl rfl rfl (fun hq => ?_) (fun hq => ?_) <;> (first | (simp only [decide_eq_true_eq, decide_eq_false_iff_not, beq_iff_eq, beq_eq_false_iff_ne, bne_iff_ne, bne_eq_false_iff_eq, Bool.not_eq_true', Bool.not_eq_false'] at hq; first | (exfalso; omega) | skip) | skip))| refine aops_loadr tabOk rfl rfl rfl (Nat.le_of_ble_eq_true rfl) rfl rfl rfl hrow rfl ?_ | refine aops_call rfl rfl (Nat.le_of_ble_eq_true rfl) rfl rfl rfl rfl (c1) ?_ | refine aops_inc rfl rfl rfl (Nat.le_of_ble_eq_true rfl) rfl rfl (by omega) ?_ | refine aops_add rfl rfl rfl (Nat.le_of_ble_eq_true rfl) rfl rfl rfl (by omega) (by omega) ?_ | refine aops_sub rfl rfl rfl (Nat.le_of_ble_eq_true rfl) rfl rfl rfl (by omega) (by omega) ?_ | refine aops_list tabOk rfl rfl rfl (Nat.le_of_ble_eq_true rfl) rfl rfl rfl rfl rfl rfl rfl rfl rfl ?_ | refine aops_pure tabOk rfl rfl (Nat.le_of_ble_eq_true rfl) rfl ?_ | refine aops_alloc tabOk rfl rfl rfl (Nat.le_of_ble_eq_true rfl) rfl rfl rfl rfl rfl rfl ?_ | refine aops_loadm tabOk rfl rfl rfl (Nat.le_of_ble_eq_true rfl) rfl rfl rfl rfl ?_ | refine aops_storem tabOk rfl rfl rfl rfl rfl rfl rfl rfl rfl rfl rfl ?_ | refine aops_index tabOk rfl rfl rfl (Nat.le_of_ble_eq_true rfl) rfl rfl rfl rfl (by first | assumption | omega) ?_ | refine aops_index0 tabOk rfl rfl rfl (Nat.le_of_ble_eq_true rfl) rfl rfl rfl rfl (by first | rfl | omega) (by first | omega | simp) ?_ | refine aops_load1 tabOk rfl rfl rfl (Nat.le_of_ble_eq_true rfl) rfl rfl rfl (by assumption) ?_ | refine aops_load1 tabOk rfl rfl rfl (Nat.le_of_ble_eq_true rfl) rfl rfl rfl (ivs_get _ _ (by first | assumption | omega)) ?_ | refine aops_inc rfl rfl rfl (Nat.le_of_ble_eq_true rfl) rfl rfl (by omega) ?_ | ((fail_if_success (refine aops_lit (b := true) rfl rfl rfl ?_)); (fail_if_success (refine aops_lit (b := false) rfl rfl rfl ?_)); refine aops_guard rfl rfl rfl (fun hq => ?_) (fun hq => ?_) <;> first | subst hq | (first | (simp only [decide_eq_true_eq, decide_eq_false_iff_not, beq_iff_eq, beq_eq_false_iff_ne, bne_iff_ne, bne_eq_false_iff_eq, Bool.not_eq_true', Bool.not_eq_false'] at hq; first | (exfalso; omega) | skip) | skip)) | fail) | (refine awp_one ?_; first | refine awp_sreg ?_ | refine awp_seq ?_ | refine awp_region ?_ | refine awp_block ?_ | refine awp_ret ?_ | refine awp_exit ?_ | refine awp_skip ?_ | refine awp_cond (b := true) rfl (fun _ => ?_) (fun h => Bool.noConfusion h) | refine awp_cond (b := false) rfl (fun h => Bool.noConfusion h) (fun _ => ?_) | refine awp_scope ?_ | refine awp_label ?_ | refine awp_sdraw mixed (by kernel_rfl) ?_ | refine awp_region_draw mixed (by kernel_rfl) ?_ | (refine awp_cond rfl (fun hq => ?_) (fun hq => ?_) <;> first | subst hq | (first | (simp only [decide_eq_true_eq, decide_eq_false_iff_not, beq_iff_eq, beq_eq_false_iff_ne, bne_iff_ne, bne_eq_false_iff_eq, Bool.not_eq_true', Bool.not_eq_false'] at hq; first | (exfalso; omega) | skip) | skip)) | fail) | (refine then_one ?_; first | refine q_then ?_ | refine q_then_exit ?_ | refine q_then_ret ?_ | fail) | (refine block_one ?_; first | refine q_block ?_ | refine q_block_exit ?_ | refine q_block_pass (by decide) ?_ | refine q_block_ret ?_ | fail) | refine feet_one (feetOk_of (by kernel_rfl)) ?_ | fail)
      all_goals first
        | (refine iexit_same ?_; refine aexit_eq (by first | exact .inl rfl | exact .inr rfl) (results_2 rfl (resOk_tmp rfl) (resOk_tmp rfl)) rfl ?_; rfl)
        | exact absurd (by assumption) he
        | (exfalso; omega)
  · have ej : j = l.length := by omega
    subst ej
    rw [List.take_length] at hall ⊢
    have e1 := hgood hall
    subst e1
    have hL : (l.map (·.f1)).length = l.length := List.length_map ..
    have hz := join_bound (l.map (·.f1)) 1000 (fun s h => by obtain ⟨t, ht, rfl⟩ := List.mem_map.1 h; exact hs t ht)
    have hz2 := joinS_size blankB (l.map (·.f1))
    have c1 := joinS_a false (l.map (·.f1)) blankB (by omega) (by omega)
    generalize l.map (·.f1) = T at *
    refine awp_imp ((Imp.of_le (σ' := S.f ⟨[(4, .ref 500 l.length), (12, .imm (.lit (.int .i64 (l.length : Int)))), (11, .imm (.lit (.int .i64 (l.length : Int))))], [(500, .arr 9 1 l.length (strs T))]⟩) (le_of (by repeat' first | exact trivial | refine ⟨rfl, ?_⟩) (by repeat' first | exact trivial | refine ⟨rfl, ?_⟩))).trans (imp_freezeR (g := 500) rfl (by repeat' first | exact trivial | exact fun _ => rfl | refine ⟨?_, ?_⟩) (by repeat' first | exact trivial | exact fun _ => rfl | refine ⟨?_, ?_⟩))) ?_
    rw [← hL] at *
    repeat' (first | refine aops_nil ?_ | (refine aops_one ?_; first | refine aops_quiet tabOk rfl rfl rfl (Nat.le_of_ble_eq_true rfl) rfl ?_ | refine aops_skip rfl rfl (Nat.le_of_ble_eq_true rfl) ?_ | (refine aops_cmp rfl rfl rfl (Nat.le_of_ble_eq_true rfl) rfl rfl rfl (fun hq => ?_) (fun hq => ?_) <;> (first | (simp only [decide_eq_true_eq, decide_eq_false_iff_not, beq_iff_eq, beq_eq_false_iff_ne, bne_iff_ne, bne_eq_false_iff_eq, Bool.not_eq_true', Bool.not_eq_false'] at hq; first | (exfalso; omega) | skip) | skip))| refine aops_call rfl rfl (Nat.le_of_ble_eq_true rfl) rfl rfl rfl rfl (c1) ?_ | refine aops_inc rfl rfl rfl (Nat.le_of_ble_eq_true rfl) rfl rfl (by omega) ?_ | refine aops_add rfl rfl rfl (Nat.le_of_ble_eq_true rfl) rfl rfl rfl (by omega) (by omega) ?_ | refine aops_sub rfl rfl rfl (Nat.le_of_ble_eq_true rfl) rfl rfl rfl (by omega) (by omega) ?_ | refine aops_list tabOk rfl rfl rfl (Nat.le_of_ble_eq_true rfl) rfl rfl rfl rfl rfl rfl rfl rfl rfl ?_ | refine aops_pure tabOk rfl rfl (Nat.le_of_ble_eq_true rfl) rfl ?_ | refine aops_alloc tabOk rfl rfl rfl (Nat.le_of_ble_eq_true rfl) rfl rfl rfl rfl rfl rfl ?_ | refine aops_loadm tabOk rfl rfl rfl (Nat.le_of_ble_eq_true rfl) rfl rfl rfl rfl ?_ | refine aops_storem tabOk rfl rfl rfl rfl rfl rfl rfl rfl rfl rfl rfl ?_ | refine aops_index tabOk rfl rfl rfl (Nat.le_of_ble_eq_true rfl) rfl rfl rfl rfl (by first | assumption | omega) ?_ | refine aops_index0 tabOk rfl rfl rfl (Nat.le_of_ble_eq_true rfl) rfl rfl rfl rfl (by first | rfl | omega) (by first | omega | simp) ?_ | refine aops_load1 tabOk rfl rfl rfl (Nat.le_of_ble_eq_true rfl) rfl rfl rfl (by assumption) ?_ | refine aops_load1 tabOk rfl rfl rfl (Nat.le_of_ble_eq_true rfl) rfl rfl rfl (ivs_get _ _ (by first | assumption | omega)) ?_ | refine aops_inc rfl rfl rfl (Nat.le_of_ble_eq_true rfl) rfl rfl (by omega) ?_ | ((fail_if_success (refine aops_lit (b := true) rfl rfl rfl ?_)); (fail_if_success (refine aops_lit (b := false) rfl rfl rfl ?_)); refine aops_guard rfl rfl rfl (fun hq => ?_) (fun hq => ?_) <;> first | subst hq | (first | (simp only [decide_eq_true_eq, decide_eq_false_iff_not, beq_iff_eq, beq_eq_false_iff_ne, bne_iff_ne, bne_eq_false_iff_eq, Bool.not_eq_true', Bool.not_eq_false'] at hq; first | (exfalso; omega) | skip) | skip)) | fail) | (refine awp_one ?_; first | refine awp_sreg ?_ | refine awp_seq ?_ | refine awp_region ?_ | refine awp_block ?_ | refine awp_ret ?_ | refine awp_exit ?_ | refine awp_skip ?_ | refine awp_cond (b := true) rfl (fun _ => ?_) (fun h => Bool.noConfusion h) | refine awp_cond (b := false) rfl (fun h => Bool.noConfusion h) (fun _ => ?_) | refine awp_scope ?_ | refine awp_label ?_ | refine awp_sdraw mixed (by kernel_rfl) ?_ | refine awp_region_draw mixed (by kernel_rfl) ?_ | (refine awp_cond rfl (fun hq => ?_) (fun hq => ?_) <;> first | subst hq | (first | (simp only [decide_eq_true_eq, decide_eq_false_iff_not, beq_iff_eq, beq_eq_false_iff_ne, bne_iff_ne, bne_eq_false_iff_eq, Bool.not_eq_true', Bool.not_eq_false'] at hq; first | (exfalso; omega) | skip) | skip)) | fail) | (refine then_one ?_; first | refine q_then ?_ | refine q_then_exit ?_ | refine q_then_ret ?_ | fail) | (refine block_one ?_; first | refine q_block ?_ | refine q_block_exit ?_ | refine q_block_pass (by decide) ?_ | refine q_block_ret ?_ | fail) | refine feet_one (feetOk_of (by kernel_rfl)) ?_ | fail)
    all_goals first
      | (refine iexit_same ?_; refine aexit_eq (by first | exact .inl rfl | exact .inr rfl) (results_2 rfl (resOk_tmp rfl) (resOk_tmp rfl)) rfl ?_; rfl)
      | (exfalso; omega)
end Go.Proofs.YtdeingogdblddaaDoor.Ab
namespace Go.Proofs.YtdeingogdblddaaDoor.Ab
set_option linter.unusedVariables false
set_option linter.unusedSimpArgs false
open Go.RowKit Go.Lib Go.Proofs.YtdeingogdblddaaDoorW.PrintWords Go.Proofs.YtdeingogdblddaaDoorW.PrintLast Go.Proofs.YtdeingogdblddaaDoorW.PrintMore Go.Proofs.YtdeingogdblddaaDoor.RP Go.Proofs.YtdeingogdblddaaDoor.RW Go.Proofs.YtdeingogdblddaaDoor.PAll
theorem digL_short : ∀ (f m k : Nat), m < 10 ^ k → 1 ≤ k → (digL f m).length ≤ k
  | 0, _, _, _, _ => Nat.zero_le _
  | f + 1, m, k, h, hk => by
    rw [digL, List.length_cons]
    split
    · simp; omega
    · rename_i h0
      obtain ⟨k, rfl⟩ : ∃ k', k = k' + 1 := ⟨k - 1, by omega⟩
      rw [Nat.pow_succ] at h
      have hk1 : 1 ≤ k := by
        rcases Nat.eq_zero_or_pos k with e | e
        · subst e; omega
        · exact e
      have := digL_short f (m / 10) k (by omega) hk1
      omega
theorem nvR_pow : ∀ (ds : List Int) (v x : Int), (∀ r ∈ ds, digB r = true) → 0 ≤ v → nvR ds v = some x → 0 ≤ x ∧ x < (v + 1) * ((10 ^ ds.length : Nat) : Int)
  | [], v, x, _, h0, h => by simp [nvR] at h; simp; omega
  | r :: ds, v, x, hd, h0, h => by
    rw [nvR] at h
    have hr := dig_range (hd r List.mem_cons_self)
    split at h
    · cases h
    · have := nvR_pow ds _ x (fun y hy => hd y (List.mem_cons_of_mem _ hy)) (by omega) h
      refine ⟨this.1, Int.lt_of_lt_of_le this.2 ?_⟩
      rw [List.length_cons, Nat.pow_succ, Int.natCast_mul, ← Int.mul_assoc, Int.mul_comm ((v + 1) * _) _, ← Int.mul_assoc]
      refine Int.mul_le_mul_of_nonneg_right ?_ (Int.natCast_nonneg _)
      omega
theorem good_take {l a b : List Int} (h : RP.Good l) (e : l = a ++ b) : RP.Good a ∧ RP.Good b := ⟨fun r hr => h r (by rw [e]; exact List.mem_append_left _ hr), fun r hr => h r (by rw [e]; exact List.mem_append_right _ hr)⟩
theorem sgnV_eq (neg : Bool) (v : Int) (h0 : 0 ≤ v) (h1 : v ≤ 1073741824) : sgnV neg v = if neg then -v else v := by
  unfold sgnV
  have h2 : wrap64 (-v) = -v := w64 (by omega) (by omega)
  rw [h2]
theorem signP_size (n : Int) : (signP n).size ≤ 1 := by
  unfold signP
  split
  · exact Nat.le_refl 1
  · exact Nat.zero_le _
theorem signP_pos (n : Int) (h : 0 ≤ n) : (signP n).size = 0 := by
  unfold signP
  rw [if_neg (by omega)]
  rfl
theorem numP_size (v : Int) (k : Nat) (neg : Bool) (h0 : 0 ≤ v) (h1 : v ≤ 1073741824) (h : v < ((10 ^ k : Nat) : Int)) (hk : 1 ≤ k) : (numP (sgnV neg v)).size ≤ k + (if neg then 1 else 0) := by
  have h2 : v.natAbs < 10 ^ k := by
    generalize 10 ^ k = K at *
    omega
  have hl : (digL 20 v.natAbs).length ≤ k := digL_short 20 _ k h2 hk
  have e := sgnV_eq neg v h0 h1
  have hs1 := signP_size (sgnV neg v)
  have hs0 := signP_pos v h0
  clear h h1 h2
  unfold numP
  rw [ba_size_append, strOfNums_size, List.length_reverse]
  cases neg with
  | true =>
    rw [if_pos rfl] at e
    have e' := e
    rw [e'] at hs1 ⊢
    rw [Int.natAbs_neg]
    show _ ≤ k + 1
    generalize (signP (-v)).size = S at *
    omega
  | false =>
    rw [if_neg (by decide)] at e
    have e' := e
    rw [e']
    show _ ≤ k + 0
    omega
theorem numQ_short (l : List Int) (neg : Bool) (p : Tk × List Int) (hg : RP.Good l) (h : numQ l neg = some p) : p.1.f1.size + (enc p.2).size ≤ (enc l).size + (if neg then 1 else 0) := by
  have htd : l.takeWhile digB ++ l.dropWhile digB = l := List.takeWhile_append_dropWhile
  have hsz : (enc l).size = (enc (l.takeWhile digB)).size + (enc (l.dropWhile digB)).size := by rw [← enc_app_size, htd]
  have hgt := (good_take hg htd.symm).1
  have hln := enc_len _ hgt
  unfold numQ at h
  split at h
  · cases h
  · rename_i hc
    split at h
    · cases h
    · rename_i v hv
      cases h
      have hdig : ∀ r ∈ l.takeWhile digB, digB r = true := fun r hr => List.all_eq_true.1 List.all_takeWhile r hr
      have h1 := nvR_pow _ 0 v hdig (by omega) hv
      have h2 := nvR_range _ 0 v hdig (by omega) (by omega) hv
      have hne : 1 ≤ (l.takeWhile digB).length := by
        rcases hd : l.takeWhile digB with _ | ⟨x, y⟩
        · exact absurd (Or.inl hd) hc
        · simp
      have := numP_size v (l.takeWhile digB).length neg h2.1 h2.2 (by have := h1.2; simpa using this) hne
      dsimp only
      omega
theorem longR_short (l : List Int) (p : Tk × List Int) (h : longR l = some p) : p.1.f1.size + (enc p.2).size ≤ (enc l).size := by
  have htd : l.takeWhile innerB ++ l.dropWhile innerB = l := List.takeWhile_append_dropWhile
  unfold longR at h
  split at h
  · cases h
    have := congrArg (fun x => (enc x).size) htd
    try dsimp only at this ⊢
    rw [enc_app_size] at this
    omega
  · split at h
    · cases h
      obtain ⟨q, hq⟩ := lgR_pre (l.dropWhile innerB).length (l.dropWhile innerB) (nameR (l.takeWhile innerB))
      change _ = q ++ (lg _ _).1 at hq
      have he : l = (l.takeWhile innerB ++ q) ++ (lg (l.dropWhile innerB) (nameR (l.takeWhile innerB))).1 := by rw [List.append_assoc, ← hq, htd]
      have ht := take_pre he
      try dsimp only
      rw [ht]
      have := congrArg (fun x => (enc x).size) he
      try dsimp only at this
      rw [enc_app_size] at this
      omega
    · cases h
theorem sgR_short (l : List Int) (p : Tk × List Int) (h : sgR l = some p) : p.1.f1.size + (enc p.2).size ≤ (enc l).size := by
  unfold sgR at h
  cases hf : signsL.find? (fun x => decide (runesOf x <+: l)) with
  | none => rw [hf] at h; cases h
  | some x =>
    rw [hf] at h
    cases h
    have hx := List.mem_of_find?_eq_some hf
    have hp := List.find?_some hf
    obtain ⟨t, ht⟩ := of_decide_eq_true hp
    have := congrArg (fun x => (enc x).size) ht
    dsimp only at this ⊢
    rw [enc_app_size, enc_runesOf x (signs_low x hx)] at this
    rw [← ht, List.drop_left, ht]
    omega
theorem tok_short (l : List Int) (p : Tk × List Int) (hg : RP.Good l) (h : tokR l = some p) : p.1.f1.size + (enc p.2).size ≤ (enc l).size := by
  rcases l with _ | ⟨r, t⟩
  · cases h
  · rw [tokR_cons] at h
    split at h
    · exact longR_short _ p h
    · split at h
      · have := numQ_short _ false p hg h
        simpa using this
      · split at h
        · rename_i h126
          have := numQ_short _ true p (fun r hr => hg r (List.mem_cons_of_mem _ hr)) h
          rw [if_pos rfl] at this
          have hr := wd_pos r (hg r List.mem_cons_self)
          rw [enc_cons_size]
          omega
        · exact sgR_short _ p h
theorem lex_short : ∀ (n : Nat) (l : List Int) (A : List (Tk × List Int)), l.length ≤ n → RP.Good l → lex l = some A → (A.map fun p => p.1.f1.size).sum ≤ (enc l).size ∧ A.length ≤ l.length := by
  intro n
  induction n with
  | zero =>
    intro l A hn hg h
    have e : l = [] := List.eq_nil_of_length_eq_zero (by omega)
    subst e
    cases h
    exact ⟨Nat.zero_le _, Nat.le_refl _⟩
  | succ n ih =>
    intro l A hn hg h
    match l, hn, hg, h with
    | [], _, _, h => cases h; exact ⟨Nat.zero_le _, Nat.le_refl _⟩
    | r :: t, hn, hg, h =>
      rw [List.length_cons] at hn ⊢
      have hgt : RP.Good t := fun x hx => hg x (List.mem_cons_of_mem _ hx)
      by_cases c1 : classP r = 3
      · rw [lex_blank c1] at h
        have := ih t A (by omega) hgt h
        rw [enc_cons_size]
        omega
      · by_cases c2 : r = 40 ∧ t.head? = some 42
        · rw [lex_com c1 c2] at h
          cases hc : comR (r :: t) 0 with
          | none => rw [hc] at h; cases h
          | some u =>
            rw [hc] at h
            obtain ⟨hu, q, hq⟩ := comR_len _ _ _ hc
            rw [List.length_cons] at hu
            have := ih u A (by omega) (good_take hg hq).2 h
            rw [hq, enc_app_size]
            omega
        · rw [lex_tok c1 c2] at h
          cases ht : tokR (r :: t) with
          | none => rw [ht] at h; cases h
          | some z =>
            rw [ht] at h
            obtain ⟨hu, q, hq⟩ := tokR_len _ _ ht
            rw [List.length_cons] at hu
            have hz := tok_short _ z hg ht
            cases hL : lex z.2 with
            | none => simp only [hL, Option.map_none] at h; cases h
            | some L =>
              simp only [hL, Option.map_some, Option.some.injEq] at h
              have := ih z.2 L (by omega) (good_take hg hq).2 hL
              rw [← h, List.map_cons, List.sum_cons, List.length_cons]
              dsimp only
              omega
theorem joinS_enc : ∀ (l : List (List Int)), joinS blankB (l.map enc) = enc (joinR l)
  | [] => rfl
  | [x] => by
    apply ba_ext
    show Lib.join [(enc x).data.toList] blankB.data.toList = _
    simp [Lib.join, List.intercalate, joinR]
  | x :: y :: l => by
    have ih := congrArg (·.data.toList) (joinS_enc (y :: l))
    apply ba_ext
    rw [joinR, enc_append, ba_list]
    have e32 : enc (32 :: joinR (y :: l)) = blankB ++ enc (joinR (y :: l)) := rfl
    rw [e32, ba_list, ← ih]
    show Lib.join (((x :: y :: l).map enc).map (·.data.toList)) blankB.data.toList = (enc x).data.toList ++ (blankB.data.toList ++ Lib.join (((y :: l).map enc).map (·.data.toList)) blankB.data.toList)
    simp [Lib.join, List.intercalate]
theorem mem_le_sum {x : Nat} : ∀ {l : List Nat}, x ∈ l → x ≤ l.sum
  | y :: l, h => by
    rw [List.sum_cons]
    rcases List.mem_cons.1 h with rfl | h
    · omega
    · have := mem_le_sum h; omega
theorem back (s : ByteArray) (hs : s.size ≤ 300) (he : (lexB s).2.2 = 0) : (showP (lexB s).1).2 = 0 ∧ (lexB (showP (lexB s).1).1).2.2 = 0 ∧ (showP (lexB s).1).1.size ≤ 16384 ∧ (lexB (showP (lexB s).1).1).1.map (fun t => setAt t 0) = (lexB s).1.map (fun t => setAt t 0) ∧ (lexB s).1.length ≤ 300 ∧ ∀ t ∈ (lexB s).1, t.f1.size ≤ 300 := by
  obtain ⟨l, A, ht, rfl, hA, e⟩ := lexB_ok s (by omega) he
  have hg := ht.good
  have hsh := lex_short l.length l A (Nat.le_refl _) hg hA
  have hll := enc_len l hg
  have htx := lex_texts l A hA
  have goodT : ∀ tx : List Int, (∀ r ∈ tx, r ∈ l ∨ (48 ≤ r ∧ r ≤ 57) ∨ r = 126) → TextL tx := fun tx h r hr => by
    rcases h r hr with h | h | h
    · exact ht r h
    · exact ⟨⟨by omega, by omega, by omega⟩, by unfold badR; omega⟩
    · subst h; exact ⟨⟨by omega, by omega, by omega⟩, by unfold badR; omega⟩
  have hmem : ∀ p ∈ A, p.1.f1.size ≤ (A.map fun p => p.1.f1.size).sum := fun p hp => mem_le_sum (List.mem_map.2 ⟨p, hp, rfl⟩)
  have hok : ∀ p ∈ A, ∀ a : Int, okTk (setAt p.1 a) = true := fun p hp a => by
    obtain ⟨tx, x1, x2, x3, x4⟩ := htx p hp
    have hz := hmem p hp
    rw [x1] at hz
    have hb := lexB_of tx _ (goodT tx x3) (by omega) (lex_one tx p.1 x2)
    unfold okTk
    have e1 : (setAt p.1 a).f1 = enc tx := x1
    rw [e1, hb]
    refine decide_eq_true ⟨rfl, ?_⟩
    show [setAt p.1 (((enc tx).size - (enc tx).size : Nat) : Int)] = [setAt (setAt p.1 a) 0]
    rw [Nat.sub_self]
    rfl
  have hall : ∀ t ∈ A.map (tkOf (enc l).size), okTk t = true := fun t h => by
    obtain ⟨p, hp, rfl⟩ := List.mem_map.1 h
    exact hok p hp _
  have hshow : showP (A.map (tkOf (enc l).size)) = (joinS blankB ((A.map (tkOf (enc l).size)).map (·.f1)), 0) := by
    unfold showP
    rw [if_pos (List.all_eq_true.2 hall)]
  -- the texts' runes
  have hex : ∃ L : List (Tk × List Int), L.map (·.1) = A.map (·.1) ∧ (A.map (tkOf (enc l).size)).map (·.f1) = L.map (fun p => enc p.2) ∧ (∀ p ∈ L, tokR p.2 = some (p.1, [])) ∧ ∀ p ∈ L, ∀ r ∈ p.2, r ∈ l ∨ (48 ≤ r ∧ r ≤ 57) ∨ r = 126 := by
    clear hshow hall hok hmem hsh hA e
    induction A with
    | nil => exact ⟨[], rfl, rfl, by simp, by simp⟩
    | cons p A ih =>
      obtain ⟨L, g1, g2, g3, g4⟩ := ih (fun q hq => htx q (List.mem_cons_of_mem _ hq))
      obtain ⟨tx, x1, x2, x3, x4⟩ := htx p List.mem_cons_self
      refine ⟨(p.1, tx) :: L, by simp [g1], ?_, fun q hq => ?_, fun q hq => ?_⟩
      · rw [List.map_cons, List.map_cons, List.map_cons, g2]
        congr 1
      · rcases List.mem_cons.1 hq with rfl | hq
        · exact x2
        · exact g3 q hq
      · rcases List.mem_cons.1 hq with rfl | hq
        · exact x3
        · exact g4 q hq
  obtain ⟨L, g1, g2, g3, g4⟩ := hex
  obtain ⟨B, b1, b2⟩ := lex_join L g3
  have hjt : joinS blankB ((A.map (tkOf (enc l).size)).map (·.f1)) = enc (joinR (L.map (·.2))) := by
    rw [g2, ← joinS_enc, List.map_map]; rfl
  have hTL : TextL (joinR (L.map (·.2))) := by
    have key : ∀ l' : List (List Int), (∀ x ∈ l', TextL x) → TextL (joinR l') := by
      intro l'
      induction l' with
      | nil => intro _ r hr; cases hr
      | cons x l' ih =>
        intro h
        cases l' with
        | nil => exact h x (by simp)
        | cons y l' =>
          intro r hr
          rw [joinR, List.mem_append] at hr
          rcases hr with hr | hr
          · exact h x (by simp) r hr
          · rcases List.mem_cons.1 hr with rfl | hr
            · exact ⟨⟨by omega, by omega, by omega⟩, by unfold badR; omega⟩
            · exact ih (fun z hz => h z (List.mem_cons_of_mem _ hz)) r hr
    refine key _ fun x hx => ?_
    obtain ⟨p, hp, rfl⟩ := List.mem_map.1 hx
    exact goodT p.2 (g4 p hp)
  have hsize : (joinS blankB ((A.map (tkOf (enc l).size)).map (·.f1))).size ≤ 600 := by
    have h1 := joinS_size blankB ((A.map (tkOf (enc l).size)).map (·.f1))
    have h2 : (((A.map (tkOf (enc l).size)).map (·.f1)).map fun s => s.size + blankB.size).sum = (A.map fun p => p.1.f1.size).sum + A.length := by
      clear hjt hTL b1 b2 g1 g2 g3 g4 hshow hall hok hmem hsh hA e htx h1
      induction A with
      | nil => rfl
      | cons p A ih =>
        rw [List.map_cons, List.map_cons, List.map_cons, List.sum_cons, ih, List.map_cons, List.sum_cons, List.length_cons]
        show p.1.f1.size + 1 + _ = _
        omega
    omega
  rw [e]
  dsimp only
  rw [hshow]
  dsimp only
  rw [hjt] at hsize ⊢
  have hfin := lexB_of _ B hTL (by omega) b1
  rw [hfin]
  refine ⟨rfl, rfl, by omega, ?_, by rw [List.length_map]; omega, fun t h => ?_⟩
  · rw [List.map_map, List.map_map]
    have hb : ∀ (S : Nat) (X : List (Tk × List Int)), X.map ((fun t => setAt t 0) ∘ tkOf S) = (X.map (·.1)).map fun t => setAt t 0 := fun S X => by rw [List.map_map]; rfl
    rw [hb, hb, b2, g1]
  · obtain ⟨p, hp, rfl⟩ := List.mem_map.1 h
    have := hmem p hp
    show p.1.f1.size ≤ 300
    omega
end Go.Proofs.YtdeingogdblddaaDoor.Ab
namespace Go.Proofs.YtdeingogdblddaaDoor.Ab
set_option linter.unusedVariables false
set_option linter.unusedSimpArgs false
open Go.RowKit Go.Lib Go.Proofs.YtdeingogdblddaaDoorW.PrintWords Go.Proofs.YtdeingogdblddaaDoorW.PrintLast Go.Proofs.YtdeingogdblddaaDoorW.PrintMore Go.Proofs.YtdeingogdblddaaDoor.RP Go.Proofs.YtdeingogdblddaaDoor.RW Go.Proofs.YtdeingogdblddaaDoor.PAll
attribute [local irreducible] AWP AOps AExit AThen ABlock ANoGoto FeetOk
set_option maxHeartbeats 16000000 in
set_option maxRecDepth 10000 in
theorem LexerBack_a (s0 : ByteArray) : ACalls Tryd.prog 7 [.imm (.lit (.string s0))] [] (.imm (.lit (.bool true))) [] := by
  have hsz := fewP_size 300 s0
  have hfew := few_a s0
  generalize fewP 300 s0 = s at hsz hfew
  have hL := lex_a s (by omega)
  have hbad := lexB_bad s (by omega)
  have hback := back s hsz
  unfold lexIV tksIV at hL
  generalize lexB s = R at hL hbad hback
  obtain ⟨l, at_, e⟩ := R
  dsimp only at hL hbad hback
  by_cases he : e = 0
  · obtain ⟨b1, b2, b3, b4, b5, b6⟩ := hback he
    subst he
    have c2 := show_a false l (by omega) (fun t h => by have := b6 t h; omega)
    have c3 := lex_a (showP l).1 (by omega)
    unfold lexIV tksIV at c3
    rw [b1] at c2
    rw [b2] at c3
    have hml : (lexB (showP l).1).1.length = l.length := by
      have := congrArg List.length b4
      rw [List.length_map, List.length_map] at this
      exact this
    have hcell : ∀ j (h : j < l.length) (h2 : j < (lexB (showP l).1).1.length), setAt (lexB (showP l).1).1[j] 0 = setAt l[j] 0 := fun j h h2 => by
      have h3 : ((lexB (showP l).1).1.map (fun t => setAt t 0))[j]? = (l.map (fun t => setAt t 0))[j]? := by rw [b4]
      rw [List.getElem?_map, List.getElem?_map, List.getElem?_eq_getElem h, List.getElem?_eq_getElem h2] at h3
      exact Option.some.inj h3
    clear b1 b2 b3 b4 b6 hbad hback
    generalize (showP l).1 = T at *
    generalize lexB T = M at *
    obtain ⟨m, M1, M2⟩ := M
    dsimp only at *
    refine acalls_plain Tryd.func7 rfl rfl (Nat.le_of_ble_eq_true rfl) rfl ?_
    repeat' (first | refine aops_nil ?_ | (refine aops_one ?_; first | refine aops_quiet tabOk rfl rfl rfl (Nat.le_of_ble_eq_true rfl) rfl ?_ | refine aops_skip rfl rfl (Nat.le_of_ble_eq_true rfl) ?_ | (refine aops_cmp rfl rfl rfl (Nat.le_of_ble_eq_true rfl) rfl rfl rfl (fun hq => ?_) (fun hq => ?_) <;> (first | (simp only [decide_eq_true_eq, decide_eq_false_iff_not, beq_iff_eq, beq_eq_false_iff_ne, bne_iff_ne, bne_eq_false_iff_eq, Bool.not_eq_true', Bool.not_eq_false'] at hq; first | (exfalso; omega) | skip) | skip))| refine aops_call rfl rfl (Nat.le_of_ble_eq_true rfl) rfl rfl rfl rfl (hfew) ?_ | refine aops_call rfl rfl (Nat.le_of_ble_eq_true rfl) rfl rfl rfl rfl (hL) ?_ | refine aops_call rfl rfl (Nat.le_of_ble_eq_true rfl) rfl rfl rfl rfl (c2) ?_ | refine aops_call rfl rfl (Nat.le_of_ble_eq_true rfl) rfl rfl rfl rfl (c3) ?_ | refine aops_inc rfl rfl rfl (Nat.le_of_ble_eq_true rfl) rfl rfl (by omega) ?_ | refine aops_add rfl rfl rfl (Nat.le_of_ble_eq_true rfl) rfl rfl rfl (by omega) (by omega) ?_ | refine aops_sub rfl rfl rfl (Nat.le_of_ble_eq_true rfl) rfl rfl rfl (by omega) (by omega) ?_ | refine aops_list tabOk rfl rfl rfl (Nat.le_of_ble_eq_true rfl) rfl rfl rfl rfl rfl rfl rfl rfl rfl ?_ | refine aops_pure tabOk rfl rfl (Nat.le_of_ble_eq_true rfl) rfl ?_ | refine aops_alloc tabOk rfl rfl rfl (Nat.le_of_ble_eq_true rfl) rfl rfl rfl rfl rfl rfl ?_ | refine aops_loadm tabOk rfl rfl rfl (Nat.le_of_ble_eq_true rfl) rfl rfl rfl rfl ?_ | refine aops_storem tabOk rfl rfl rfl rfl rfl rfl rfl rfl rfl rfl rfl ?_ | refine aops_index tabOk rfl rfl rfl (Nat.le_of_ble_eq_true rfl) rfl rfl rfl rfl (by first | assumption | omega) ?_ | refine aops_index0 tabOk rfl rfl rfl (Nat.le_of_ble_eq_true rfl) rfl rfl rfl rfl (by first | rfl | omega) (by first | omega | simp) ?_ | refine aops_load1 tabOk rfl rfl rfl (Nat.le_of_ble_eq_true rfl) rfl rfl rfl (by assumption) ?_ | refine aops_load1 tabOk rfl rfl rfl (Nat.le_of_ble_eq_true rfl) rfl rfl rfl (ivs_get _ _ (by first | assumption | omega)) ?_ | refine aops_inc rfl rfl rfl (Nat.le_of_ble_eq_true rfl) rfl rfl (by omega) ?_ | ((fail_if_success (refine aops_lit (b := true) rfl rfl rfl ?_)); (fail_if_success (refine aops_lit (b := false) rfl rfl rfl ?_)); refine aops_guard rfl rfl rfl (fun hq => ?_) (fun hq => ?_) <;> first | subst hq | (first | (simp only [decide_eq_true_eq, decide_eq_false_iff_not, beq_iff_eq, beq_eq_false_iff_ne, bne_iff_ne, bne_eq_false_iff_eq, Bool.not_eq_true', Bool.not_eq_false'] at hq; first | (exfalso; omega) | skip) | skip)) | fail) | (refine awp_one ?_; first | refine awp_sreg ?_ | refine awp_seq ?_ | refine awp_region ?_ | refine awp_block ?_ | refine awp_ret ?_ | refine awp_exit ?_ | refine awp_skip ?_ | refine awp_cond (b := true) rfl (fun _ => ?_) (fun h => Bool.noConfusion h) | refine awp_cond (b := false) rfl (fun h => Bool.noConfusion h) (fun _ => ?_) | refine awp_scope ?_ | refine awp_label ?_ | refine awp_sdraw mixed (by kernel_rfl) ?_ | refine awp_region_draw mixed (by kernel_rfl) ?_ | (refine awp_cond rfl (fun hq => ?_) (fun hq => ?_) <;> first | subst hq | (first | (simp only [decide_eq_true_eq, decide_eq_false_iff_not, beq_iff_eq, beq_eq_false_iff_ne, bne_iff_ne, bne_eq_false_iff_eq, Bool.not_eq_true', Bool.not_eq_false'] at hq; first | (exfalso; omega) | skip) | skip)) | fail) | (refine then_one ?_; first | refine q_then ?_ | refine q_then_exit ?_ | refine q_then_ret ?_ | fail) | (refine block_one ?_; first | refine q_block ?_ | refine q_block_exit ?_ | refine q_block_pass (by decide) ?_ | refine q_block_ret ?_ | fail) | refine feet_one (feetOk_of (by kernel_rfl)) ?_ | fail)
    all_goals first
      | exact absurd rfl (by assumption)
      | (exfalso; omega)
      | skip
    refine awp_loop (ι := {j : Nat // j ≤ l.length}) (fun j => S.f ⟨[(55, .imm (.lit (.int .i64 (j.1 : Int)))), (54, .imm (.lit (.int .i64 (l.length : Int)))), (3, .imm (.sl false l.length (l.flatMap tkIV))), (8, .imm (.sl false m.length (m.flatMap tkIV)))], []⟩) (fun j => l.length - j.1) ⟨0, Nat.zero_le _⟩ (le_of (by repeat' first | exact trivial | refine ⟨rfl, ?_⟩) (by repeat' first | exact trivial | refine ⟨rfl, ?_⟩)) ?_
    rintro ⟨j, hj⟩
    dsimp only
    by_cases hlt : j < l.length
    · have hltm : j < m.length := by omega
      have hr1 := tks_get l j hlt
      have hr2 := tks_get m j hltm
      have hc := hcell j hlt hltm
      generalize l[j] = t1 at *
      generalize m[j] = t2 at *
      obtain ⟨k, tx, n, p⟩ := t1
      obtain ⟨k2, tx2, n2, p2⟩ := t2
      unfold setAt at hc
      dsimp only at hc
      cases hc
      change _ = [IV.lit (.int .i64 k), .lit (.string tx), .lit (.int .i64 n), .lit (.int .i64 p)] at hr1
      change _ = [IV.lit (.int .i64 k), .lit (.string tx), .lit (.int .i64 n), .lit (.int .i64 p2)] at hr2
      clear hL c2 c3 hfew hcell
      refine awp_imp ((imp_fut 12 (by simp) rfl rfl).trans (imp_fut 13 (by simp) rfl rfl)) ?_
      repeat' (first | refine aops_nil ?_ | (refine aops_one ?_; first | refine aops_quiet tabOk rfl rfl rfl (Nat.le_of_ble_eq_true rfl) rfl ?_ | refine aops_skip rfl rfl (Nat.le_of_ble_eq_true rfl) ?_ | (refine aops_cmp rfl rfl rfl (Nat.le_of_ble_eq_true rfl) rfl rfl rfl (fun hq => ?_) (fun hq => ?_) <;> (first | (simp only [decide_eq_true_eq, decide_eq_false_iff_not, beq_iff_eq, beq_eq_false_iff_ne, bne_iff_ne, bne_eq_false_iff_eq, Bool.not_eq_true', Bool.not_eq_false'] at hq; first | (exfalso; omega) | skip) | skip))| refine aops_loadr tabOk rfl rfl rfl (Nat.le_of_ble_eq_true rfl) rfl rfl rfl hr1 rfl ?_ | refine aops_loadr tabOk rfl rfl rfl (Nat.le_of_ble_eq_true rfl) rfl rfl rfl hr2 rfl ?_ | refine aops_allocf 12 (d := 12) tabOk rfl rfl rfl (Nat.le_of_ble_eq_true rfl) rfl rfl rfl rfl ?_ | refine aops_allocf 13 (d := 13) tabOk rfl rfl rfl (Nat.le_of_ble_eq_true rfl) rfl rfl rfl rfl ?_ | refine aops_tkne (a := ⟨k, tx, n, 0⟩) (b := ⟨k, tx, n, 0⟩) rfl rfl rfl (Nat.le_of_ble_eq_true rfl) rfl rfl (fun hq => absurd rfl hq) (fun hq => ?_) | refine aops_inc rfl rfl rfl (Nat.le_of_ble_eq_true rfl) rfl rfl (by omega) ?_ | refine aops_add rfl rfl rfl (Nat.le_of_ble_eq_true rfl) rfl rfl rfl (by omega) (by omega) ?_ | refine aops_sub rfl rfl rfl (Nat.le_of_ble_eq_true rfl) rfl rfl rfl (by omega) (by omega) ?_ | refine aops_list tabOk rfl rfl rfl (Nat.le_of_ble_eq_true rfl) rfl rfl rfl rfl rfl rfl rfl rfl rfl ?_ | refine aops_pure tabOk rfl rfl (Nat.le_of_ble_eq_true rfl) rfl ?_ | refine aops_alloc tabOk rfl rfl rfl (Nat.le_of_ble_eq_true rfl) rfl rfl rfl rfl rfl rfl ?_ | refine aops_loadm tabOk rfl rfl rfl (Nat.le_of_ble_eq_true rfl) rfl rfl rfl rfl ?_ | refine aops_storem tabOk rfl rfl rfl rfl rfl rfl rfl rfl rfl rfl rfl ?_ | refine aops_index tabOk rfl rfl rfl (Nat.le_of_ble_eq_true rfl) rfl rfl rfl rfl (by first | assumption | omega) ?_ | refine aops_index0 tabOk rfl rfl rfl (Nat.le_of_ble_eq_true rfl) rfl rfl rfl rfl (by first | rfl | omega) (by first | omega | simp) ?_ | refine aops_load1 tabOk rfl rfl rfl (Nat.le_of_ble_eq_true rfl) rfl rfl rfl (by assumption) ?_ | refine aops_load1 tabOk rfl rfl rfl (Nat.le_of_ble_eq_true rfl) rfl rfl rfl (ivs_get _ _ (by first | assumption | omega)) ?_ | refine aops_inc rfl rfl rfl (Nat.le_of_ble_eq_true rfl) rfl rfl (by omega) ?_ | ((fail_if_success (refine aops_lit (b := true) rfl rfl rfl ?_)); (fail_if_success (refine aops_lit (b := false) rfl rfl rfl ?_)); refine aops_guard rfl rfl rfl (fun hq => ?_) (fun hq => ?_) <;> first | subst hq | (first | (simp only [decide_eq_true_eq, decide_eq_false_iff_not, beq_iff_eq, beq_eq_false_iff_ne, bne_iff_ne, bne_eq_false_iff_eq, Bool.not_eq_true', Bool.not_eq_false'] at hq; first | (exfalso; omega) | skip) | skip)) | fail) | (refine awp_one ?_; first | refine awp_sreg ?_ | refine awp_seq ?_ | refine awp_region ?_ | refine awp_block ?_ | refine awp_ret ?_ | refine awp_exit ?_ | refine awp_skip ?_ | refine awp_cond (b := true) rfl (fun _ => ?_) (fun h => Bool.noConfusion h) | refine awp_cond (b := false) rfl (fun h => Bool.noConfusion h) (fun _ => ?_) | refine awp_scope ?_ | refine awp_label ?_ | refine awp_sdraw mixed (by kernel_rfl) ?_ | refine awp_region_draw mixed (by kernel_rfl) ?_ | (refine awp_cond rfl (fun hq => ?_) (fun hq => ?_) <;> first | subst hq | (first | (simp only [decide_eq_true_eq, decide_eq_false_iff_not, beq_iff_eq, beq_eq_false_iff_ne, bne_iff_ne, bne_eq_false_iff_eq, Bool.not_eq_true', Bool.not_eq_false'] at hq; first | (exfalso; omega) | skip) | skip)) | fail) | (refine then_one ?_; first | refine q_then ?_ | refine q_then_exit ?_ | refine q_then_ret ?_ | fail) | (refine block_one ?_; first | refine q_block ?_ | refine q_block_exit ?_ | refine q_block_pass (by decide) ?_ | refine q_block_ret ?_ | fail) | refine feet_one (feetOk_of (by kernel_rfl)) ?_ | fail)
      all_goals first
        | (exfalso; omega)
        | exact ⟨⟨j + 1, hlt⟩, (by show l.length - (j + 1) < l.length - j; omega), (le_of (by repeat' first | exact trivial | refine ⟨rfl, ?_⟩) (by repeat' first | exact trivial | refine ⟨rfl, ?_⟩))⟩
    · repeat' (first | refine aops_nil ?_ | (refine aops_one ?_; first | refine aops_quiet tabOk rfl rfl rfl (Nat.le_of_ble_eq_true rfl) rfl ?_ | refine aops_skip rfl rfl (Nat.le_of_ble_eq_true rfl) ?_ | (refine aops_cmp rfl rfl rfl (Nat.le_of_ble_eq_true rfl) rfl rfl rfl (fun hq => ?_) (fun hq => ?_) <;> (first | (simp only [decide_eq_true_eq, decide_eq_false_iff_not, beq_iff_eq, beq_eq_false_iff_ne, bne_iff_ne, bne_eq_false_iff_eq, Bool.not_eq_true', Bool.not_eq_false'] at hq; first | (exfalso; omega) | skip) | skip))| refine aops_call rfl rfl (Nat.le_of_ble_eq_true rfl) rfl rfl rfl rfl (works_a) ?_ | refine aops_inc rfl rfl rfl (Nat.le_of_ble_eq_true rfl) rfl rfl (by omega) ?_ | refine aops_add rfl rfl rfl (Nat.le_of_ble_eq_true rfl) rfl rfl rfl (by omega) (by omega) ?_ | refine aops_sub rfl rfl rfl (Nat.le_of_ble_eq_true rfl) rfl rfl rfl (by omega) (by omega) ?_ | refine aops_list tabOk rfl rfl rfl (Nat.le_of_ble_eq_true rfl) rfl rfl rfl rfl rfl rfl rfl rfl rfl ?_ | refine aops_pure tabOk rfl rfl (Nat.le_of_ble_eq_true rfl) rfl ?_ | refine aops_alloc tabOk rfl rfl rfl (Nat.le_of_ble_eq_true rfl) rfl rfl rfl rfl rfl rfl ?_ | refine aops_loadm tabOk rfl rfl rfl (Nat.le_of_ble_eq_true rfl) rfl rfl rfl rfl ?_ | refine aops_storem tabOk rfl rfl rfl rfl rfl rfl rfl rfl rfl rfl rfl ?_ | refine aops_index tabOk rfl rfl rfl (Nat.le_of_ble_eq_true rfl) rfl rfl rfl rfl (by first | assumption | omega) ?_ | refine aops_index0 tabOk rfl rfl rfl (Nat.le_of_ble_eq_true rfl) rfl rfl rfl rfl (by first | rfl | omega) (by first | omega | simp) ?_ | refine aops_load1 tabOk rfl rfl rfl (Nat.le_of_ble_eq_true rfl) rfl rfl rfl (by assumption) ?_ | refine aops_load1 tabOk rfl rfl rfl (Nat.le_of_ble_eq_true rfl) rfl rfl rfl (ivs_get _ _ (by first | assumption | omega)) ?_ | refine aops_inc rfl rfl rfl (Nat.le_of_ble_eq_true rfl) rfl rfl (by omega) ?_ | ((fail_if_success (refine aops_lit (b := true) rfl rfl rfl ?_)); (fail_if_success (refine aops_lit (b := false) rfl rfl rfl ?_)); refine aops_guard rfl rfl rfl (fun hq => ?_) (fun hq => ?_) <;> first | subst hq | (first | (simp only [decide_eq_true_eq, decide_eq_false_iff_not, beq_iff_eq, beq_eq_false_iff_ne, bne_iff_ne, bne_eq_false_iff_eq, Bool.not_eq_true', Bool.not_eq_false'] at hq; first | (exfalso; omega) | skip) | skip)) | fail) | (refine awp_one ?_; first | refine awp_sreg ?_ | refine awp_seq ?_ | refine awp_region ?_ | refine awp_block ?_ | refine awp_ret ?_ | refine awp_exit ?_ | refine awp_skip ?_ | refine awp_cond (b := true) rfl (fun _ => ?_) (fun h => Bool.noConfusion h) | refine awp_cond (b := false) rfl (fun h => Bool.noConfusion h) (fun _ => ?_) | refine awp_scope ?_ | refine awp_label ?_ | refine awp_sdraw mixed (by kernel_rfl) ?_ | refine awp_region_draw mixed (by kernel_rfl) ?_ | (refine awp_cond rfl (fun hq => ?_) (fun hq => ?_) <;> first | subst hq | (first | (simp only [decide_eq_true_eq, decide_eq_false_iff_not, beq_iff_eq, beq_eq_false_iff_ne, bne_iff_ne, bne_eq_false_iff_eq, Bool.not_eq_true', Bool.not_eq_false'] at hq; first | (exfalso; omega) | skip) | skip)) | fail) | (refine then_one ?_; first | refine q_then ?_ | refine q_then_exit ?_ | refine q_then_ret ?_ | fail) | (refine block_one ?_; first | refine q_block ?_ | refine q_block_exit ?_ | refine q_block_pass (by decide) ?_ | refine q_block_ret ?_ | fail) | refine feet_one (feetOk_of (by kernel_rfl)) ?_ | fail)
      all_goals first
        | exact aexit_plain (by first | exact .inl rfl | exact .inr rfl) (results_1 rfl (resOk_tmp rfl)) rfl
        | (exfalso; omega)
  · have h0 := (hbad he).1
    subst h0
    clear hback hbad
    dsimp only [List.length_nil, List.flatMap_nil] at hL
    refine acalls_plain Tryd.func7 rfl rfl (Nat.le_of_ble_eq_true rfl) rfl ?_
    repeat' (first | refine aops_nil ?_ | (refine aops_one ?_; first | refine aops_quiet tabOk rfl rfl rfl (Nat.le_of_ble_eq_true rfl) rfl ?_ | refine aops_skip rfl rfl (Nat.le_of_ble_eq_true rfl) ?_ | (refine aops_cmp rfl rfl rfl (Nat.le_of_ble_eq_true rfl) rfl rfl rfl (fun hq => ?_) (fun hq => ?_) <;> (first | (simp only [decide_eq_true_eq, decide_eq_false_iff_not, beq_iff_eq, beq_eq_false_iff_ne, bne_iff_ne, bne_eq_false_iff_eq, Bool.not_eq_true', Bool.not_eq_false'] at hq; first | (exfalso; omega) | skip) | skip))| refine aops_call rfl rfl (Nat.le_of_ble_eq_true rfl) rfl rfl rfl rfl (hfew) ?_ | refine aops_call rfl rfl (Nat.le_of_ble_eq_true rfl) rfl rfl rfl rfl (hL) ?_ | refine aops_call rfl rfl (Nat.le_of_ble_eq_true rfl) rfl rfl rfl rfl (works_a) ?_ | refine aops_inc rfl rfl rfl (Nat.le_of_ble_eq_true rfl) rfl rfl (by omega) ?_ | refine aops_add rfl rfl rfl (Nat.le_of_ble_eq_true rfl) rfl rfl rfl (by omega) (by omega) ?_ | refine aops_sub rfl rfl rfl (Nat.le_of_ble_eq_true rfl) rfl rfl rfl (by omega) (by omega) ?_ | refine aops_list tabOk rfl rfl rfl (Nat.le_of_ble_eq_true rfl) rfl rfl rfl rfl rfl rfl rfl rfl rfl ?_ | refine aops_pure tabOk rfl rfl (Nat.le_of_ble_eq_true rfl) rfl ?_ | refine aops_alloc tabOk rfl rfl rfl (Nat.le_of_ble_eq_true rfl) rfl rfl rfl rfl rfl rfl ?_ | refine aops_loadm tabOk rfl rfl rfl (Nat.le_of_ble_eq_true rfl) rfl rfl rfl rfl ?_ | refine aops_storem tabOk rfl rfl rfl rfl rfl rfl rfl rfl rfl rfl rfl ?_ | refine aops_index tabOk rfl rfl rfl (Nat.le_of_ble_eq_true rfl) rfl rfl rfl rfl (by first | assumption | omega) ?_ | refine aops_index0 tabOk rfl rfl rfl (Nat.le_of_ble_eq_true rfl) rfl rfl rfl rfl (by first | rfl | omega) (by first | omega | simp) ?_ | refine aops_load1 tabOk rfl rfl rfl (Nat.le_of_ble_eq_true rfl) rfl rfl rfl (by assumption) ?_ | refine aops_load1 tabOk rfl rfl rfl (Nat.le_of_ble_eq_true rfl) rfl rfl rfl (ivs_get _ _ (by first | assumption | omega)) ?_ | refine aops_inc rfl rfl rfl (Nat.le_of_ble_eq_true rfl) rfl rfl (by omega) ?_ | ((fail_if_success (refine aops_lit (b := true) rfl rfl rfl ?_)); (fail_if_success (refine aops_lit (b := false) rfl rfl rfl ?_)); refine aops_guard rfl rfl rfl (fun hq => ?_) (fun hq => ?_) <;> first | subst hq | (first | (simp only [decide_eq_true_eq, decide_eq_false_iff_not, beq_iff_eq, beq_eq_false_iff_ne, bne_iff_ne, bne_eq_false_iff_eq, Bool.not_eq_true', Bool.not_eq_false'] at hq; first | (exfalso; omega) | skip) | skip)) | fail) | (refine awp_one ?_; first | refine awp_sreg ?_ | refine awp_seq ?_ | refine awp_region ?_ | refine awp_block ?_ | refine awp_ret ?_ | refine awp_exit ?_ | refine awp_skip ?_ | refine awp_cond (b := true) rfl (fun _ => ?_) (fun h => Bool.noConfusion h) | refine awp_cond (b := false) rfl (fun h => Bool.noConfusion h) (fun _ => ?_) | refine awp_scope ?_ | refine awp_label ?_ | refine awp_sdraw mixed (by kernel_rfl) ?_ | refine awp_region_draw mixed (by kernel_rfl) ?_ | (refine awp_cond rfl (fun hq => ?_) (fun hq => ?_) <;> first | subst hq | (first | (simp only [decide_eq_true_eq, decide_eq_false_iff_not, beq_iff_eq, beq_eq_false_iff_ne, bne_iff_ne, bne_eq_false_iff_eq, Bool.not_eq_true', Bool.not_eq_false'] at hq; first | (exfalso; omega) | skip) | skip)) | fail) | (refine then_one ?_; first | refine q_then ?_ | refine q_then_exit ?_ | refine q_then_ret ?_ | fail) | (refine block_one ?_; first | refine q_block ?_ | refine q_block_exit ?_ | refine q_block_pass (by decide) ?_ | refine q_block_ret ?_ | fail) | refine feet_one (feetOk_of (by kernel_rfl)) ?_ | fail)
    all_goals first
      | exact aexit_plain (by first | exact .inl rfl | exact .inr rfl) (results_1 rfl (resOk_tmp rfl)) rfl
      | exact absurd rfl (by assumption)
      | exact absurd (by assumption) he
      | (exfalso; omega)
theorem LexerBack_law (xs : List IV) (h : FitsAll [.string] xs) : ACalls Tryd.prog 7 (xs.map .imm) [] (.imm (.lit (.bool true))) [] := by
  obtain ⟨s, rfl, _⟩ := fits_s h
  exact LexerBack_a s
end Go.Proofs.YtdeingogdblddaaDoor.Ab
