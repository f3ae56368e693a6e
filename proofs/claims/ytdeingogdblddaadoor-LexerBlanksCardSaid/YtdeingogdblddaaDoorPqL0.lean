/- Words, walks and laws under the claim's statement: what it uses of them. No condition of its own. -/
import Derived.Test.YtdeingogdblddaaDoorPqA0
import Derived.Test.YtdeingogdblddaaDoorPqAb0
namespace Go.Proofs.YtdeingogdblddaaDoor.Ab
set_option linter.unusedVariables false
set_option linter.unusedSimpArgs false
open Go.RowKit Go.Lib Go.Proofs.YtdeingogdblddaaDoorW.PrintWords Go.Proofs.YtdeingogdblddaaDoorW.PrintLast Go.Proofs.YtdeingogdblddaaDoorW.PrintMore Go.Proofs.YtdeingogdblddaaDoor.RP Go.Proofs.YtdeingogdblddaaDoor.RW Go.Proofs.YtdeingogdblddaaDoor.PAll
theorem amb_tabs {w : World} {M : Nat → Prop} (h : Amb w M) : Tabs w := h.tabs
theorem repL_reps {α : Type} {w : World} {M : Nat → Prop} (f : α → List IV) (sz : Nat) : ∀ (xs : List α) (inner : List Value), inner.length = xs.length * sz → (∀ j p, xs[j]? = some p → RepL w M (f p) ((inner.drop (j * sz)).take sz)) → RepL w M (xs.flatMap f) inner
  | [], inner, h, _ => by
    have e : inner = [] := List.eq_nil_of_length_eq_zero (by simpa using h)
    rw [e]; simp [RepL]
  | x :: xs, inner, h, hp => by
    have e : inner = inner.take sz ++ inner.drop sz := (List.take_append_drop _ _).symm
    rw [e, List.flatMap_cons]
    refine RepL.append ?_ ?_
    · have := hp 0 x rfl
      rw [Nat.zero_mul, List.drop_zero] at this
      exact this
    · refine repL_reps f sz xs _ ?_ (fun j p hj => ?_)
      · rw [List.length_drop, h, List.length_cons, Nat.add_mul, Nat.one_mul]; omega
      · have := hp (j + 1) p (by simpa using hj)
        rw [List.drop_drop, show sz + j * sz = (j + 1) * sz by rw [Nat.add_mul, Nat.one_mul]; omega]
        exact this
theorem rep_of_R {α : Type} {d : Kd α} {e : Nat} {w w' : World} {M : Nat → Prop} {v : Value} {xs : List α} (f : α → List IV) (h : d.R e w' w.heap.size (fun _ => True) v xs)
    (hf : ∀ ok x cs, d.M w' w.heap.size ok x cs → RepL w' (Mold w M) (f x) cs) (h1 : ∀ x, (f x).all IV.one = true) (hn : xs.length ≤ slMax) : Rep w' (Mold w M) (.sl false xs.length (xs.flatMap f)) v := by
  obtain ⟨_, inner, ho, hr⟩ := h
  refine rep_owns (own_weaken ho (Nat.zero_le _)) (repL_reps f d.sz xs inner hr.1 (fun j p hj => hf _ p _ (hr.2 j p hj))) ?_ hn (fun b hb => ?_)
  · rw [List.all_eq_true]
    intro x hx
    obtain ⟨y, _, hy⟩ := List.mem_flatMap.1 hx
    exact List.all_eq_true.1 (h1 y) x hy
  · rcases ho.2 with ⟨e, _⟩ | ⟨g, cap, cur, e, hg, _⟩
    · rw [e] at hb; cases hb
    · rw [e] at hb
      have : g = b := by simpa [blk] using hb
      rw [← this]
      exact mold_new hg
def tkIV (t : Tk) : List IV := [.lit (.int .i64 t.f0), .lit (.string t.f1), .lit (.int .i64 t.f2), .lit (.int .i64 t.f3)]
def tksIV (l : List Tk) : IV := .sl false l.length (l.flatMap tkIV)
theorem rep_R_tks {w w' : World} {M : Nat → Prop} {v : Value} {l : List Tk} (h : Kd.R k34 34 w' w.heap.size (fun _ => True) v l) (hn : l.length ≤ slMax) : Rep w' (Mold w M) (tksIV l) v :=
  rep_of_R tkIV h (fun ok x cs hm => by
    rw [k34_openM hm]
    exact ⟨rep_mk_lit rfl, rep_mk_lit rfl, rep_mk_lit rfl, rep_mk_lit rfl, trivial⟩) (fun _ => rfl) hn
theorem lexB_len (s : ByteArray) : (lexB s).1.length ≤ s.size := by
  have key : ∀ (f at_ : Nat) (acc : List Tk), acc.length ≤ at_ → at_ ≤ s.size → (lxB s f at_ acc).1.length ≤ s.size := by
    intro f
    induction f with
    | zero => intro at_ acc h1 h2; exact Nat.le_trans h1 h2
    | succ f ih =>
      intro at_ acc h1 h2
      rw [lxB]
      by_cases c0 : at_ < s.size
      · rw [if_pos c0]
        have hrs : (s.extract at_ s.size).size = s.size - at_ := by rw [ByteArray.size_extract]; omega
        have hb := spanB_le blkB (s.extract at_ s.size)
        rw [hrs] at hb
        by_cases c1 : 0 < spanB blkB (s.extract at_ s.size)
        · rw [if_pos c1]; exact ih _ _ (by omega) (by omega)
        · rw [if_neg c1]
          by_cases c2 : prefixB (s.extract at_ s.size) opB = true
          · rw [if_pos c2]
            have hcm := cmB_le (s.extract at_ s.size) (s.extract at_ s.size).size 0 0
            change 0 ≤ commentB (s.extract at_ s.size) ∧ commentB (s.extract at_ s.size) ≤ _ at hcm
            rw [hrs] at hcm
            split
            · exact Nat.zero_le _
            · exact ih _ _ (by omega) (by omega)
          · rw [if_neg c2]
            by_cases c3 : (tokB (s.extract at_ s.size)).2.2 = true
            · rw [if_pos c3]
              have := tokB_range (s.extract at_ s.size) (by omega) c3
              rw [hrs] at this
              exact ih _ _ (by rw [List.length_append]; simp; omega) (by omega)
            · rw [if_neg c3]; exact Nat.zero_le _
      · rw [if_neg c0]; exact Nat.le_trans h1 h2
  unfold lexB
  split
  · exact key _ _ _ (Nat.le_refl _) (Nat.zero_le _)
  · exact Nat.zero_le _
def lexIV (s : ByteArray) : IV := .tup [tksIV (lexB s).1, .lit (.int .i64 (lexB s).2.1), .lit (.int .i64 (lexB s).2.2)]
theorem lex_a (s : ByteArray) (hs : s.size ≤ 1000000) : ACalls Tryd.prog 19 [.imm (.lit (.string s))] [] (.imm (lexIV s)) [] :=
  acalls_of (args := [.lit (.string s)]) (r := lexIV s) ⟨_, Tryd.func19, rfl, rfl⟩ (fun w M vs ha hv => by
    obtain ⟨v, us, rfl, h1, h2⟩ := repL_cons hv
    rw [rep_lit h1, repL_nil h2]
    refine (lex_any s w hs (amb_tabs ha)).mono fun e w' ⟨v, he, hR, hb⟩ => ⟨_, he, hb, ?_⟩
    unfold lexIV
    rw [Rep]
    exact ⟨_, rfl, rep_R_tks hR (Nat.le_trans (lexB_len s) (by unfold slMax; omega)), rep_mk_lit rfl, rep_mk_lit rfl, trivial⟩)
end Go.Proofs.YtdeingogdblddaaDoor.Ab
namespace Go.Proofs.YtdeingogdblddaaDoor.Ab
set_option linter.unusedVariables false
set_option linter.unusedSimpArgs false
open Go.RowKit Go.Lib Go.Proofs.YtdeingogdblddaaDoorW.PrintWords Go.Proofs.YtdeingogdblddaaDoorW.PrintLast Go.Proofs.YtdeingogdblddaaDoorW.PrintMore Go.Proofs.YtdeingogdblddaaDoor.RP Go.Proofs.YtdeingogdblddaaDoor.RW Go.Proofs.YtdeingogdblddaaDoor.PAll
def eqTk (a b : Tk) : Bool := decide (a.f0 = b.f0) && (decide (a.f1 = b.f1) && (decide (a.f2 = b.f2) && decide (a.f3 = b.f3)))
theorem eqTk_iff (a b : Tk) : eqTk a b = true ↔ a = b := by
  obtain ⟨a0, a1, a2, a3⟩ := a
  obtain ⟨b0, b1, b2, b3⟩ := b
  simp [eqTk]
instance : DecidableEq Tk := fun a b => decidable_of_iff (eqTk a b = true) (eqTk_iff a b)
theorem eqTk_run (d : Nat) (w : World) (a b : Tk) : (Op.equalIn (d + 2) 34 (.agg #[.int .i64 a.f0, .string a.f1, .int .i64 a.f2, .int .i64 a.f3]) (.agg #[.int .i64 b.f0, .string b.f1, .int .i64 b.f2, .int .i64 b.f3])).run Tryd.prog w = .ok (eqTk a b) w := by
  rw [eqA34]
  congr 1
  unfold eqTk
  rw [beq_dec, beq_dec, beq_dec, beq_dec]
  rw [show decide (a.f1.toList = b.f1.toList) = decide (a.f1 = b.f1) from decide_eq_decide.2 toListB_inj]
theorem tk_guard : Tryd.prog.eqGuardType Tryd.prog.depth 34 = false := by kernel_rfl
theorem rep_tkagg {w : World} {M : Nat → Prop} {β : Nat → Value} {a : Tk} {v : Value} (h : RepA w M β (.imm (.agg (tkIV a))) v) : v = .agg #[.int .i64 a.f0, .string a.f1, .int .i64 a.f2, .int .i64 a.f3] := by
  rw [RepA, Rep] at h
  obtain ⟨vs, rfl, _, h⟩ := h
  have : tkIV a = [Value.int .i64 a.f0, .string a.f1, .int .i64 a.f2, .int .i64 a.f3].map .lit := rfl
  rw [this] at h
  have e := repL_lits_eq h
  congr 1
  apply Array.ext'
  exact e
theorem opT_tkeq {o : Oper} {vals : Operand → Option AV} {op : BinOp} {u : TypeId} {x y : Operand} {a b : Tk} {q : Bool} (ho : o.op = .binOp op 34 x y u) (hop : (op = .eql ∧ q = eqTk a b) ∨ (op = .neq ∧ q = !(eqTk a b))) (hx : vals x = some (.imm (.agg (tkIV a)))) (hy : vals y = some (.imm (.agg (tkIV b)))) :
    OpT Tryd.prog o vals (fun _ => none) (.imm (.lit (.bool q))) (fun _ => none) :=
  OpT.pure fun w M β ρ hv => by
    have h1 := rep_tkagg (hv x (by simp [ho, Op.operands]) _ hx)
    have h2 := rep_tkagg (hv y (by simp [ho, Op.operands]) _ hy)
    refine ⟨.bool q, ?_, by rw [RepA, Rep]; exact ⟨rfl, rfl⟩⟩
    have hg : ∀ op, (eqGuard op 34 x y (.agg #[.int .i64 a.f0, .string a.f1, .int .i64 a.f2, .int .i64 a.f3]) (.agg #[.int .i64 b.f0, .string b.f1, .int .i64 b.f2, .int .i64 b.f3])).run Tryd.prog w = .ok () w := fun op => by
      unfold eqGuard
      cases op <;> simp [Sem.run_bind, run_program, tk_guard]
    have he : ∀ w, (Op.equal 34 (.agg #[.int .i64 a.f0, .string a.f1, .int .i64 a.f2, .int .i64 a.f3]) (.agg #[.int .i64 b.f0, .string b.f1, .int .i64 b.f2, .int .i64 b.f3])).run Tryd.prog w = .ok (eqTk a b) w := fun w => eqTk_run 9998 w a b
    unfold execOp
    rcases hop with ⟨rfl, rfl⟩ | ⟨rfl, rfl⟩
    · simp only [ho, h1, h2, Sem.run_bind, hg, Result.andThen_ok, binOp, he, Sem.run_pure]
    · simp only [ho, h1, h2, Sem.run_bind, hg, Result.andThen_ok, binOp, he, Sem.run_pure]
section
variable {keep : List Nat} {N : Nat} {ops : Array Oper} {K : List Foot → SF → Prop} {o : Oper} {rest : List Oper} {ks : List Foot} {s : List (Nat × AV)} {m : Mem} {d : Nat}
theorem aops_tkne {u : TypeId} {x y : Operand} {a b : Tk} (ho : o.op = .binOp .neq 34 x y u) (hw : wantedA ops o (S.f ⟨s, m⟩) = some true) (hd : o.dst = some d) (hN : d < N) (hx : (S.f ⟨s, m⟩).ev x = some (.imm (.agg (tkIV a)))) (hy : (S.f ⟨s, m⟩).ev y = some (.imm (.agg (tkIV b))))
    (k1 : a ≠ b → AOps Tryd.prog keep N ops K rest (kNo :: ks) (S.f ⟨(d, .imm (.lit (.bool true))) :: s, m⟩)) (k2 : a = b → AOps Tryd.prog keep N ops K rest (kNo :: ks) (S.f ⟨(d, .imm (.lit (.bool false))) :: s, m⟩)) : AOps Tryd.prog keep N ops K (o :: rest) ks (S.f ⟨s, m⟩) := by
  refine aops_of hw hd hN (opT_tkeq ho (.inr ⟨rfl, rfl⟩) hx hy) ?_
  cases h : eqTk a b with
  | true => exact k2 ((eqTk_iff a b).1 h)
  | false => exact k1 (fun e => by rw [(eqTk_iff a b).2 e] at h; cases h)
end
theorem tks_get (l : List Tk) (j : Nat) (h : j < l.length) : ((l.flatMap tkIV).drop (j * 4)).take 4 = tkIV l[j] := by
  induction l generalizing j with
  | nil => simp at h
  | cons t l ih =>
    cases j with
    | zero => rfl
    | succ j =>
      rw [List.flatMap_cons, show (j + 1) * 4 = 4 + j * 4 by omega, ← List.drop_drop]
      have : (tkIV t ++ l.flatMap tkIV).drop 4 = l.flatMap tkIV := rfl
      rw [this, ih j (by simpa using h)]
      rfl
end Go.Proofs.YtdeingogdblddaaDoor.Ab
namespace Go.Proofs.YtdeingogdblddaaDoor.Ab
set_option linter.unusedVariables false
set_option linter.unusedSimpArgs false
open Go.RowKit Go.Lib Go.Proofs.YtdeingogdblddaaDoorW.PrintWords Go.Proofs.YtdeingogdblddaaDoorW.PrintLast Go.Proofs.YtdeingogdblddaaDoorW.PrintMore Go.Proofs.YtdeingogdblddaaDoor.RP Go.Proofs.YtdeingogdblddaaDoor.RW Go.Proofs.YtdeingogdblddaaDoor.PAll
attribute [local irreducible] AWP AOps AExit AThen ABlock ANoGoto FeetOk
theorem min_nat (n K : Nat) : (if (K : Int) < (n : Int) then (K : Int) else (n : Int)) = ((min n K : Nat) : Int) := by split <;> omega
def fewP (K : Nat) (s : ByteArray) : ByteArray := s.extract 0 (min s.size K)
theorem fewP_size (K : Nat) (s : ByteArray) : (fewP K s).size ≤ K := by unfold fewP; rw [ByteArray.size_extract]; omega
set_option maxHeartbeats 4000000 in
set_option maxRecDepth 10000 in
theorem few_a (s : ByteArray) : ACalls Tryd.prog 14 [.imm (.lit (.string s))] [] (.imm (.lit (.string (fewP 300 s)))) [] := by
  refine acalls_plain Tryd.func14 rfl rfl (Nat.le_of_ble_eq_true rfl) rfl ?_
  repeat' (first | refine aops_nil ?_ | (refine aops_one ?_; first | refine aops_quiet tabOk rfl rfl rfl (Nat.le_of_ble_eq_true rfl) rfl ?_ | refine aops_skip rfl rfl (Nat.le_of_ble_eq_true rfl) ?_ | (refine aops_cmp rfl rfl rfl (Nat.le_of_ble_eq_true rfl) rfl rfl rfl (fun hq => ?_) (fun hq => ?_) <;> (first | (simp only [decide_eq_true_eq, decide_eq_false_iff_not, beq_iff_eq, beq_eq_false_iff_ne, bne_iff_ne, bne_eq_false_iff_eq, Bool.not_eq_true', Bool.not_eq_false'] at hq; first | (exfalso; omega) | skip) | skip))| refine aops_min rfl rfl rfl (Nat.le_of_ble_eq_true rfl) rfl rfl (min_nat s.size 300) ?_ | refine aops_cut tabOk rfl rfl rfl (Nat.le_of_ble_eq_true rfl) rfl rfl rfl rfl (by omega) (by omega) rfl ?_ | refine aops_inc rfl rfl rfl (Nat.le_of_ble_eq_true rfl) rfl rfl (by omega) ?_ | refine aops_add rfl rfl rfl (Nat.le_of_ble_eq_true rfl) rfl rfl rfl (by omega) (by omega) ?_ | refine aops_sub rfl rfl rfl (Nat.le_of_ble_eq_true rfl) rfl rfl rfl (by omega) (by omega) ?_ | refine aops_list tabOk rfl rfl rfl (Nat.le_of_ble_eq_true rfl) rfl rfl rfl rfl rfl rfl rfl rfl rfl ?_ | refine aops_pure tabOk rfl rfl (Nat.le_of_ble_eq_true rfl) rfl ?_ | refine aops_alloc tabOk rfl rfl rfl (Nat.le_of_ble_eq_true rfl) rfl rfl rfl rfl rfl rfl ?_ | refine aops_loadm tabOk rfl rfl rfl (Nat.le_of_ble_eq_true rfl) rfl rfl rfl rfl ?_ | refine aops_storem tabOk rfl rfl rfl rfl rfl rfl rfl rfl rfl rfl rfl ?_ | refine aops_index tabOk rfl rfl rfl (Nat.le_of_ble_eq_true rfl) rfl rfl rfl rfl (by first | assumption | omega) ?_ | refine aops_index0 tabOk rfl rfl rfl (Nat.le_of_ble_eq_true rfl) rfl rfl rfl rfl (by first | rfl | omega) (by first | omega | simp) ?_ | refine aops_load1 tabOk rfl rfl rfl (Nat.le_of_ble_eq_true rfl) rfl rfl rfl (by assumption) ?_ | refine aops_load1 tabOk rfl rfl rfl (Nat.le_of_ble_eq_true rfl) rfl rfl rfl (ivs_get _ _ (by first | assumption | omega)) ?_ | refine aops_inc rfl rfl rfl (Nat.le_of_ble_eq_true rfl) rfl rfl (by omega) ?_ | ((fail_if_success (refine aops_lit (b := true) rfl rfl rfl ?_)); (fail_if_success (refine aops_lit (b := false) rfl rfl rfl ?_)); refine aops_guard rfl rfl rfl (fun hq => ?_) (fun hq => ?_) <;> first | subst hq | (first | (simp only [decide_eq_true_eq, decide_eq_false_iff_not, beq_iff_eq, beq_eq_false_iff_ne, bne_iff_ne, bne_eq_false_iff_eq, Bool.not_eq_true', Bool.not_eq_false'] at hq; first | (exfalso; omega) | skip) | skip)) | fail) | (refine awp_one ?_; first | refine awp_sreg ?_ | refine awp_seq ?_ | refine awp_region ?_ | refine awp_block ?_ | refine awp_ret ?_ | refine awp_exit ?_ | refine awp_skip ?_ | refine awp_cond (b := true) rfl (fun _ => ?_) (fun h => Bool.noConfusion h) | refine awp_cond (b := false) rfl (fun h => Bool.noConfusion h) (fun _ => ?_) | refine awp_scope ?_ | refine awp_label ?_ | refine awp_sdraw mixed (by kernel_rfl) ?_ | refine awp_region_draw mixed (by kernel_rfl) ?_ | (refine awp_cond rfl (fun hq => ?_) (fun hq => ?_) <;> first | subst hq | (first | (simp only [decide_eq_true_eq, decide_eq_false_iff_not, beq_iff_eq, beq_eq_false_iff_ne, bne_iff_ne, bne_eq_false_iff_eq, Bool.not_eq_true', Bool.not_eq_false'] at hq; first | (exfalso; omega) | skip) | skip)) | fail) | (refine then_one ?_; first | refine q_then ?_ | refine q_then_exit ?_ | refine q_then_ret ?_ | fail) | (refine block_one ?_; first | refine q_block ?_ | refine q_block_exit ?_ | refine q_block_pass (by decide) ?_ | refine q_block_ret ?_ | fail) | refine feet_one (feetOk_of (by kernel_rfl)) ?_ | fail)
  exact aexit_plain (by first | exact .inl rfl | exact .inr rfl) (results_1 rfl (resOk_tmp rfl)) rfl
set_option maxHeartbeats 4000000 in
set_option maxRecDepth 10000 in
theorem same_a (fa fb : Bool) (a b : List Tk) (ha : a.length ≤ 1000000) (hb : b.length ≤ 1000000) : ACalls Tryd.prog 50 [.imm (.sl fa a.length (a.flatMap tkIV)), .imm (.sl fb b.length (b.flatMap tkIV))] [] (.imm (.lit (.bool (decide (a = b))))) [] := by
  refine acalls_plain Tryd.func50 rfl rfl (Nat.le_of_ble_eq_true rfl) rfl ?_
  repeat' (first | refine aops_nil ?_ | (refine aops_one ?_; first | refine aops_quiet tabOk rfl rfl rfl (Nat.le_of_ble_eq_true rfl) rfl ?_ | refine aops_skip rfl rfl (Nat.le_of_ble_eq_true rfl) ?_ | (refine aops_cmp rfl rfl rfl (Nat.le_of_ble_eq_true rfl) rfl rfl rfl (fun hq => ?_) (fun hq => ?_) <;> (first | (simp only [decide_eq_true_eq, decide_eq_false_iff_not, beq_iff_eq, beq_eq_false_iff_ne, bne_iff_ne, bne_eq_false_iff_eq, Bool.not_eq_true', Bool.not_eq_false'] at hq; first | (exfalso; omega) | skip) | skip)) | refine aops_inc rfl rfl rfl (Nat.le_of_ble_eq_true rfl) rfl rfl (by omega) ?_ | refine aops_add rfl rfl rfl (Nat.le_of_ble_eq_true rfl) rfl rfl rfl (by omega) (by omega) ?_ | refine aops_sub rfl rfl rfl (Nat.le_of_ble_eq_true rfl) rfl rfl rfl (by omega) (by omega) ?_ | refine aops_list tabOk rfl rfl rfl (Nat.le_of_ble_eq_true rfl) rfl rfl rfl rfl rfl rfl rfl rfl rfl ?_ | refine aops_pure tabOk rfl rfl (Nat.le_of_ble_eq_true rfl) rfl ?_ | refine aops_alloc tabOk rfl rfl rfl (Nat.le_of_ble_eq_true rfl) rfl rfl rfl rfl rfl rfl ?_ | refine aops_loadm tabOk rfl rfl rfl (Nat.le_of_ble_eq_true rfl) rfl rfl rfl rfl ?_ | refine aops_storem tabOk rfl rfl rfl rfl rfl rfl rfl rfl rfl rfl rfl ?_ | refine aops_index tabOk rfl rfl rfl (Nat.le_of_ble_eq_true rfl) rfl rfl rfl rfl (by first | assumption | omega) ?_ | refine aops_index0 tabOk rfl rfl rfl (Nat.le_of_ble_eq_true rfl) rfl rfl rfl rfl (by first | rfl | omega) (by first | omega | simp) ?_ | refine aops_load1 tabOk rfl rfl rfl (Nat.le_of_ble_eq_true rfl) rfl rfl rfl (by assumption) ?_ | refine aops_load1 tabOk rfl rfl rfl (Nat.le_of_ble_eq_true rfl) rfl rfl rfl (ivs_get _ _ (by first | assumption | omega)) ?_ | refine aops_inc rfl rfl rfl (Nat.le_of_ble_eq_true rfl) rfl rfl (by omega) ?_ | ((fail_if_success (refine aops_lit (b := true) rfl rfl rfl ?_)); (fail_if_success (refine aops_lit (b := false) rfl rfl rfl ?_)); refine aops_guard rfl rfl rfl (fun hq => ?_) (fun hq => ?_) <;> first | subst hq | (first | (simp only [decide_eq_true_eq, decide_eq_false_iff_not, beq_iff_eq, beq_eq_false_iff_ne, bne_iff_ne, bne_eq_false_iff_eq, Bool.not_eq_true', Bool.not_eq_false'] at hq; first | (exfalso; omega) | skip) | skip)) | fail) | (refine awp_one ?_; first | refine awp_sreg ?_ | refine awp_seq ?_ | refine awp_region ?_ | refine awp_block ?_ | refine awp_ret ?_ | refine awp_exit ?_ | refine awp_skip ?_ | refine awp_cond (b := true) rfl (fun _ => ?_) (fun h => Bool.noConfusion h) | refine awp_cond (b := false) rfl (fun h => Bool.noConfusion h) (fun _ => ?_) | refine awp_scope ?_ | refine awp_label ?_ | refine awp_sdraw mixed (by kernel_rfl) ?_ | refine awp_region_draw mixed (by kernel_rfl) ?_ | (refine awp_cond rfl (fun hq => ?_) (fun hq => ?_) <;> first | subst hq | (first | (simp only [decide_eq_true_eq, decide_eq_false_iff_not, beq_iff_eq, beq_eq_false_iff_ne, bne_iff_ne, bne_eq_false_iff_eq, Bool.not_eq_true', Bool.not_eq_false'] at hq; first | (exfalso; omega) | skip) | skip)) | fail) | (refine then_one ?_; first | refine q_then ?_ | refine q_then_exit ?_ | refine q_then_ret ?_ | fail) | (refine block_one ?_; first | refine q_block ?_ | refine q_block_exit ?_ | refine q_block_pass (by decide) ?_ | refine q_block_ret ?_ | fail) | refine feet_one (feetOk_of (by kernel_rfl)) ?_ | fail)
  · refine aexit_eq (by first | exact .inl rfl | exact .inr rfl) (results_1 rfl (resOk_tmp rfl)) rfl ?_; exact bool_eq (decide_eq_false (fun e => by subst e; omega)).symm
  · have hl : a.length = b.length := by omega
    refine awp_loop (ι := {j : Nat // j ≤ a.length ∧ a.take j = b.take j}) (fun j => S.f ⟨[(5, .imm (.lit (.int .i64 (j.1 : Int)))), (0, .imm (.sl fa a.length (a.flatMap tkIV))), (1, .imm (.sl fb b.length (b.flatMap tkIV)))], []⟩) (fun j => a.length - j.1) ⟨0, Nat.zero_le _, rfl⟩ (le_of (by repeat' first | exact trivial | refine ⟨rfl, ?_⟩) (by repeat' first | exact trivial | refine ⟨rfl, ?_⟩)) ?_
    rintro ⟨j, hj, hok⟩
    dsimp only
    by_cases hlt : j < a.length
    · have hltb : j < b.length := by omega
      repeat' (first | refine aops_nil ?_ | (refine aops_one ?_; first | refine aops_quiet tabOk rfl rfl rfl (Nat.le_of_ble_eq_true rfl) rfl ?_ | refine aops_skip rfl rfl (Nat.le_of_ble_eq_true rfl) ?_ | (refine aops_cmp rfl rfl rfl (Nat.le_of_ble_eq_true rfl) rfl rfl rfl (fun hq => ?_) (fun hq => ?_) <;> (first | (simp only [decide_eq_true_eq, decide_eq_false_iff_not, beq_iff_eq, beq_eq_false_iff_ne, bne_iff_ne, bne_eq_false_iff_eq, Bool.not_eq_true', Bool.not_eq_false'] at hq; first | (exfalso; omega) | skip) | skip))| refine aops_loadr tabOk rfl rfl rfl (Nat.le_of_ble_eq_true rfl) rfl rfl rfl (tks_get a j hlt) rfl ?_ | refine aops_loadr tabOk rfl rfl rfl (Nat.le_of_ble_eq_true rfl) rfl rfl rfl (tks_get b j hltb) rfl ?_ | refine aops_tkne rfl rfl rfl (Nat.le_of_ble_eq_true rfl) rfl rfl (fun hq => ?_) (fun hq => ?_) | refine aops_inc rfl rfl rfl (Nat.le_of_ble_eq_true rfl) rfl rfl (by omega) ?_ | refine aops_add rfl rfl rfl (Nat.le_of_ble_eq_true rfl) rfl rfl rfl (by omega) (by omega) ?_ | refine aops_sub rfl rfl rfl (Nat.le_of_ble_eq_true rfl) rfl rfl rfl (by omega) (by omega) ?_ | refine aops_list tabOk rfl rfl rfl (Nat.le_of_ble_eq_true rfl) rfl rfl rfl rfl rfl rfl rfl rfl rfl ?_ | refine aops_pure tabOk rfl rfl (Nat.le_of_ble_eq_true rfl) rfl ?_ | refine aops_alloc tabOk rfl rfl rfl (Nat.le_of_ble_eq_true rfl) rfl rfl rfl rfl rfl rfl ?_ | refine aops_loadm tabOk rfl rfl rfl (Nat.le_of_ble_eq_true rfl) rfl rfl rfl rfl ?_ | refine aops_storem tabOk rfl rfl rfl rfl rfl rfl rfl rfl rfl rfl rfl ?_ | refine aops_index tabOk rfl rfl rfl (Nat.le_of_ble_eq_true rfl) rfl rfl rfl rfl (by first | assumption | omega) ?_ | refine aops_index0 tabOk rfl rfl rfl (Nat.le_of_ble_eq_true rfl) rfl rfl rfl rfl (by first | rfl | omega) (by first | omega | simp) ?_ | refine aops_load1 tabOk rfl rfl rfl (Nat.le_of_ble_eq_true rfl) rfl rfl rfl (by assumption) ?_ | refine aops_load1 tabOk rfl rfl rfl (Nat.le_of_ble_eq_true rfl) rfl rfl rfl (ivs_get _ _ (by first | assumption | omega)) ?_ | refine aops_inc rfl rfl rfl (Nat.le_of_ble_eq_true rfl) rfl rfl (by omega) ?_ | ((fail_if_success (refine aops_lit (b := true) rfl rfl rfl ?_)); (fail_if_success (refine aops_lit (b := false) rfl rfl rfl ?_)); refine aops_guard rfl rfl rfl (fun hq => ?_) (fun hq => ?_) <;> first | subst hq | (first | (simp only [decide_eq_true_eq, decide_eq_false_iff_not, beq_iff_eq, beq_eq_false_iff_ne, bne_iff_ne, bne_eq_false_iff_eq, Bool.not_eq_true', Bool.not_eq_false'] at hq; first | (exfalso; omega) | skip) | skip)) | fail) | (refine awp_one ?_; first | refine awp_sreg ?_ | refine awp_seq ?_ | refine awp_region ?_ | refine awp_block ?_ | refine awp_ret ?_ | refine awp_exit ?_ | refine awp_skip ?_ | refine awp_cond (b := true) rfl (fun _ => ?_) (fun h => Bool.noConfusion h) | refine awp_cond (b := false) rfl (fun h => Bool.noConfusion h) (fun _ => ?_) | refine awp_scope ?_ | refine awp_label ?_ | refine awp_sdraw mixed (by kernel_rfl) ?_ | refine awp_region_draw mixed (by kernel_rfl) ?_ | (refine awp_cond rfl (fun hq => ?_) (fun hq => ?_) <;> first | subst hq | (first | (simp only [decide_eq_true_eq, decide_eq_false_iff_not, beq_iff_eq, beq_eq_false_iff_ne, bne_iff_ne, bne_eq_false_iff_eq, Bool.not_eq_true', Bool.not_eq_false'] at hq; first | (exfalso; omega) | skip) | skip)) | fail) | (refine then_one ?_; first | refine q_then ?_ | refine q_then_exit ?_ | refine q_then_ret ?_ | fail) | (refine block_one ?_; first | refine q_block ?_ | refine q_block_exit ?_ | refine q_block_pass (by decide) ?_ | refine q_block_ret ?_ | fail) | refine feet_one (feetOk_of (by kernel_rfl)) ?_ | fail)
      all_goals first
        | (have hq : a[j] ≠ b[j] := by assumption
           refine aexit_eq (by first | exact .inl rfl | exact .inr rfl) (results_1 rfl (resOk_tmp rfl)) rfl ?_; exact bool_eq (decide_eq_false (fun e => hq (by subst e; rfl))).symm)
        | (have hq : a[j] = b[j] := by assumption
           exact ⟨⟨j + 1, hlt, by rw [List.take_succ_eq_append_getElem hlt, List.take_succ_eq_append_getElem hltb, hok, hq]⟩, (by show a.length - (j + 1) < a.length - j; omega), (le_of (by repeat' first | exact trivial | refine ⟨rfl, ?_⟩) (by repeat' first | exact trivial | refine ⟨rfl, ?_⟩))⟩)
    · repeat' (first | refine aops_nil ?_ | (refine aops_one ?_; first | refine aops_quiet tabOk rfl rfl rfl (Nat.le_of_ble_eq_true rfl) rfl ?_ | refine aops_skip rfl rfl (Nat.le_of_ble_eq_true rfl) ?_ | (refine aops_cmp rfl rfl rfl (Nat.le_of_ble_eq_true rfl) rfl rfl rfl (fun hq => ?_) (fun hq => ?_) <;> (first | (simp only [decide_eq_true_eq, decide_eq_false_iff_not, beq_iff_eq, beq_eq_false_iff_ne, bne_iff_ne, bne_eq_false_iff_eq, Bool.not_eq_true', Bool.not_eq_false'] at hq; first | (exfalso; omega) | skip) | skip)) | refine aops_inc rfl rfl rfl (Nat.le_of_ble_eq_true rfl) rfl rfl (by omega) ?_ | refine aops_add rfl rfl rfl (Nat.le_of_ble_eq_true rfl) rfl rfl rfl (by omega) (by omega) ?_ | refine aops_sub rfl rfl rfl (Nat.le_of_ble_eq_true rfl) rfl rfl rfl (by omega) (by omega) ?_ | refine aops_list tabOk rfl rfl rfl (Nat.le_of_ble_eq_true rfl) rfl rfl rfl rfl rfl rfl rfl rfl rfl ?_ | refine aops_pure tabOk rfl rfl (Nat.le_of_ble_eq_true rfl) rfl ?_ | refine aops_alloc tabOk rfl rfl rfl (Nat.le_of_ble_eq_true rfl) rfl rfl rfl rfl rfl rfl ?_ | refine aops_loadm tabOk rfl rfl rfl (Nat.le_of_ble_eq_true rfl) rfl rfl rfl rfl ?_ | refine aops_storem tabOk rfl rfl rfl rfl rfl rfl rfl rfl rfl rfl rfl ?_ | refine aops_index tabOk rfl rfl rfl (Nat.le_of_ble_eq_true rfl) rfl rfl rfl rfl (by first | assumption | omega) ?_ | refine aops_index0 tabOk rfl rfl rfl (Nat.le_of_ble_eq_true rfl) rfl rfl rfl rfl (by first | rfl | omega) (by first | omega | simp) ?_ | refine aops_load1 tabOk rfl rfl rfl (Nat.le_of_ble_eq_true rfl) rfl rfl rfl (by assumption) ?_ | refine aops_load1 tabOk rfl rfl rfl (Nat.le_of_ble_eq_true rfl) rfl rfl rfl (ivs_get _ _ (by first | assumption | omega)) ?_ | refine aops_inc rfl rfl rfl (Nat.le_of_ble_eq_true rfl) rfl rfl (by omega) ?_ | ((fail_if_success (refine aops_lit (b := true) rfl rfl rfl ?_)); (fail_if_success (refine aops_lit (b := false) rfl rfl rfl ?_)); refine aops_guard rfl rfl rfl (fun hq => ?_) (fun hq => ?_) <;> first | subst hq | (first | (simp only [decide_eq_true_eq, decide_eq_false_iff_not, beq_iff_eq, beq_eq_false_iff_ne, bne_iff_ne, bne_eq_false_iff_eq, Bool.not_eq_true', Bool.not_eq_false'] at hq; first | (exfalso; omega) | skip) | skip)) | fail) | (refine awp_one ?_; first | refine awp_sreg ?_ | refine awp_seq ?_ | refine awp_region ?_ | refine awp_block ?_ | refine awp_ret ?_ | refine awp_exit ?_ | refine awp_skip ?_ | refine awp_cond (b := true) rfl (fun _ => ?_) (fun h => Bool.noConfusion h) | refine awp_cond (b := false) rfl (fun h => Bool.noConfusion h) (fun _ => ?_) | refine awp_scope ?_ | refine awp_label ?_ | refine awp_sdraw mixed (by kernel_rfl) ?_ | refine awp_region_draw mixed (by kernel_rfl) ?_ | (refine awp_cond rfl (fun hq => ?_) (fun hq => ?_) <;> first | subst hq | (first | (simp only [decide_eq_true_eq, decide_eq_false_iff_not, beq_iff_eq, beq_eq_false_iff_ne, bne_iff_ne, bne_eq_false_iff_eq, Bool.not_eq_true', Bool.not_eq_false'] at hq; first | (exfalso; omega) | skip) | skip)) | fail) | (refine then_one ?_; first | refine q_then ?_ | refine q_then_exit ?_ | refine q_then_ret ?_ | fail) | (refine block_one ?_; first | refine q_block ?_ | refine q_block_exit ?_ | refine q_block_pass (by decide) ?_ | refine q_block_ret ?_ | fail) | refine feet_one (feetOk_of (by kernel_rfl)) ?_ | fail)
      all_goals (refine aexit_eq (by first | exact .inl rfl | exact .inr rfl) (results_1 rfl (resOk_tmp rfl)) rfl ?_; refine bool_eq (decide_eq_true ?_).symm; have e : j = a.length := by omega
                 rw [e, List.take_length, hl, List.take_length] at hok; first | done | exact hok)
abbrev exS : ByteArray := ⟨#[97, 46, 98, 61, 62, 126, 48, 55]⟩
def exL : List Tk := [⟨1, ⟨#[97, 46, 98]⟩, 0, 0⟩, ⟨3, ⟨#[61, 62]⟩, 0, 3⟩, ⟨2, ⟨#[126, 55]⟩, -7, 5⟩]
theorem ex_lex : lexB exS = (exL, 0, 0) := by decide +kernel
set_option maxHeartbeats 4000000 in
set_option maxRecDepth 10000 in
theorem works_a : ACalls Tryd.prog 18 [] [] (.imm (.lit (.bool true))) [] := by
  have hL := lex_a exS (by decide)
  rw [show lexIV exS = .tup [.sl false 3 (exL.flatMap tkIV), .lit (.int .i64 0), .lit (.int .i64 0)] from by unfold lexIV; rw [ex_lex]; rfl] at hL
  have hS := same_a false true exL exL (by decide) (by decide)
  rw [decide_eq_true (rfl : exL = exL)] at hS
  refine acalls_plain Tryd.func18 rfl rfl (Nat.le_of_ble_eq_true rfl) rfl ?_
  repeat' (first | refine aops_nil ?_ | (refine aops_one ?_; first | refine aops_quiet tabOk rfl rfl rfl (Nat.le_of_ble_eq_true rfl) rfl ?_ | refine aops_skip rfl rfl (Nat.le_of_ble_eq_true rfl) ?_ | (refine aops_cmp rfl rfl rfl (Nat.le_of_ble_eq_true rfl) rfl rfl rfl (fun hq => ?_) (fun hq => ?_) <;> (first | (simp only [decide_eq_true_eq, decide_eq_false_iff_not, beq_iff_eq, beq_eq_false_iff_ne, bne_iff_ne, bne_eq_false_iff_eq, Bool.not_eq_true', Bool.not_eq_false'] at hq; first | (exfalso; omega) | skip) | skip))| refine aops_call rfl rfl (Nat.le_of_ble_eq_true rfl) rfl rfl rfl rfl (hL) ?_ | refine aops_call rfl rfl (Nat.le_of_ble_eq_true rfl) rfl rfl rfl rfl (hS) ?_ | refine aops_inc rfl rfl rfl (Nat.le_of_ble_eq_true rfl) rfl rfl (by omega) ?_ | refine aops_add rfl rfl rfl (Nat.le_of_ble_eq_true rfl) rfl rfl rfl (by omega) (by omega) ?_ | refine aops_sub rfl rfl rfl (Nat.le_of_ble_eq_true rfl) rfl rfl rfl (by omega) (by omega) ?_ | refine aops_list tabOk rfl rfl rfl (Nat.le_of_ble_eq_true rfl) rfl rfl rfl rfl rfl rfl rfl rfl rfl ?_ | refine aops_pure tabOk rfl rfl (Nat.le_of_ble_eq_true rfl) rfl ?_ | refine aops_alloc tabOk rfl rfl rfl (Nat.le_of_ble_eq_true rfl) rfl rfl rfl rfl rfl rfl ?_ | refine aops_loadm tabOk rfl rfl rfl (Nat.le_of_ble_eq_true rfl) rfl rfl rfl rfl ?_ | refine aops_storem tabOk rfl rfl rfl rfl rfl rfl rfl rfl rfl rfl rfl ?_ | refine aops_index tabOk rfl rfl rfl (Nat.le_of_ble_eq_true rfl) rfl rfl rfl rfl (by first | assumption | omega) ?_ | refine aops_index0 tabOk rfl rfl rfl (Nat.le_of_ble_eq_true rfl) rfl rfl rfl rfl (by first | rfl | omega) (by first | omega | simp) ?_ | refine aops_load1 tabOk rfl rfl rfl (Nat.le_of_ble_eq_true rfl) rfl rfl rfl (by assumption) ?_ | refine aops_load1 tabOk rfl rfl rfl (Nat.le_of_ble_eq_true rfl) rfl rfl rfl (ivs_get _ _ (by first | assumption | omega)) ?_ | refine aops_inc rfl rfl rfl (Nat.le_of_ble_eq_true rfl) rfl rfl (by omega) ?_ | ((fail_if_success (refine aops_lit (b := true) rfl rfl rfl ?_)); (fail_if_success (refine aops_lit (b := false) rfl rfl rfl ?_)); refine aops_guard rfl rfl rfl (fun hq => ?_) (fun hq => ?_) <;> first | subst hq | (first | (simp only [decide_eq_true_eq, decide_eq_false_iff_not, beq_iff_eq, beq_eq_false_iff_ne, bne_iff_ne, bne_eq_false_iff_eq, Bool.not_eq_true', Bool.not_eq_false'] at hq; first | (exfalso; omega) | skip) | skip)) | fail) | (refine awp_one ?_; first | refine awp_sreg ?_ | refine awp_seq ?_ | refine awp_region ?_ | refine awp_block ?_ | refine awp_ret ?_ | refine awp_exit ?_ | refine awp_skip ?_ | refine awp_cond (b := true) rfl (fun _ => ?_) (fun h => Bool.noConfusion h) | refine awp_cond (b := false) rfl (fun h => Bool.noConfusion h) (fun _ => ?_) | refine awp_scope ?_ | refine awp_label ?_ | refine awp_sdraw mixed (by kernel_rfl) ?_ | refine awp_region_draw mixed (by kernel_rfl) ?_ | (refine awp_cond rfl (fun hq => ?_) (fun hq => ?_) <;> first | subst hq | (first | (simp only [decide_eq_true_eq, decide_eq_false_iff_not, beq_iff_eq, beq_eq_false_iff_ne, bne_iff_ne, bne_eq_false_iff_eq, Bool.not_eq_true', Bool.not_eq_false'] at hq; first | (exfalso; omega) | skip) | skip)) | fail) | (refine then_one ?_; first | refine q_then ?_ | refine q_then_exit ?_ | refine q_then_ret ?_ | fail) | (refine block_one ?_; first | refine q_block ?_ | refine q_block_exit ?_ | refine q_block_pass (by decide) ?_ | refine q_block_ret ?_ | fail) | refine feet_one (feetOk_of (by kernel_rfl)) ?_ | fail)
  exact aexit_plain (by first | exact .inl rfl | exact .inr rfl) (results_1 rfl (resOk_tmp rfl)) rfl
theorem fits_s {xs : List IV} (h : FitsAll [.string] xs) : ∃ s, xs = [.lit (.string s)] ∧ s.size ≤ 140737488351232 := by
  cases h with
  | cons h1 h2 =>
    cases h2
    cases h1 with
    | string s hs => exact ⟨s, rfl, hs⟩
end Go.Proofs.YtdeingogdblddaaDoor.Ab
namespace Go.Proofs.YtdeingogdblddaaDoor.Ab
set_option linter.unusedVariables false
set_option linter.unusedSimpArgs false
open Go.RowKit Go.Lib Go.Proofs.YtdeingogdblddaaDoorW.PrintWords Go.Proofs.YtdeingogdblddaaDoorW.PrintLast Go.Proofs.YtdeingogdblddaaDoorW.PrintMore Go.Proofs.YtdeingogdblddaaDoor.RP Go.Proofs.YtdeingogdblddaaDoor.RW Go.Proofs.YtdeingogdblddaaDoor.PAll
attribute [local irreducible] AWP AOps AExit AThen ABlock ANoGoto FeetOk
theorem ck_range (s : ByteArray) : ∀ (f pos : Nat), pos ≤ s.size → 0 ≤ (ck s f pos).1 ∧ (ck s f pos).1 ≤ s.size
  | 0, pos, h => by rw [show ck s 0 pos = (0, 0) from rfl]; exact ⟨by simp, by simp⟩
  | f + 1, pos, h => by
    by_cases hp : pos < s.size
    · by_cases hb : badR (Utf8.decode s pos).1
      · rw [ck_bad hp hb]; exact ⟨by simp, by dsimp only; omega⟩
      · rw [ck_on hp hb]; exact ck_range s f _ (w_le s pos hp)
    · rw [ck_end hp]; exact ⟨by simp, by simp⟩
theorem checkP_range (s : ByteArray) : 0 ≤ (checkP s).1 ∧ (checkP s).1 ≤ s.size := by
  unfold checkP
  split
  · exact ⟨by simp, by simp⟩
  · exact ck_range s s.size 0 (Nat.zero_le _)
theorem lexB_bad (s : ByteArray) (hs : s.size ≤ 16384) (h : (lexB s).2.2 ≠ 0) : (lexB s).1 = [] ∧ 0 ≤ (lexB s).2.1 ∧ (lexB s).2.1 ≤ s.size := by
  rcases lexB_any s hs with ⟨l, h1, rfl, h3⟩ | ⟨h1, h2⟩
  · cases hl : lex l with
    | some A =>
      rw [hl] at h3
      have h3' : lexB (enc l) = _ := h3
      rw [h3'] at h; exact absurd rfl h
    | none =>
      rw [hl] at h3
      obtain ⟨k, hk, h3'⟩ := h3
      rw [h3']; exact ⟨rfl, by simp, by dsimp only; omega⟩
  · rw [h2]; exact ⟨rfl, checkP_range s⟩
def tkOf (S : Nat) (p : Tk × List Int) : Tk := setAt p.1 ((S - (enc p.2).size : Nat) : Int)
theorem lexB_ok (s : ByteArray) (hs : s.size ≤ 16384) (h : (lexB s).2.2 = 0) : ∃ l A, TextL l ∧ s = enc l ∧ lex l = some A ∧ lexB s = (A.map (tkOf s.size), 0, 0) := by
  rcases lexB_any s hs with ⟨l, h1, rfl, h3⟩ | ⟨h1, h2⟩
  · cases hl : lex l with
    | some A =>
      rw [hl] at h3
      exact ⟨l, A, h1, rfl, hl, h3⟩
    | none =>
      rw [hl] at h3
      obtain ⟨k, hk, h3'⟩ := h3
      rw [h3'] at h; cases h
  · rw [h2] at h; exact absurd h h1
theorem lexB_of (l : List Int) (A : List (Tk × List Int)) (h : TextL l) (hz : (enc l).size ≤ 16384) (hl : lex l = some A) : lexB (enc l) = (A.map (tkOf (enc l).size), 0, 0) := by
  have := lexB_enc l h hz
  rw [hl] at this
  exact this
theorem places (s : ByteArray) (hs : s.size ≤ 16384) (h : (lexB s).2.2 = 0) (j : Nat) (hj : j < (lexB s).1.length) :
    ∃ (k n : Int) (tx : ByteArray) (a : Nat) (C : List Tk), (lexB s).1[j] = ⟨k, tx, n, (a : Int)⟩ ∧ a < s.size ∧ lexB (s.extract a s.size) = (⟨k, tx, n, 0⟩ :: C, 0, 0) ∧ ∀ (i : Nat) (hi : i < (lexB s).1.length), i + 1 = j → (lexB s).1[i].f3 < (a : Int) := by
  obtain ⟨l, A, h1, rfl, h2, h3⟩ := lexB_ok s hs h
  have hA : (lexB (enc l)).1 = A.map (tkOf (enc l).size) := by rw [h3]
  have hjA : j < A.length := by rw [hA, List.length_map] at hj; exact hj
  have key : ∀ i (hi : i < A.length), lex A[i].2 = some (A[i] :: A.drop (i + 1)) ∧ A[i].2 ≠ [] ∧ ∃ pre, l = pre ++ A[i].2 := fun i hi => by
    refine lex_part l.length l A (Nat.le_refl _) h2 (A.take i) A[i] (A.drop (i + 1)) ?_
    rw [← List.drop_eq_getElem_cons hi, List.take_append_drop]
  obtain ⟨k1, k2, pre, k3⟩ := key j hjA
  have hg := h1.good
  have hsub : TextL A[j].2 := fun r hr => h1 r (by rw [k3]; exact List.mem_append_right _ hr)
  have hsz : (enc l).size = (enc pre).size + (enc A[j].2).size := by rw [← enc_app_size, ← k3]
  have hpos : 0 < (enc A[j].2).size := by
    rcases Nat.eq_zero_or_pos (enc A[j].2).size with h0 | h0
    · exact absurd ((enc_nil_iff _ hsub.good).1 h0) k2
    · exact h0
  have hex : (enc l).extract (enc pre).size (enc l).size = enc A[j].2 := by
    have := ext_post pre A[j].2
    rw [← k3] at this
    exact this
  have hget : (lexB (enc l)).1[j] = tkOf (enc l).size A[j] := by simp only [hA, List.getElem_map]
  have h4 := lexB_of A[j].2 _ hsub (by omega) k1
  refine ⟨A[j].1.f0, A[j].1.f2, A[j].1.f1, (enc pre).size, (A.drop (j + 1)).map (tkOf (enc A[j].2).size), ?_, by omega, ?_, fun i hi hij => ?_⟩
  · rw [hget]; unfold tkOf setAt; congr 2; omega
  · rw [hex, h4, List.map_cons]
    unfold tkOf setAt
    rw [Nat.sub_self]; rfl
  · have hiA : i < A.length := by omega
    obtain ⟨i1, i2, _⟩ := key i hiA
    have hgi : (lexB (enc l)).1[i] = tkOf (enc l).size A[i] := by simp only [hA, List.getElem_map]
    have hmem : A[j] ∈ A.drop (i + 1) := by
      rw [List.mem_iff_getElem]
      exact ⟨0, by rw [List.length_drop]; omega, by rw [List.getElem_drop]; congr 1⟩
    obtain ⟨_, h6⟩ := lex_head (l := l) i1 i2
    obtain ⟨y, hy, hy2⟩ := h6 _ hmem
    have hsi : (enc A[i].2).size = (enc y).size + (enc A[j].2).size := by rw [← enc_app_size, ← hy2]
    have hyg : RP.Good y := fun r hr => hg r (by
      obtain ⟨_, _, pre2, e2⟩ := key i hiA
      rw [e2, hy2]; exact List.mem_append_right _ (List.mem_append_left _ hr))
    have hyp : 0 < (enc y).size := by
      rcases Nat.eq_zero_or_pos (enc y).size with h0 | h0
      · exact absurd ((enc_nil_iff _ hyg).1 h0) hy
      · exact h0
    rw [hgi]
    show (((enc l).size - (enc A[i].2).size : Nat) : Int) < _
    obtain ⟨_, _, pre2, e2⟩ := key i hiA
    have hs2 : (enc l).size = (enc pre2).size + (enc A[i].2).size := by rw [← enc_app_size, ← e2]
    omega
theorem tk_cons (t : Tk) (C : List Tk) : (t :: C).flatMap tkIV = [IV.lit (.int .i64 t.f0), .lit (.string t.f1), .lit (.int .i64 t.f2), .lit (.int .i64 t.f3)] ++ C.flatMap tkIV := rfl
theorem at_next {l : List Tk} {j : Nat} {h : j < l.length} {k n : Int} {tx : ByteArray} {a : Int} (h1 : l[j] = ⟨k, tx, n, a⟩) : ∀ (i : Nat) (hi : i < l.length), i + 1 = j + 1 → l[i].f3 = a := fun i hi hij => by
  have e : i = j := by omega
  subst e
  rw [h1]
set_option maxHeartbeats 8000000 in
set_option maxRecDepth 10000 in
theorem LexerPlaces_a (s0 : ByteArray) : ACalls Tryd.prog 5 [.imm (.lit (.string s0))] [] (.imm (.lit (.bool true))) [] := by
  have hsz := fewP_size 300 s0
  have hfew := few_a s0
  generalize fewP 300 s0 = s at hsz hfew
  have hL := lex_a s (by omega)
  have hbad := lexB_bad s (by omega)
  have hplaces := places s (by omega)
  have hlen := lexB_len s
  unfold lexIV tksIV at hL
  generalize lexB s = R at hL hbad hplaces hlen
  obtain ⟨l, at_, e⟩ := R
  dsimp only at hL hbad hplaces hlen
  refine acalls_plain Tryd.func5 rfl rfl (Nat.le_of_ble_eq_true rfl) rfl ?_
  repeat' (first | refine aops_nil ?_ | (refine aops_one ?_; first | refine aops_quiet tabOk rfl rfl rfl (Nat.le_of_ble_eq_true rfl) rfl ?_ | refine aops_skip rfl rfl (Nat.le_of_ble_eq_true rfl) ?_ | (refine aops_cmp rfl rfl rfl (Nat.le_of_ble_eq_true rfl) rfl rfl rfl (fun hq => ?_) (fun hq => ?_) <;> (first | (simp only [decide_eq_true_eq, decide_eq_false_iff_not, beq_iff_eq, beq_eq_false_iff_ne, bne_iff_ne, bne_eq_false_iff_eq, Bool.not_eq_true', Bool.not_eq_false'] at hq; first | (exfalso; omega) | skip) | skip))| refine aops_call rfl rfl (Nat.le_of_ble_eq_true rfl) rfl rfl rfl rfl (hfew) ?_ | refine aops_call rfl rfl (Nat.le_of_ble_eq_true rfl) rfl rfl rfl rfl (hL) ?_ | refine aops_call rfl rfl (Nat.le_of_ble_eq_true rfl) rfl rfl rfl rfl (works_a) ?_ | refine aops_inc rfl rfl rfl (Nat.le_of_ble_eq_true rfl) rfl rfl (by omega) ?_ | refine aops_add rfl rfl rfl (Nat.le_of_ble_eq_true rfl) rfl rfl rfl (by omega) (by omega) ?_ | refine aops_sub rfl rfl rfl (Nat.le_of_ble_eq_true rfl) rfl rfl rfl (by omega) (by omega) ?_ | refine aops_list tabOk rfl rfl rfl (Nat.le_of_ble_eq_true rfl) rfl rfl rfl rfl rfl rfl rfl rfl rfl ?_ | refine aops_pure tabOk rfl rfl (Nat.le_of_ble_eq_true rfl) rfl ?_ | refine aops_alloc tabOk rfl rfl rfl (Nat.le_of_ble_eq_true rfl) rfl rfl rfl rfl rfl rfl ?_ | refine aops_loadm tabOk rfl rfl rfl (Nat.le_of_ble_eq_true rfl) rfl rfl rfl rfl ?_ | refine aops_storem tabOk rfl rfl rfl rfl rfl rfl rfl rfl rfl rfl rfl ?_ | refine aops_index tabOk rfl rfl rfl (Nat.le_of_ble_eq_true rfl) rfl rfl rfl rfl (by first | assumption | omega) ?_ | refine aops_index0 tabOk rfl rfl rfl (Nat.le_of_ble_eq_true rfl) rfl rfl rfl rfl (by first | rfl | omega) (by first | omega | simp) ?_ | refine aops_load1 tabOk rfl rfl rfl (Nat.le_of_ble_eq_true rfl) rfl rfl rfl (by assumption) ?_ | refine aops_load1 tabOk rfl rfl rfl (Nat.le_of_ble_eq_true rfl) rfl rfl rfl (ivs_get _ _ (by first | assumption | omega)) ?_ | refine aops_inc rfl rfl rfl (Nat.le_of_ble_eq_true rfl) rfl rfl (by omega) ?_ | ((fail_if_success (refine aops_lit (b := true) rfl rfl rfl ?_)); (fail_if_success (refine aops_lit (b := false) rfl rfl rfl ?_)); refine aops_guard rfl rfl rfl (fun hq => ?_) (fun hq => ?_) <;> first | subst hq | (first | (simp only [decide_eq_true_eq, decide_eq_false_iff_not, beq_iff_eq, beq_eq_false_iff_ne, bne_iff_ne, bne_eq_false_iff_eq, Bool.not_eq_true', Bool.not_eq_false'] at hq; first | (exfalso; omega) | skip) | skip)) | fail) | (refine awp_one ?_; first | refine awp_sreg ?_ | refine awp_seq ?_ | refine awp_region ?_ | refine awp_block ?_ | refine awp_ret ?_ | refine awp_exit ?_ | refine awp_skip ?_ | refine awp_cond (b := true) rfl (fun _ => ?_) (fun h => Bool.noConfusion h) | refine awp_cond (b := false) rfl (fun h => Bool.noConfusion h) (fun _ => ?_) | refine awp_scope ?_ | refine awp_label ?_ | refine awp_sdraw mixed (by kernel_rfl) ?_ | refine awp_region_draw mixed (by kernel_rfl) ?_ | (refine awp_cond rfl (fun hq => ?_) (fun hq => ?_) <;> first | subst hq | (first | (simp only [decide_eq_true_eq, decide_eq_false_iff_not, beq_iff_eq, beq_eq_false_iff_ne, bne_iff_ne, bne_eq_false_iff_eq, Bool.not_eq_true', Bool.not_eq_false'] at hq; first | (exfalso; omega) | skip) | skip)) | fail) | (refine then_one ?_; first | refine q_then ?_ | refine q_then_exit ?_ | refine q_then_ret ?_ | fail) | (refine block_one ?_; first | refine q_block ?_ | refine q_block_exit ?_ | refine q_block_pass (by decide) ?_ | refine q_block_ret ?_ | fail) | refine feet_one (feetOk_of (by kernel_rfl)) ?_ | fail)
  all_goals first
    | (have hne : e ≠ 0 := by assumption
       first
         | exact aexit_plain (by first | exact .inl rfl | exact .inr rfl) (results_1 rfl (resOk_tmp rfl)) rfl
         | (exfalso; have := hbad hne; omega))
    | skip
  · have he : e = 0 := by omega
    have hplaces := hplaces he
    refine awp_loop (ι := {p : Nat × Int // p.1 ≤ l.length ∧ (p.1 = 0 → p.2 = -1) ∧ (∀ (i : Nat) (hi : i < l.length), i + 1 = p.1 → l[i].f3 = p.2)}) (fun p => S.f ⟨[(35, .imm (.lit (.int .i64 (p.1.1 : Int)))), (34, .imm (.lit (.int .i64 (l.length : Int)))), (33, .imm (.sl false l.length (l.flatMap tkIV))), (6, .imm (.lit (.int .i64 p.1.2))), (0, .imm (.lit (.string s)))], []⟩) (fun p => l.length - p.1.1) ⟨(0, -1), Nat.zero_le _, fun _ => rfl, fun i _ h => by simp at h⟩ (le_of (by repeat' first | exact trivial | refine ⟨rfl, ?_⟩) (by repeat' first | exact trivial | refine ⟨rfl, ?_⟩)) ?_
    rintro ⟨⟨j, last⟩, hj, hl0, hl1⟩
    dsimp only at hj hl0 hl1 ⊢
    by_cases hlt : j < l.length
    · obtain ⟨k, n, tx, a, C, h1, h2, h3, h4⟩ := hplaces j hlt
      have hlast : last < (a : Int) := by
        cases j with
        | zero => rw [hl0 rfl]; omega
        | succ j => rw [← hl1 j (by omega) rfl]; exact h4 j (by omega) rfl
      have hex : (s.extract a s.size).size ≤ 1000000 := by rw [ByteArray.size_extract]; omega
      have hL2 := lex_a (s.extract a s.size) hex
      unfold lexIV tksIV at hL2
      rw [h3] at hL2
      dsimp only at hL2
      rw [tk_cons, List.length_cons] at hL2
      have hrow := tks_get l j hlt
      rw [h1] at hrow
      change _ = [IV.lit (.int .i64 k), .lit (.string tx), .lit (.int .i64 n), .lit (.int .i64 (a : Int))] at hrow
      repeat' (first | refine aops_nil ?_ | (refine aops_one ?_; first | refine aops_quiet tabOk rfl rfl rfl (Nat.le_of_ble_eq_true rfl) rfl ?_ | refine aops_skip rfl rfl (Nat.le_of_ble_eq_true rfl) ?_ | (refine aops_cmp rfl rfl rfl (Nat.le_of_ble_eq_true rfl) rfl rfl rfl (fun hq => ?_) (fun hq => ?_) <;> (first | (simp only [decide_eq_true_eq, decide_eq_false_iff_not, beq_iff_eq, beq_eq_false_iff_ne, bne_iff_ne, bne_eq_false_iff_eq, Bool.not_eq_true', Bool.not_eq_false'] at hq; first | (exfalso; omega) | skip) | skip))| refine aops_loadr tabOk rfl rfl rfl (Nat.le_of_ble_eq_true rfl) rfl rfl rfl hrow rfl ?_ | refine aops_cut tabOk rfl rfl rfl (Nat.le_of_ble_eq_true rfl) rfl rfl rfl rfl (by omega) (by omega) rfl ?_ | refine aops_call rfl rfl (Nat.le_of_ble_eq_true rfl) rfl rfl rfl rfl (hL2) ?_ | refine aops_inc rfl rfl rfl (Nat.le_of_ble_eq_true rfl) rfl rfl (by omega) ?_ | refine aops_add rfl rfl rfl (Nat.le_of_ble_eq_true rfl) rfl rfl rfl (by omega) (by omega) ?_ | refine aops_sub rfl rfl rfl (Nat.le_of_ble_eq_true rfl) rfl rfl rfl (by omega) (by omega) ?_ | refine aops_list tabOk rfl rfl rfl (Nat.le_of_ble_eq_true rfl) rfl rfl rfl rfl rfl rfl rfl rfl rfl ?_ | refine aops_pure tabOk rfl rfl (Nat.le_of_ble_eq_true rfl) rfl ?_ | refine aops_alloc tabOk rfl rfl rfl (Nat.le_of_ble_eq_true rfl) rfl rfl rfl rfl rfl rfl ?_ | refine aops_loadm tabOk rfl rfl rfl (Nat.le_of_ble_eq_true rfl) rfl rfl rfl rfl ?_ | refine aops_storem tabOk rfl rfl rfl rfl rfl rfl rfl rfl rfl rfl rfl ?_ | refine aops_index tabOk rfl rfl rfl (Nat.le_of_ble_eq_true rfl) rfl rfl rfl rfl (by first | assumption | omega) ?_ | refine aops_index0 tabOk rfl rfl rfl (Nat.le_of_ble_eq_true rfl) rfl rfl rfl rfl (by first | rfl | omega) (by first | omega | simp) ?_ | refine aops_load1 tabOk rfl rfl rfl (Nat.le_of_ble_eq_true rfl) rfl rfl rfl (by assumption) ?_ | refine aops_load1 tabOk rfl rfl rfl (Nat.le_of_ble_eq_true rfl) rfl rfl rfl (ivs_get _ _ (by first | assumption | omega)) ?_ | refine aops_inc rfl rfl rfl (Nat.le_of_ble_eq_true rfl) rfl rfl (by omega) ?_ | ((fail_if_success (refine aops_lit (b := true) rfl rfl rfl ?_)); (fail_if_success (refine aops_lit (b := false) rfl rfl rfl ?_)); refine aops_guard rfl rfl rfl (fun hq => ?_) (fun hq => ?_) <;> first | subst hq | (first | (simp only [decide_eq_true_eq, decide_eq_false_iff_not, beq_iff_eq, beq_eq_false_iff_ne, bne_iff_ne, bne_eq_false_iff_eq, Bool.not_eq_true', Bool.not_eq_false'] at hq; first | (exfalso; omega) | skip) | skip)) | fail) | (refine awp_one ?_; first | refine awp_sreg ?_ | refine awp_seq ?_ | refine awp_region ?_ | refine awp_block ?_ | refine awp_ret ?_ | refine awp_exit ?_ | refine awp_skip ?_ | refine awp_cond (b := true) rfl (fun _ => ?_) (fun h => Bool.noConfusion h) | refine awp_cond (b := false) rfl (fun h => Bool.noConfusion h) (fun _ => ?_) | refine awp_scope ?_ | refine awp_label ?_ | refine awp_sdraw mixed (by kernel_rfl) ?_ | refine awp_region_draw mixed (by kernel_rfl) ?_ | (refine awp_cond rfl (fun hq => ?_) (fun hq => ?_) <;> first | subst hq | (first | (simp only [decide_eq_true_eq, decide_eq_false_iff_not, beq_iff_eq, beq_eq_false_iff_ne, bne_iff_ne, bne_eq_false_iff_eq, Bool.not_eq_true', Bool.not_eq_false'] at hq; first | (exfalso; omega) | skip) | skip)) | fail) | (refine then_one ?_; first | refine q_then ?_ | refine q_then_exit ?_ | refine q_then_ret ?_ | fail) | (refine block_one ?_; first | refine q_block ?_ | refine q_block_exit ?_ | refine q_block_pass (by decide) ?_ | refine q_block_ret ?_ | fail) | refine feet_one (feetOk_of (by kernel_rfl)) ?_ | fail)
      all_goals first
        | (exfalso; omega)
        | (exact absurd rfl (by assumption))
        | (exact ⟨⟨(j + 1, (a : Int)), hlt, fun h => absurd h (Nat.succ_ne_zero _), at_next h1⟩, (by show l.length - (j + 1) < l.length - j; omega), (le_of (by repeat' first | exact trivial | refine ⟨rfl, ?_⟩) (by repeat' first | exact trivial | refine ⟨rfl, ?_⟩))⟩)
    · repeat' (first | refine aops_nil ?_ | (refine aops_one ?_; first | refine aops_quiet tabOk rfl rfl rfl (Nat.le_of_ble_eq_true rfl) rfl ?_ | refine aops_skip rfl rfl (Nat.le_of_ble_eq_true rfl) ?_ | (refine aops_cmp rfl rfl rfl (Nat.le_of_ble_eq_true rfl) rfl rfl rfl (fun hq => ?_) (fun hq => ?_) <;> (first | (simp only [decide_eq_true_eq, decide_eq_false_iff_not, beq_iff_eq, beq_eq_false_iff_ne, bne_iff_ne, bne_eq_false_iff_eq, Bool.not_eq_true', Bool.not_eq_false'] at hq; first | (exfalso; omega) | skip) | skip))| refine aops_call rfl rfl (Nat.le_of_ble_eq_true rfl) rfl rfl rfl rfl (works_a) ?_ | refine aops_inc rfl rfl rfl (Nat.le_of_ble_eq_true rfl) rfl rfl (by omega) ?_ | refine aops_add rfl rfl rfl (Nat.le_of_ble_eq_true rfl) rfl rfl rfl (by omega) (by omega) ?_ | refine aops_sub rfl rfl rfl (Nat.le_of_ble_eq_true rfl) rfl rfl rfl (by omega) (by omega) ?_ | refine aops_list tabOk rfl rfl rfl (Nat.le_of_ble_eq_true rfl) rfl rfl rfl rfl rfl rfl rfl rfl rfl ?_ | refine aops_pure tabOk rfl rfl (Nat.le_of_ble_eq_true rfl) rfl ?_ | refine aops_alloc tabOk rfl rfl rfl (Nat.le_of_ble_eq_true rfl) rfl rfl rfl rfl rfl rfl ?_ | refine aops_loadm tabOk rfl rfl rfl (Nat.le_of_ble_eq_true rfl) rfl rfl rfl rfl ?_ | refine aops_storem tabOk rfl rfl rfl rfl rfl rfl rfl rfl rfl rfl rfl ?_ | refine aops_index tabOk rfl rfl rfl (Nat.le_of_ble_eq_true rfl) rfl rfl rfl rfl (by first | assumption | omega) ?_ | refine aops_index0 tabOk rfl rfl rfl (Nat.le_of_ble_eq_true rfl) rfl rfl rfl rfl (by first | rfl | omega) (by first | omega | simp) ?_ | refine aops_load1 tabOk rfl rfl rfl (Nat.le_of_ble_eq_true rfl) rfl rfl rfl (by assumption) ?_ | refine aops_load1 tabOk rfl rfl rfl (Nat.le_of_ble_eq_true rfl) rfl rfl rfl (ivs_get _ _ (by first | assumption | omega)) ?_ | refine aops_inc rfl rfl rfl (Nat.le_of_ble_eq_true rfl) rfl rfl (by omega) ?_ | ((fail_if_success (refine aops_lit (b := true) rfl rfl rfl ?_)); (fail_if_success (refine aops_lit (b := false) rfl rfl rfl ?_)); refine aops_guard rfl rfl rfl (fun hq => ?_) (fun hq => ?_) <;> first | subst hq | (first | (simp only [decide_eq_true_eq, decide_eq_false_iff_not, beq_iff_eq, beq_eq_false_iff_ne, bne_iff_ne, bne_eq_false_iff_eq, Bool.not_eq_true', Bool.not_eq_false'] at hq; first | (exfalso; omega) | skip) | skip)) | fail) | (refine awp_one ?_; first | refine awp_sreg ?_ | refine awp_seq ?_ | refine awp_region ?_ | refine awp_block ?_ | refine awp_ret ?_ | refine awp_exit ?_ | refine awp_skip ?_ | refine awp_cond (b := true) rfl (fun _ => ?_) (fun h => Bool.noConfusion h) | refine awp_cond (b := false) rfl (fun h => Bool.noConfusion h) (fun _ => ?_) | refine awp_scope ?_ | refine awp_label ?_ | refine awp_sdraw mixed (by kernel_rfl) ?_ | refine awp_region_draw mixed (by kernel_rfl) ?_ | (refine awp_cond rfl (fun hq => ?_) (fun hq => ?_) <;> first | subst hq | (first | (simp only [decide_eq_true_eq, decide_eq_false_iff_not, beq_iff_eq, beq_eq_false_iff_ne, bne_iff_ne, bne_eq_false_iff_eq, Bool.not_eq_true', Bool.not_eq_false'] at hq; first | (exfalso; omega) | skip) | skip)) | fail) | (refine then_one ?_; first | refine q_then ?_ | refine q_then_exit ?_ | refine q_then_ret ?_ | fail) | (refine block_one ?_; first | refine q_block ?_ | refine q_block_exit ?_ | refine q_block_pass (by decide) ?_ | refine q_block_ret ?_ | fail) | refine feet_one (feetOk_of (by kernel_rfl)) ?_ | fail)
      all_goals exact aexit_plain (by first | exact .inl rfl | exact .inr rfl) (results_1 rfl (resOk_tmp rfl)) rfl
theorem LexerPlaces_law (xs : List IV) (h : FitsAll [.string] xs) : ACalls Tryd.prog 5 (xs.map .imm) [] (.imm (.lit (.bool true))) [] := by
  obtain ⟨s, rfl, _⟩ := fits_s h
  exact LexerPlaces_a s
end Go.Proofs.YtdeingogdblddaaDoor.Ab
namespace Go.Proofs.YtdeingogdblddaaDoor.Ab
set_option linter.unusedVariables false
set_option linter.unusedSimpArgs false
open Go.RowKit Go.Lib Go.Proofs.YtdeingogdblddaaDoorW.PrintWords Go.Proofs.YtdeingogdblddaaDoorW.PrintLast Go.Proofs.YtdeingogdblddaaDoorW.PrintMore Go.Proofs.YtdeingogdblddaaDoor.RP Go.Proofs.YtdeingogdblddaaDoor.RW Go.Proofs.YtdeingogdblddaaDoor.PAll
attribute [local irreducible] AWP AOps AExit AThen ABlock ANoGoto FeetOk
def bare (t : Tk) : Tk := ⟨t.f0, t.f1, t.f2, 0⟩
theorem textL_app {a b : List Int} (h : TextL a) (k : TextL b) : TextL (a ++ b) := h.append k
theorem textL_sign : ∀ r : Int, (r = 32 ∨ r = 40 ∨ r = 41 ∨ r = 42) → goodR r ∧ ¬ badR r := by
  intro r h
  refine ⟨⟨by omega, by omega, by omega⟩, fun hb => ?_⟩
  rcases hb with hb | hb | hb
  · omega
  · omega
  · omega
abbrev openT : ByteArray := ⟨#[32, 40, 42]⟩
abbrev shutT : ByteArray := ⟨#[42, 41, 32]⟩
abbrev open2 : ByteArray := ⟨#[40, 42]⟩
abbrev shut2 : ByteArray := ⟨#[42, 41]⟩
theorem blanks (a b g : ByteArray) (ha : a.size ≤ 300) (hb : b.size ≤ 300) (hg : g.size ≤ 100) (h1 : (lexB a).2.2 = 0) (h2 : (lexB b).2.2 = 0) (h3 : (checkP g).2 = 0)
    (h4 : (lexB (open2 ++ g ++ shut2)).2.2 = 0) (h5 : (lexB (open2 ++ g ++ shut2)).1.length = 0) :
    (lexB (a ++ openT ++ g ++ shutT ++ b)).2.2 = 0 ∧ (lexB (a ++ openT ++ g ++ shutT ++ b)).1.map bare = (lexB a).1.map bare ++ (lexB b).1.map bare := by
  obtain ⟨la, A, ta, rfl, l1, r1⟩ := lexB_ok a (by omega) h1
  obtain ⟨lb, B, tb, rfl, l2, r2⟩ := lexB_ok b (by omega) h2
  obtain ⟨lg, tg, rfl, _⟩ := text_of_check g h3
  have s1 : (⟨#[32, 40, 42]⟩ : ByteArray).size = 3 := rfl
  have u1 : openT.size = 3 := rfl
  have u2 : shutT.size = 3 := rfl
  have u3 : open2.size = 2 := rfl
  have u4 : shut2.size = 2 := rfl
  have s2 : (⟨#[42, 41, 32]⟩ : ByteArray).size = 3 := rfl
  have s3 : (⟨#[40, 42]⟩ : ByteArray).size = 2 := rfl
  have s4 : (⟨#[42, 41]⟩ : ByteArray).size = 2 := rfl
  have e1 : enc [32, 40, 42] = openT := ba_ext rfl
  have e2 : enc [42, 41, 32] = shutT := ba_ext rfl
  have e3 : enc [40, 42] = open2 := ba_ext rfl
  have e4 : enc [42, 41] = shut2 := ba_ext rfl
  have hz : open2 ++ enc lg ++ shut2 = enc ([40, 42] ++ lg ++ [42, 41]) := by rw [enc_append, enc_append, e3, e4]
  have sg : ∀ l : List Int, (∀ r ∈ l, r = 32 ∨ r = 40 ∨ r = 41 ∨ r = 42) → TextL l := fun l hl r hr => textL_sign r (hl r hr)
  have tz : TextL ([40, 42] ++ lg ++ [42, 41]) := textL_app (textL_app (sg _ (by simp)) tg) (sg _ (by simp))
  have zs : (enc ([40, 42] ++ lg ++ [42, 41])).size ≤ 16384 := by rw [← hz]; simp only [ba_size_append]; omega
  rw [hz] at h4 h5
  have lz : lex ([40, 42] ++ lg ++ [42, 41]) = some [] := by
    have := lexB_enc _ tz zs
    cases hl : lex ([40, 42] ++ lg ++ [42, 41]) with
    | none =>
      rw [hl] at this
      obtain ⟨k, _, h6⟩ := this
      rw [h6] at h4; cases h4
    | some Z =>
      rw [lexB_of _ Z tz zs hl] at h5
      simp only [List.length_map] at h5
      rw [List.eq_nil_of_length_eq_zero h5]
  have hc : enc la ++ openT ++ enc lg ++ shutT ++ enc lb = enc (la ++ 32 :: (([40, 42] ++ lg ++ [42, 41]) ++ 32 :: lb)) := by
    have : la ++ 32 :: (([40, 42] ++ lg ++ [42, 41]) ++ 32 :: lb) = la ++ [32, 40, 42] ++ lg ++ [42, 41, 32] ++ lb := by simp
    rw [this, enc_append, enc_append, enc_append, enc_append, e1, e2]
  have tc : TextL (la ++ 32 :: (([40, 42] ++ lg ++ [42, 41]) ++ 32 :: lb)) := by
    have : la ++ 32 :: (([40, 42] ++ lg ++ [42, 41]) ++ 32 :: lb) = la ++ ([32] ++ (([40, 42] ++ lg ++ [42, 41]) ++ ([32] ++ lb))) := by simp
    rw [this]
    exact textL_app ta (textL_app (sg _ (by simp)) (textL_app tz (textL_app (sg _ (by simp)) tb)))
  have cs : (enc (la ++ 32 :: (([40, 42] ++ lg ++ [42, 41]) ++ 32 :: lb))).size ≤ 16384 := by rw [← hc]; simp only [ba_size_append]; omega
  have lc := lex_app (([40, 42] ++ lg ++ [42, 41]) ++ 32 :: lb) _ la A (Nat.le_refl _) l1
  rw [lex_app lb _ _ [] (Nat.le_refl _) lz, l2] at lc
  rw [hc, lexB_of _ _ tc cs lc, r1, r2]
  refine ⟨rfl, ?_⟩
  simp only [List.map_map, List.map_append, List.map_nil, List.nil_append]
  rfl
set_option maxHeartbeats 4000000 in
set_option maxRecDepth 10000 in
theorem check_a (s : ByteArray) : ACalls Tryd.prog 20 [.imm (.lit (.string s))] [] (.imm (.tup [.lit (.int .i64 (checkP s).1), .lit (.int .i64 (checkP s).2)])) [] := by
  by_cases hs : s.size ≤ 1000000
  · exact acalls_of (args := [.lit (.string s)]) (r := .tup [.lit (.int .i64 (checkP s).1), .lit (.int .i64 (checkP s).2)]) ⟨_, Tryd.func20, rfl, rfl⟩ (fun w M vs ha hv => by
      obtain ⟨v, us, rfl, h1, h2⟩ := repL_cons hv
      rw [rep_lit h1, repL_nil h2]
      refine (check_any s w hs).mono fun e w' ⟨he, hb⟩ => ⟨_, he, hb, ?_⟩
      rw [Rep]
      exact ⟨_, rfl, rep_mk_lit rfl, rep_mk_lit rfl, trivial⟩)
  · have e : checkP s = (0, 3) := by unfold checkP; rw [if_pos (show (16384 : Int) < (s.size : Int) by omega)]
    have hs2 : 16384 < s.size := by omega
    rw [e]
    dsimp only
    refine acalls_plain Tryd.func20 rfl rfl (Nat.le_of_ble_eq_true rfl) rfl ?_
    repeat' (first | refine aops_nil ?_ | (refine aops_one ?_; first | refine aops_quiet tabOk rfl rfl rfl (Nat.le_of_ble_eq_true rfl) rfl ?_ | refine aops_skip rfl rfl (Nat.le_of_ble_eq_true rfl) ?_ | (refine aops_cmp rfl rfl rfl (Nat.le_of_ble_eq_true rfl) rfl rfl rfl (fun hq => ?_) (fun hq => ?_) <;> (first | (simp only [decide_eq_true_eq, decide_eq_false_iff_not, beq_iff_eq, beq_eq_false_iff_ne, bne_iff_ne, bne_eq_false_iff_eq, Bool.not_eq_true', Bool.not_eq_false'] at hq; first | (exfalso; omega) | skip) | skip)) | refine aops_inc rfl rfl rfl (Nat.le_of_ble_eq_true rfl) rfl rfl (by omega) ?_ | refine aops_add rfl rfl rfl (Nat.le_of_ble_eq_true rfl) rfl rfl rfl (by omega) (by omega) ?_ | refine aops_sub rfl rfl rfl (Nat.le_of_ble_eq_true rfl) rfl rfl rfl (by omega) (by omega) ?_ | refine aops_list tabOk rfl rfl rfl (Nat.le_of_ble_eq_true rfl) rfl rfl rfl rfl rfl rfl rfl rfl rfl ?_ | refine aops_pure tabOk rfl rfl (Nat.le_of_ble_eq_true rfl) rfl ?_ | refine aops_alloc tabOk rfl rfl rfl (Nat.le_of_ble_eq_true rfl) rfl rfl rfl rfl rfl rfl ?_ | refine aops_loadm tabOk rfl rfl rfl (Nat.le_of_ble_eq_true rfl) rfl rfl rfl rfl ?_ | refine aops_storem tabOk rfl rfl rfl rfl rfl rfl rfl rfl rfl rfl rfl ?_ | refine aops_index tabOk rfl rfl rfl (Nat.le_of_ble_eq_true rfl) rfl rfl rfl rfl (by first | assumption | omega) ?_ | refine aops_index0 tabOk rfl rfl rfl (Nat.le_of_ble_eq_true rfl) rfl rfl rfl rfl (by first | rfl | omega) (by first | omega | simp) ?_ | refine aops_load1 tabOk rfl rfl rfl (Nat.le_of_ble_eq_true rfl) rfl rfl rfl (by assumption) ?_ | refine aops_load1 tabOk rfl rfl rfl (Nat.le_of_ble_eq_true rfl) rfl rfl rfl (ivs_get _ _ (by first | assumption | omega)) ?_ | refine aops_inc rfl rfl rfl (Nat.le_of_ble_eq_true rfl) rfl rfl (by omega) ?_ | ((fail_if_success (refine aops_lit (b := true) rfl rfl rfl ?_)); (fail_if_success (refine aops_lit (b := false) rfl rfl rfl ?_)); refine aops_guard rfl rfl rfl (fun hq => ?_) (fun hq => ?_) <;> first | subst hq | (first | (simp only [decide_eq_true_eq, decide_eq_false_iff_not, beq_iff_eq, beq_eq_false_iff_ne, bne_iff_ne, bne_eq_false_iff_eq, Bool.not_eq_true', Bool.not_eq_false'] at hq; first | (exfalso; omega) | skip) | skip)) | fail) | (refine awp_one ?_; first | refine awp_sreg ?_ | refine awp_seq ?_ | refine awp_region ?_ | refine awp_block ?_ | refine awp_ret ?_ | refine awp_exit ?_ | refine awp_skip ?_ | refine awp_cond (b := true) rfl (fun _ => ?_) (fun h => Bool.noConfusion h) | refine awp_cond (b := false) rfl (fun h => Bool.noConfusion h) (fun _ => ?_) | refine awp_scope ?_ | refine awp_label ?_ | refine awp_sdraw mixed (by kernel_rfl) ?_ | refine awp_region_draw mixed (by kernel_rfl) ?_ | (refine awp_cond rfl (fun hq => ?_) (fun hq => ?_) <;> first | subst hq | (first | (simp only [decide_eq_true_eq, decide_eq_false_iff_not, beq_iff_eq, beq_eq_false_iff_ne, bne_iff_ne, bne_eq_false_iff_eq, Bool.not_eq_true', Bool.not_eq_false'] at hq; first | (exfalso; omega) | skip) | skip)) | fail) | (refine then_one ?_; first | refine q_then ?_ | refine q_then_exit ?_ | refine q_then_ret ?_ | fail) | (refine block_one ?_; first | refine q_block ?_ | refine q_block_exit ?_ | refine q_block_pass (by decide) ?_ | refine q_block_ret ?_ | fail) | refine feet_one (feetOk_of (by kernel_rfl)) ?_ | fail)
    all_goals first
      | (refine aexit_eq (by first | exact .inl rfl | exact .inr rfl) (results_2 rfl (resOk_tmp rfl) (resOk_tmp rfl)) rfl ?_; rfl)
      | (exfalso; omega)
theorem bare_get {l m : List Tk} (h : l.map bare = m.map bare) (j : Nat) (hj : j < l.length) (hm : j < m.length) : bare l[j] = bare m[j] := by
  have h1 := congrArg (fun x => x[j]?) h
  simpa [hj, hm] using h1
theorem bare_cell {t u : Tk} (h : bare t = bare u) : ∃ k tx n a b, t = ⟨k, tx, n, a⟩ ∧ u = ⟨k, tx, n, b⟩ := by
  obtain ⟨k, tx, n, a⟩ := t
  obtain ⟨k', tx', n', b⟩ := u
  simp only [bare, S34.mk.injEq] at h
  obtain ⟨rfl, rfl, rfl, _⟩ := h
  exact ⟨k, tx, n, a, b, rfl, rfl⟩
set_option maxHeartbeats 8000000 in
set_option maxRecDepth 10000 in
theorem LexerBlanks_a (a0 b0 g : ByteArray) : ACalls Tryd.prog 4 [.imm (.lit (.string a0)), .imm (.lit (.string b0)), .imm (.lit (.string g))] [] (.imm (.lit (.bool true))) [] := by
  have sa := fewP_size 300 a0
  have sb := fewP_size 300 b0
  have fa := few_a a0
  have fb := few_a b0
  generalize fewP 300 a0 = a at sa fa
  generalize fewP 300 b0 = b at sb fb
  have s1 : (⟨#[32, 40, 42]⟩ : ByteArray).size = 3 := rfl
  have u1 : openT.size = 3 := rfl
  have u2 : shutT.size = 3 := rfl
  have u3 : open2.size = 2 := rfl
  have u4 : shut2.size = 2 := rfl
  have s2 : (⟨#[42, 41, 32]⟩ : ByteArray).size = 3 := rfl
  have s3 : (⟨#[40, 42]⟩ : ByteArray).size = 2 := rfl
  have s4 : (⟨#[42, 41]⟩ : ByteArray).size = 2 := rfl
  have cL := lex_a a (by omega)
  have cM := lex_a b (by omega)
  have cG := check_a g
  have cC : g.size ≤ 100 → ACalls Tryd.prog 19 [.imm (.lit (.string (a ++ openT ++ g ++ shutT ++ b)))] [] (.imm (lexIV (a ++ openT ++ g ++ shutT ++ b))) [] := fun hg => lex_a _ (by simp only [ba_size_append]; omega)
  have cZ : g.size ≤ 100 → ACalls Tryd.prog 19 [.imm (.lit (.string (open2 ++ g ++ shut2)))] [] (.imm (lexIV (open2 ++ g ++ shut2))) [] := fun hg => lex_a _ (by simp only [ba_size_append]; omega)
  have hlc : g.size ≤ 100 → (lexB (a ++ openT ++ g ++ shutT ++ b)).1.length ≤ 10000 := fun hg => Nat.le_trans (lexB_len _) (by simp only [ba_size_append]; omega)
  have hla : (lexB a).1.length ≤ 300 := Nat.le_trans (lexB_len _) sa
  have hlb : (lexB b).1.length ≤ 300 := Nat.le_trans (lexB_len _) sb
  have key := fun hg => blanks a b g sa sb hg
  unfold lexIV tksIV at cL cM cC cZ
  generalize lexB a = ra at cL key hla
  generalize lexB b = rb at cM key hlb
  generalize lexB (a ++ openT ++ g ++ shutT ++ b) = rc at cC key hlc
  generalize lexB (open2 ++ g ++ shut2) = rz at cZ key
  generalize checkP g = rg at cG key
  obtain ⟨la, aa, ea⟩ := ra
  obtain ⟨lb, ab, eb⟩ := rb
  obtain ⟨lc, ac, ec⟩ := rc
  obtain ⟨lz, az, ez⟩ := rz
  obtain ⟨ag, eg⟩ := rg
  dsimp only at *
  refine acalls_plain Tryd.func4 rfl rfl (Nat.le_of_ble_eq_true rfl) rfl ?_
  repeat' (first | refine aops_nil ?_ | (refine aops_one ?_; first | refine aops_quiet tabOk rfl rfl rfl (Nat.le_of_ble_eq_true rfl) rfl ?_ | refine aops_skip rfl rfl (Nat.le_of_ble_eq_true rfl) ?_ | (refine aops_cmp rfl rfl rfl (Nat.le_of_ble_eq_true rfl) rfl rfl rfl (fun hq => ?_) (fun hq => ?_) <;> (first | (simp only [decide_eq_true_eq, decide_eq_false_iff_not, beq_iff_eq, beq_eq_false_iff_ne, bne_iff_ne, bne_eq_false_iff_eq, Bool.not_eq_true', Bool.not_eq_false'] at hq; first | (exfalso; omega) | skip) | skip))| refine aops_call rfl rfl (Nat.le_of_ble_eq_true rfl) rfl rfl rfl rfl (fa) ?_ | refine aops_call rfl rfl (Nat.le_of_ble_eq_true rfl) rfl rfl rfl rfl (fb) ?_ | refine aops_call rfl rfl (Nat.le_of_ble_eq_true rfl) rfl rfl rfl rfl (cL) ?_ | refine aops_call rfl rfl (Nat.le_of_ble_eq_true rfl) rfl rfl rfl rfl (cM) ?_ | refine aops_call rfl rfl (Nat.le_of_ble_eq_true rfl) rfl rfl rfl rfl (cG) ?_ | refine aops_call rfl rfl (Nat.le_of_ble_eq_true rfl) rfl rfl rfl rfl (works_a) ?_ | refine aops_call rfl rfl (Nat.le_of_ble_eq_true rfl) rfl rfl rfl rfl (cC (by omega)) ?_ | refine aops_call rfl rfl (Nat.le_of_ble_eq_true rfl) rfl rfl rfl rfl (cZ (by omega)) ?_ | refine aops_concat rfl rfl rfl (Nat.le_of_ble_eq_true rfl) rfl rfl (by first | omega | (simp only [ba_size_append]; omega)) ?_ | refine aops_inc rfl rfl rfl (Nat.le_of_ble_eq_true rfl) rfl rfl (by omega) ?_ | refine aops_add rfl rfl rfl (Nat.le_of_ble_eq_true rfl) rfl rfl rfl (by omega) (by omega) ?_ | refine aops_sub rfl rfl rfl (Nat.le_of_ble_eq_true rfl) rfl rfl rfl (by omega) (by omega) ?_ | refine aops_list tabOk rfl rfl rfl (Nat.le_of_ble_eq_true rfl) rfl rfl rfl rfl rfl rfl rfl rfl rfl ?_ | refine aops_pure tabOk rfl rfl (Nat.le_of_ble_eq_true rfl) rfl ?_ | refine aops_alloc tabOk rfl rfl rfl (Nat.le_of_ble_eq_true rfl) rfl rfl rfl rfl rfl rfl ?_ | refine aops_loadm tabOk rfl rfl rfl (Nat.le_of_ble_eq_true rfl) rfl rfl rfl rfl ?_ | refine aops_storem tabOk rfl rfl rfl rfl rfl rfl rfl rfl rfl rfl rfl ?_ | refine aops_index tabOk rfl rfl rfl (Nat.le_of_ble_eq_true rfl) rfl rfl rfl rfl (by first | assumption | omega) ?_ | refine aops_index0 tabOk rfl rfl rfl (Nat.le_of_ble_eq_true rfl) rfl rfl rfl rfl (by first | rfl | omega) (by first | omega | simp) ?_ | refine aops_load1 tabOk rfl rfl rfl (Nat.le_of_ble_eq_true rfl) rfl rfl rfl (by assumption) ?_ | refine aops_load1 tabOk rfl rfl rfl (Nat.le_of_ble_eq_true rfl) rfl rfl rfl (ivs_get _ _ (by first | assumption | omega)) ?_ | refine aops_inc rfl rfl rfl (Nat.le_of_ble_eq_true rfl) rfl rfl (by omega) ?_ | ((fail_if_success (refine aops_lit (b := true) rfl rfl rfl ?_)); (fail_if_success (refine aops_lit (b := false) rfl rfl rfl ?_)); refine aops_guard rfl rfl rfl (fun hq => ?_) (fun hq => ?_) <;> first | subst hq | (first | (simp only [decide_eq_true_eq, decide_eq_false_iff_not, beq_iff_eq, beq_eq_false_iff_ne, bne_iff_ne, bne_eq_false_iff_eq, Bool.not_eq_true', Bool.not_eq_false'] at hq; first | (exfalso; omega) | skip) | skip)) | fail) | (refine awp_one ?_; first | refine awp_sreg ?_ | refine awp_seq ?_ | refine awp_region ?_ | refine awp_block ?_ | refine awp_ret ?_ | refine awp_exit ?_ | refine awp_skip ?_ | refine awp_cond (b := true) rfl (fun _ => ?_) (fun h => Bool.noConfusion h) | refine awp_cond (b := false) rfl (fun h => Bool.noConfusion h) (fun _ => ?_) | refine awp_scope ?_ | refine awp_label ?_ | refine awp_sdraw mixed (by kernel_rfl) ?_ | refine awp_region_draw mixed (by kernel_rfl) ?_ | (refine awp_cond rfl (fun hq => ?_) (fun hq => ?_) <;> first | subst hq | (first | (simp only [decide_eq_true_eq, decide_eq_false_iff_not, beq_iff_eq, beq_eq_false_iff_ne, bne_iff_ne, bne_eq_false_iff_eq, Bool.not_eq_true', Bool.not_eq_false'] at hq; first | (exfalso; omega) | skip) | skip)) | fail) | (refine then_one ?_; first | refine q_then ?_ | refine q_then_exit ?_ | refine q_then_ret ?_ | fail) | (refine block_one ?_; first | refine q_block ?_ | refine q_block_exit ?_ | refine q_block_pass (by decide) ?_ | refine q_block_ret ?_ | fail) | refine feet_one (feetOk_of (by kernel_rfl)) ?_ | fail)
  all_goals first
    | exact aexit_plain (by first | exact .inl rfl | exact .inr rfl) (results_1 rfl (resOk_tmp rfl)) rfl
    | (exfalso; omega)
    | (have hne : (lc.length : Int) ≠ (la.length : Int) + (lb.length : Int) := by assumption
       exfalso
       have h1 := (key (by omega) (by omega) (by omega) (by omega) (by omega) (by omega)).2
       have := congrArg List.length h1
       simp only [List.length_map, List.length_append] at this
       omega)
    | skip
  have hlen : (lc.length : Int) = (la.length : Int) + (lb.length : Int) := by assumption
  have hmap := (key (by omega) (by omega) (by omega) (by omega) (by omega) (by omega)).2
  have hlc := hlc (by omega)
  clear key cL cM cG cC cZ fa fb
  rw [← List.map_append] at hmap
  refine awp_loop (ι := {j : Nat // j ≤ lc.length}) (fun j => S.f ⟨[(102, .imm (.lit (.int .i64 (j.1 : Int)))), (101, .imm (.lit (.int .i64 (lc.length : Int)))), (100, .imm (.sl false lc.length (lc.flatMap tkIV))), (7, .imm (.sl false la.length (la.flatMap tkIV))), (10, .imm (.sl false lb.length (lb.flatMap tkIV)))], []⟩) (fun j => lc.length - j.1) ⟨0, Nat.zero_le _⟩ (le_of (by repeat' first | exact trivial | refine ⟨rfl, ?_⟩) (by repeat' first | exact trivial | refine ⟨rfl, ?_⟩)) ?_
  rintro ⟨j, hj⟩
  dsimp only
  by_cases hlt : j < lc.length
  · have hg := bare_get hmap j hlt (by rw [List.length_append]; omega)
    have hrow := tks_get lc j hlt
    by_cases hja : j < la.length
    · rw [List.getElem_append_left hja] at hg
      have hrow2 := tks_get la j hja
      obtain ⟨k, tx, n, p, q, e1, e2⟩ := bare_cell hg
      rw [e1] at hrow
      rw [e2] at hrow2
      change _ = [IV.lit (.int .i64 k), .lit (.string tx), .lit (.int .i64 n), .lit (.int .i64 p)] at hrow
      change _ = [IV.lit (.int .i64 k), .lit (.string tx), .lit (.int .i64 n), .lit (.int .i64 q)] at hrow2
      repeat' (first | refine aops_nil ?_ | (refine aops_one ?_; first | refine aops_quiet tabOk rfl rfl rfl (Nat.le_of_ble_eq_true rfl) rfl ?_ | refine aops_skip rfl rfl (Nat.le_of_ble_eq_true rfl) ?_ | (refine aops_cmp rfl rfl rfl (Nat.le_of_ble_eq_true rfl) rfl rfl rfl (fun hq => ?_) (fun hq => ?_) <;> (first | (simp only [decide_eq_true_eq, decide_eq_false_iff_not, beq_iff_eq, beq_eq_false_iff_ne, bne_iff_ne, bne_eq_false_iff_eq, Bool.not_eq_true', Bool.not_eq_false'] at hq; first | (exfalso; omega) | skip) | skip))| refine aops_loadr tabOk rfl rfl rfl (Nat.le_of_ble_eq_true rfl) rfl rfl rfl hrow rfl ?_ | refine aops_loadr tabOk rfl rfl rfl (Nat.le_of_ble_eq_true rfl) rfl rfl rfl hrow2 rfl ?_ | refine aops_tkne (a := ⟨k, tx, n, 0⟩) (b := ⟨k, tx, n, 0⟩) rfl rfl rfl (Nat.le_of_ble_eq_true rfl) rfl rfl (fun hq => absurd rfl hq) (fun hq => ?_) | refine aops_inc rfl rfl rfl (Nat.le_of_ble_eq_true rfl) rfl rfl (by omega) ?_ | refine aops_add rfl rfl rfl (Nat.le_of_ble_eq_true rfl) rfl rfl rfl (by omega) (by omega) ?_ | refine aops_sub rfl rfl rfl (Nat.le_of_ble_eq_true rfl) rfl rfl rfl (by omega) (by omega) ?_ | refine aops_list tabOk rfl rfl rfl (Nat.le_of_ble_eq_true rfl) rfl rfl rfl rfl rfl rfl rfl rfl rfl ?_ | refine aops_pure tabOk rfl rfl (Nat.le_of_ble_eq_true rfl) rfl ?_ | refine aops_alloc tabOk rfl rfl rfl (Nat.le_of_ble_eq_true rfl) rfl rfl rfl rfl rfl rfl ?_ | refine aops_loadm tabOk rfl rfl rfl (Nat.le_of_ble_eq_true rfl) rfl rfl rfl rfl ?_ | refine aops_storem tabOk rfl rfl rfl rfl rfl rfl rfl rfl rfl rfl rfl ?_ | refine aops_index tabOk rfl rfl rfl (Nat.le_of_ble_eq_true rfl) rfl rfl rfl rfl (by first | assumption | omega) ?_ | refine aops_index0 tabOk rfl rfl rfl (Nat.le_of_ble_eq_true rfl) rfl rfl rfl rfl (by first | rfl | omega) (by first | omega | simp) ?_ | refine aops_load1 tabOk rfl rfl rfl (Nat.le_of_ble_eq_true rfl) rfl rfl rfl (by assumption) ?_ | refine aops_load1 tabOk rfl rfl rfl (Nat.le_of_ble_eq_true rfl) rfl rfl rfl (ivs_get _ _ (by first | assumption | omega)) ?_ | refine aops_inc rfl rfl rfl (Nat.le_of_ble_eq_true rfl) rfl rfl (by omega) ?_ | ((fail_if_success (refine aops_lit (b := true) rfl rfl rfl ?_)); (fail_if_success (refine aops_lit (b := false) rfl rfl rfl ?_)); refine aops_guard rfl rfl rfl (fun hq => ?_) (fun hq => ?_) <;> first | subst hq | (first | (simp only [decide_eq_true_eq, decide_eq_false_iff_not, beq_iff_eq, beq_eq_false_iff_ne, bne_iff_ne, bne_eq_false_iff_eq, Bool.not_eq_true', Bool.not_eq_false'] at hq; first | (exfalso; omega) | skip) | skip)) | fail) | (refine awp_one ?_; first | refine awp_sreg ?_ | refine awp_seq ?_ | refine awp_region ?_ | refine awp_block ?_ | refine awp_ret ?_ | refine awp_exit ?_ | refine awp_skip ?_ | refine awp_cond (b := true) rfl (fun _ => ?_) (fun h => Bool.noConfusion h) | refine awp_cond (b := false) rfl (fun h => Bool.noConfusion h) (fun _ => ?_) | refine awp_scope ?_ | refine awp_label ?_ | refine awp_sdraw mixed (by kernel_rfl) ?_ | refine awp_region_draw mixed (by kernel_rfl) ?_ | (refine awp_cond rfl (fun hq => ?_) (fun hq => ?_) <;> first | subst hq | (first | (simp only [decide_eq_true_eq, decide_eq_false_iff_not, beq_iff_eq, beq_eq_false_iff_ne, bne_iff_ne, bne_eq_false_iff_eq, Bool.not_eq_true', Bool.not_eq_false'] at hq; first | (exfalso; omega) | skip) | skip)) | fail) | (refine then_one ?_; first | refine q_then ?_ | refine q_then_exit ?_ | refine q_then_ret ?_ | fail) | (refine block_one ?_; first | refine q_block ?_ | refine q_block_exit ?_ | refine q_block_pass (by decide) ?_ | refine q_block_ret ?_ | fail) | refine feet_one (feetOk_of (by kernel_rfl)) ?_ | fail)
      all_goals exact ⟨⟨j + 1, hlt⟩, (by show lc.length - (j + 1) < lc.length - j; omega), (le_of (by repeat' first | exact trivial | refine ⟨rfl, ?_⟩) (by repeat' first | exact trivial | refine ⟨rfl, ?_⟩))⟩
    · rw [List.getElem_append_right (by omega)] at hg
      have hi : ((j : Int) - (la.length : Int)).toNat = j - la.length := by omega
      have hrow2 := tks_get lb (j - la.length) (by omega)
      obtain ⟨k, tx, n, p, q, e1, e2⟩ := bare_cell hg
      rw [e1] at hrow
      rw [e2, ← hi] at hrow2
      change _ = [IV.lit (.int .i64 k), .lit (.string tx), .lit (.int .i64 n), .lit (.int .i64 p)] at hrow
      change _ = [IV.lit (.int .i64 k), .lit (.string tx), .lit (.int .i64 n), .lit (.int .i64 q)] at hrow2
      repeat' (first | refine aops_nil ?_ | (refine aops_one ?_; first | refine aops_quiet tabOk rfl rfl rfl (Nat.le_of_ble_eq_true rfl) rfl ?_ | refine aops_skip rfl rfl (Nat.le_of_ble_eq_true rfl) ?_ | (refine aops_cmp rfl rfl rfl (Nat.le_of_ble_eq_true rfl) rfl rfl rfl (fun hq => ?_) (fun hq => ?_) <;> (first | (simp only [decide_eq_true_eq, decide_eq_false_iff_not, beq_iff_eq, beq_eq_false_iff_ne, bne_iff_ne, bne_eq_false_iff_eq, Bool.not_eq_true', Bool.not_eq_false'] at hq; first | (exfalso; omega) | skip) | skip))| refine aops_loadr tabOk rfl rfl rfl (Nat.le_of_ble_eq_true rfl) rfl rfl rfl hrow rfl ?_ | refine aops_loadr tabOk rfl rfl rfl (Nat.le_of_ble_eq_true rfl) rfl rfl rfl hrow2 rfl ?_ | refine aops_index0 tabOk rfl rfl rfl (Nat.le_of_ble_eq_true rfl) rfl rfl rfl rfl (by omega) (by omega) ?_ | refine aops_tkne (a := ⟨k, tx, n, 0⟩) (b := ⟨k, tx, n, 0⟩) rfl rfl rfl (Nat.le_of_ble_eq_true rfl) rfl rfl (fun hq => absurd rfl hq) (fun hq => ?_) | refine aops_inc rfl rfl rfl (Nat.le_of_ble_eq_true rfl) rfl rfl (by omega) ?_ | refine aops_add rfl rfl rfl (Nat.le_of_ble_eq_true rfl) rfl rfl rfl (by omega) (by omega) ?_ | refine aops_sub rfl rfl rfl (Nat.le_of_ble_eq_true rfl) rfl rfl rfl (by omega) (by omega) ?_ | refine aops_list tabOk rfl rfl rfl (Nat.le_of_ble_eq_true rfl) rfl rfl rfl rfl rfl rfl rfl rfl rfl ?_ | refine aops_pure tabOk rfl rfl (Nat.le_of_ble_eq_true rfl) rfl ?_ | refine aops_alloc tabOk rfl rfl rfl (Nat.le_of_ble_eq_true rfl) rfl rfl rfl rfl rfl rfl ?_ | refine aops_loadm tabOk rfl rfl rfl (Nat.le_of_ble_eq_true rfl) rfl rfl rfl rfl ?_ | refine aops_storem tabOk rfl rfl rfl rfl rfl rfl rfl rfl rfl rfl rfl ?_ | refine aops_index tabOk rfl rfl rfl (Nat.le_of_ble_eq_true rfl) rfl rfl rfl rfl (by first | assumption | omega) ?_ | refine aops_index0 tabOk rfl rfl rfl (Nat.le_of_ble_eq_true rfl) rfl rfl rfl rfl (by first | rfl | omega) (by first | omega | simp) ?_ | refine aops_load1 tabOk rfl rfl rfl (Nat.le_of_ble_eq_true rfl) rfl rfl rfl (by assumption) ?_ | refine aops_load1 tabOk rfl rfl rfl (Nat.le_of_ble_eq_true rfl) rfl rfl rfl (ivs_get _ _ (by first | assumption | omega)) ?_ | refine aops_inc rfl rfl rfl (Nat.le_of_ble_eq_true rfl) rfl rfl (by omega) ?_ | ((fail_if_success (refine aops_lit (b := true) rfl rfl rfl ?_)); (fail_if_success (refine aops_lit (b := false) rfl rfl rfl ?_)); refine aops_guard rfl rfl rfl (fun hq => ?_) (fun hq => ?_) <;> first | subst hq | (first | (simp only [decide_eq_true_eq, decide_eq_false_iff_not, beq_iff_eq, beq_eq_false_iff_ne, bne_iff_ne, bne_eq_false_iff_eq, Bool.not_eq_true', Bool.not_eq_false'] at hq; first | (exfalso; omega) | skip) | skip)) | fail) | (refine awp_one ?_; first | refine awp_sreg ?_ | refine awp_seq ?_ | refine awp_region ?_ | refine awp_block ?_ | refine awp_ret ?_ | refine awp_exit ?_ | refine awp_skip ?_ | refine awp_cond (b := true) rfl (fun _ => ?_) (fun h => Bool.noConfusion h) | refine awp_cond (b := false) rfl (fun h => Bool.noConfusion h) (fun _ => ?_) | refine awp_scope ?_ | refine awp_label ?_ | refine awp_sdraw mixed (by kernel_rfl) ?_ | refine awp_region_draw mixed (by kernel_rfl) ?_ | (refine awp_cond rfl (fun hq => ?_) (fun hq => ?_) <;> first | subst hq | (first | (simp only [decide_eq_true_eq, decide_eq_false_iff_not, beq_iff_eq, beq_eq_false_iff_ne, bne_iff_ne, bne_eq_false_iff_eq, Bool.not_eq_true', Bool.not_eq_false'] at hq; first | (exfalso; omega) | skip) | skip)) | fail) | (refine then_one ?_; first | refine q_then ?_ | refine q_then_exit ?_ | refine q_then_ret ?_ | fail) | (refine block_one ?_; first | refine q_block ?_ | refine q_block_exit ?_ | refine q_block_pass (by decide) ?_ | refine q_block_ret ?_ | fail) | refine feet_one (feetOk_of (by kernel_rfl)) ?_ | fail)
      all_goals exact ⟨⟨j + 1, hlt⟩, (by show lc.length - (j + 1) < lc.length - j; omega), (le_of (by repeat' first | exact trivial | refine ⟨rfl, ?_⟩) (by repeat' first | exact trivial | refine ⟨rfl, ?_⟩))⟩
  · repeat' (first | refine aops_nil ?_ | (refine aops_one ?_; first | refine aops_quiet tabOk rfl rfl rfl (Nat.le_of_ble_eq_true rfl) rfl ?_ | refine aops_skip rfl rfl (Nat.le_of_ble_eq_true rfl) ?_ | (refine aops_cmp rfl rfl rfl (Nat.le_of_ble_eq_true rfl) rfl rfl rfl (fun hq => ?_) (fun hq => ?_) <;> (first | (simp only [decide_eq_true_eq, decide_eq_false_iff_not, beq_iff_eq, beq_eq_false_iff_ne, bne_iff_ne, bne_eq_false_iff_eq, Bool.not_eq_true', Bool.not_eq_false'] at hq; first | (exfalso; omega) | skip) | skip))| refine aops_call rfl rfl (Nat.le_of_ble_eq_true rfl) rfl rfl rfl rfl (works_a) ?_ | refine aops_inc rfl rfl rfl (Nat.le_of_ble_eq_true rfl) rfl rfl (by omega) ?_ | refine aops_add rfl rfl rfl (Nat.le_of_ble_eq_true rfl) rfl rfl rfl (by omega) (by omega) ?_ | refine aops_sub rfl rfl rfl (Nat.le_of_ble_eq_true rfl) rfl rfl rfl (by omega) (by omega) ?_ | refine aops_list tabOk rfl rfl rfl (Nat.le_of_ble_eq_true rfl) rfl rfl rfl rfl rfl rfl rfl rfl rfl ?_ | refine aops_pure tabOk rfl rfl (Nat.le_of_ble_eq_true rfl) rfl ?_ | refine aops_alloc tabOk rfl rfl rfl (Nat.le_of_ble_eq_true rfl) rfl rfl rfl rfl rfl rfl ?_ | refine aops_loadm tabOk rfl rfl rfl (Nat.le_of_ble_eq_true rfl) rfl rfl rfl rfl ?_ | refine aops_storem tabOk rfl rfl rfl rfl rfl rfl rfl rfl rfl rfl rfl ?_ | refine aops_index tabOk rfl rfl rfl (Nat.le_of_ble_eq_true rfl) rfl rfl rfl rfl (by first | assumption | omega) ?_ | refine aops_index0 tabOk rfl rfl rfl (Nat.le_of_ble_eq_true rfl) rfl rfl rfl rfl (by first | rfl | omega) (by first | omega | simp) ?_ | refine aops_load1 tabOk rfl rfl rfl (Nat.le_of_ble_eq_true rfl) rfl rfl rfl (by assumption) ?_ | refine aops_load1 tabOk rfl rfl rfl (Nat.le_of_ble_eq_true rfl) rfl rfl rfl (ivs_get _ _ (by first | assumption | omega)) ?_ | refine aops_inc rfl rfl rfl (Nat.le_of_ble_eq_true rfl) rfl rfl (by omega) ?_ | ((fail_if_success (refine aops_lit (b := true) rfl rfl rfl ?_)); (fail_if_success (refine aops_lit (b := false) rfl rfl rfl ?_)); refine aops_guard rfl rfl rfl (fun hq => ?_) (fun hq => ?_) <;> first | subst hq | (first | (simp only [decide_eq_true_eq, decide_eq_false_iff_not, beq_iff_eq, beq_eq_false_iff_ne, bne_iff_ne, bne_eq_false_iff_eq, Bool.not_eq_true', Bool.not_eq_false'] at hq; first | (exfalso; omega) | skip) | skip)) | fail) | (refine awp_one ?_; first | refine awp_sreg ?_ | refine awp_seq ?_ | refine awp_region ?_ | refine awp_block ?_ | refine awp_ret ?_ | refine awp_exit ?_ | refine awp_skip ?_ | refine awp_cond (b := true) rfl (fun _ => ?_) (fun h => Bool.noConfusion h) | refine awp_cond (b := false) rfl (fun h => Bool.noConfusion h) (fun _ => ?_) | refine awp_scope ?_ | refine awp_label ?_ | refine awp_sdraw mixed (by kernel_rfl) ?_ | refine awp_region_draw mixed (by kernel_rfl) ?_ | (refine awp_cond rfl (fun hq => ?_) (fun hq => ?_) <;> first | subst hq | (first | (simp only [decide_eq_true_eq, decide_eq_false_iff_not, beq_iff_eq, beq_eq_false_iff_ne, bne_iff_ne, bne_eq_false_iff_eq, Bool.not_eq_true', Bool.not_eq_false'] at hq; first | (exfalso; omega) | skip) | skip)) | fail) | (refine then_one ?_; first | refine q_then ?_ | refine q_then_exit ?_ | refine q_then_ret ?_ | fail) | (refine block_one ?_; first | refine q_block ?_ | refine q_block_exit ?_ | refine q_block_pass (by decide) ?_ | refine q_block_ret ?_ | fail) | refine feet_one (feetOk_of (by kernel_rfl)) ?_ | fail)
    all_goals exact aexit_plain (by first | exact .inl rfl | exact .inr rfl) (results_1 rfl (resOk_tmp rfl)) rfl
theorem fits_sss {xs : List IV} (h : FitsAll [.string, .string, .string] xs) : ∃ a b c, xs = [.lit (.string a), .lit (.string b), .lit (.string c)] ∧ a.size ≤ 140737488351232 ∧ b.size ≤ 140737488351232 ∧ c.size ≤ 140737488351232 := by
  cases h with
  | cons h1 h =>
    cases h with
    | cons h2 h =>
      cases h with
      | cons h3 h =>
        cases h
        cases h1 with
        | string a ha =>
          cases h2 with
          | string b hb =>
            cases h3 with
            | string c hc => exact ⟨a, b, c, rfl, ha, hb, hc⟩
theorem LexerBlanks_law (xs : List IV) (h : FitsAll [.string, .string, .string] xs) : ACalls Tryd.prog 4 (xs.map .imm) [] (.imm (.lit (.bool true))) [] := by
  obtain ⟨a, b, c, rfl, _⟩ := fits_sss h
  exact LexerBlanks_a a b c
end Go.Proofs.YtdeingogdblddaaDoor.Ab
