/- Words, walks and laws under the claim's statement: what it uses of them. No condition of its own. -/
import Derived.Test.YtdajnmffoopcaaaGreatDoorWzAb0
import Derived.Laws.OwnMore
import Derived.Below
import Derived.Lib.SliceRun
import Derived.OpenShut
namespace Go.Proofs.YtdajnmffoopcaaaGreatDoor.Ab
set_option linter.unusedVariables false
set_option linter.unusedSimpArgs false
open Go.RowKit
theorem RepAL.put {w : World} {M : Nat → Prop} {β : Nat → Value} {x : AV} : ∀ {xs : List AV} {vs : List Value} (k : Nat), RepAL w M β xs vs → (∀ v, vs[k]? = some v → RepA w M β x v) → RepAL w M β (xs.set k x) vs
  | [], [], k, _, _ => by simp [RepAL]
  | y :: xs, u :: vs, 0, hr, h => by rw [RepAL] at hr; rw [List.set, RepAL]; exact ⟨h u rfl, hr.2⟩
  | y :: xs, u :: vs, k + 1, hr, h => by rw [RepAL] at hr; rw [List.set, RepAL]; exact ⟨hr.1, RepAL.put k hr.2 (fun v hv => h v hv)⟩
  | [], v :: vs, _, hr, _ => by rw [RepAL] at hr; exact hr.elim
  | x :: xs, [], _, hr, _ => by rw [RepAL] at hr; exact hr.elim
theorem dU {keep : List Nat} {N k0 h0 : Nat} {cs : List AV} {s : List (Nat × AV)} {m : Mem} (g e z : Nat) (ht : m.get h0 = some (.cells cs)) (hc : cs[k0]? = some (.imm (.lit (.slice none 0 0)))) (hk : g ∉ keep) (hs : freshS g s = true) (hm : freshM g m = true) :
    Imp keep N (S.f ⟨s, m⟩) (S.f ⟨s, (g, .arr e z 0 []) :: m.put h0 (.cells (cs.set k0 (.ref g 0)))⟩) := by
  intro C hC1 hC2 a w ⟨M, β, hh0⟩
  have h := hh0.named g (.slice none 0 0) (by rw [hC1]; exact hk) hs hm
  have eg : (fun n => if n = g then (Value.slice none 0 0) else β n) g = .slice none 0 0 := by simp
  generalize (fun n => if n = g then (Value.slice none 0 0) else β n) = β' at h eg
  obtain ⟨f1, f2⟩ := eY hm
  have key : ∀ k o, Mem.get ((g, .arr e z 0 []) :: m.put h0 (.cells (cs.set k0 (.ref g 0)))) k = some o → (k = g ∧ o = .arr e z 0 []) ∨ (k ≠ g ∧ ∃ o', m.get k = some o' ∧ ((k = h0 ∧ o = .cells (cs.set k0 (.ref g 0))) ∨ o = o')) := fun k o ho => by
    simp only [Mem.get] at ho
    split at ho
    · rename_i e; cases ho; exact .inl ⟨e.symm, rfl⟩
    · rename_i e
      rw [nE (by rw [ht]; simp)] at ho
      refine .inr ⟨fun e2 => e e2.symm, ?_⟩
      split at ho
      · rename_i e2; cases ho; exact ⟨.cells cs, by rw [e2]; exact ht, .inl ⟨e2, rfl⟩⟩
      · exact ⟨o, ho, .inr rfl⟩
  refine ⟨M, β', h.amb, h.size, h.defers, fun t' x hx => h.slots t' x hx, ⟨fun k o ho => ?_, fun k k' o o' b h1 h2 hne hb => ?_⟩, h.ev, h.keepn, fun b hb => ?_⟩
  · rcases key k o ho with ⟨rfl, rfl⟩ | ⟨_, o', ho', ho⟩
    · exact ⟨[], by rw [eg]; exact World.ownsRow_nil w 0 e z, rfl, by simp [RepL], Nat.zero_le _, fun b hb => by rw [eg] at hb; cases hb⟩
    · rcases ho with ⟨rfl, rfl⟩ | rfl
      · obtain ⟨b, vs, T, e1, e2, e3, e4, e5⟩ := h.mem.ok k _ ht
        refine ⟨b, vs, T, e1, e2, e3, ?_, e5.put k0 fun v hv => ?_⟩
        · rw [List.all_eq_true] at e4 ⊢
          intro x hx
          rcases List.mem_or_eq_of_mem_set hx with hx | rfl
          · exact e4 x hx
          · rfl
        · obtain ⟨u, hu, hr⟩ := e5.get k0 _ hc
          rw [hv] at hu
          cases hu
          rw [RepA, Rep] at hr
          rw [RepA, eg, hr.1]
          exact ⟨Nat.le_refl _, fun _ => rfl, rfl⟩
      · exact h.mem.ok k o ho'
  · rcases key k o h1 with ⟨rfl, rfl⟩ | ⟨_, o1, h1, _⟩
    · rw [eg] at hb; cases hb
    · rcases key k' o' h2 with ⟨rfl, rfl⟩ | ⟨_, o2, h2, _⟩
      · rw [eg]; simp [blk]
      · exact h.mem.apart k k' o1 o2 b h1 h2 hne hb
  · obtain ⟨k, o, ho, hb⟩ := hb
    rcases key k o ho with ⟨rfl, rfl⟩ | ⟨_, o', ho', _⟩
    · rw [eg] at hb; cases hb
    · exact h.mine b ⟨k, o', ho', hb⟩
end Go.Proofs.YtdajnmffoopcaaaGreatDoor.Ab
namespace Go.Proofs.YtdajnmffoopcaaaGreatDoor.Ab
set_option linter.unusedVariables false
set_option linter.unusedSimpArgs false
open Go.RowKit
section
variable {P : Program} {T : Tab} {o : Oper} {vals : Operand → Option AV}
theorem tD {w : World} {M : Nat → Prop} {v : Value} (h : v.oneCell' = true) : ∀ n, RepL w M (List.replicate n (.lit v)) (List.replicate n v)
  | 0 => by simp [RepL]
  | n + 1 => by rw [List.replicate_succ, List.replicate_succ, RepL, Rep]; exact ⟨⟨rfl, h⟩, tD h n⟩
theorem pS (hT : TabOk P T) {t e n sz by_ : Nat} {z v : Value} {x y : Operand} {ei : TI} (g : Nat) (ho : o.op = .makeSlice t x y) (ht : T.at t = some ⟨.slice e, sz, by_, z⟩) (he : T.at e = some ei) (hc : ei.zero.cells = #[v]) (hs : ei.size = 1) (h1 : v.oneCell' = true)
    (hx : vals x = some (.imm (.lit (.int .i64 (n : Int))))) (hy : vals y = some (.imm (.lit (.int .i64 (n : Int))))) (hn : n ≤ slMax) (hb : ei.bytes * n ≤ 281474976710656) : OpT P o vals (fun _ => none) (.ref g n) (one g (.arr e 1 n (List.replicate n (.lit v)))) := by
  intro w M β ρ hamb hm hv
  have a1 := hv x (by simp [ho, Op.operands]) _ hx
  have a2 := hv y (by simp [ho, Op.operands]) _ hy
  rw [RepA, Rep] at a1 a2
  obtain ⟨hu, _⟩ := hT _ _ ht
  obtain ⟨_, j, hj, e1, e2, e3⟩ := hT _ _ he
  obtain ⟨w', hrun, hown, hgr⟩ := run_make_full (P := P) w 0 t e j ei.zero 1 hu hj e3 (by rw [e1, hs]) .i64 .i64 n (by rw [e2]; exact hb) (by simp only [slMax] at hn; simp only [maxLen]; omega) (Nat.zero_le _)
  have hex : (execOp ρ o).run P w = .ok (.value (.slice (some ⟨w.heap.size, 0, none⟩) n n)) w' := by
    unfold execOp
    simp only [ho, a1.1, a2.1, Sem.run_bind, hrun, Result.andThen_ok, Sem.run_pure]
  rw [hex]
  rw [Nat.mul_one, hc, toList_madeCells_one] at hown
  let M' : Nat → Prop := fun b => (b < w.heap.size ∧ M b) ∨ b = w.heap.size
  let β' : Nat → Value := fun k => if k = g then .slice (some ⟨w.heap.size, 0, none⟩) n n else β k
  have eg : β' g = .slice (some ⟨w.heap.size, 0, none⟩) n n := by simp [β']
  refine ⟨M', β', ?_, eX ⟨List.replicate n v, by rw [eg]; exact hown, ?_, tD h1 n, hn, fun b hb => ?_⟩, ⟨hgr.os, hgr.tape, hgr.output, hgr.size, fun b hb _ => ⟨hgr.block b hb (by simp), ⟨fun h => by rcases h with h | h <;> first | exact h.2 | omega, fun h => .inl ⟨hb, h⟩⟩⟩⟩, fun k hk1 hk2 => ?_, fun k hk => absurd rfl hk, fun b hb => ?_⟩
  · rw [RepA, eg]; exact ⟨Nat.le_refl _, fun _ => rfl, rfl⟩
  · rw [List.all_eq_true]; intro q hq; rw [List.eq_of_mem_replicate hq]; rfl
  · rw [eg] at hb; simp only [blk, Option.some.injEq] at hb; exact .inr hb.symm
  · have : k ≠ g := fun e => by subst e; rw [dM] at hk2; cases hk2
    simp [β', this]
  · rw [eC, eg] at hb
    simp only [blk, Option.some.injEq] at hb
    right; omega
end
end Go.Proofs.YtdajnmffoopcaaaGreatDoor.Ab
namespace Go.Proofs.YtdajnmffoopcaaaGreatDoor.Ab
set_option linter.unusedVariables false
set_option linter.unusedSimpArgs false
open Go.RowKit
section
variable {P : Program} {T : Tab} {o : Oper} {vals : Operand → Option AV}
/-- A slice of one's own that has elements lies in a block. -/
theorem kK {w : World} {e z n : Nat} {v : Value} {xs : List Value} (h : w.ownsRow 0 e z v n xs) (hn : 0 < n) : ∃ g cap cur, v = .slice (some ⟨g, 0, none⟩) n cap ∧ w.heap[g]? = some (.cells cur e (0, 0)) ∧ n ≤ cap ∧ cur.size = cap * z ∧ cur.toList.take (n * z) = xs := by
  rcases h.2 with ⟨_, h0⟩ | ⟨g, cap, cur, hv, _, hh, hnc, _, hcs, ht⟩
  · omega
  · exact ⟨g, cap, cur, hv, hh, hnc, hcs, ht⟩
theorem rF {t e g n z j : Nat} {k : Int} {x i : Operand} {ti : TypeInfo} {cs : List IV} (hu : P.underlying t = some (.slice e)) (hi : P.info? e = some ti) (hz : ti.size = z) (ho : o.op = .indexAddr t x i)
    (hx : vals x = some (.ref g n)) (hk : vals i = some (.imm (.lit (.int .i64 k)))) (hj : k = (j : Int)) (hlt : j < n) : OpT P o vals (one g (.arr e z n cs)) (.el g n (j * z)) (one g (.arr e z n cs)) :=
  OpT.reads fun w M β ρ hob hv => by
    have h1 := hv x (by simp [ho, Op.operands]) _ hx
    have h2 := hv i (by simp [ho, Op.operands]) _ hk
    rw [RepA] at h1
    rw [RepA, Rep] at h2
    obtain ⟨xs, hown, _⟩ := hob
    obtain ⟨b, cap, cur, hb, hh, hnc, hcs, htk⟩ := kK hown (by omega)
    have hlen : vlen (β g) = n := by rw [hb]; rfl
    have hxv := h1.2.1 hlen
    rw [hb] at hxv
    refine ⟨.pointer (some ⟨b, j * z, none⟩), ?_, by rw [RepA]; exact ⟨by rw [hlen]; exact Nat.le_refl _, fun _ => ⟨b, by rw [hb]; rfl, rfl⟩, rfl⟩⟩
    subst hj
    subst hz
    have : (0 : Int) ≤ (j : Int) ∧ (j : Int) < (n : Int) := ⟨by omega, by omega⟩
    unfold execOp
    simp [ho, hxv, h2.1, Instr.indexAt, asIntOf, run_underlying hu, sizeOf, typeInfo, hi, hlt, Addr.add_mid, Addr.add]
    try omega
theorem vK (hT : TabOk P T) {t e g n z k : Nat} {ti : TI} {x : Operand} {cs : List IV} {y : IV} (ho : o.op = .load t x) (ht : T.at t = some ti) (hr : ti.desc.isRow = false) (hx : vals x = some (.el g n k)) (hn : 0 < n) (hy : cs[k]? = some y) :
    OpT P o vals (one g (.arr e z n cs)) (.imm y) (one g (.arr e z n cs)) :=
  OpT.reads fun w M β ρ hob hv => by
    have h1 := hv x (by simp [ho, Op.operands]) _ hx
    rw [RepA] at h1
    obtain ⟨xs, hown, h2, h3, _⟩ := hob
    obtain ⟨b, cap, cur, hb, hh, hnc, hcs, htk⟩ := kK hown hn
    have hlen : vlen (β g) = n := by rw [hb]; rfl
    obtain ⟨b', hb', e1⟩ := h1.2.1 hlen
    rw [hb] at hb'
    simp only [blk, Option.some.injEq] at hb'
    subst hb'
    obtain ⟨u, hu, hru⟩ := h3.get k y hy
    have hc : w.cell? ⟨b, k, none⟩ = some u := by
      rw [cell_of_row w b k cur e (0, 0) hh]
      rw [← htk] at hu
      rw [List.getElem?_take] at hu
      split at hu
      · simpa using hu
      · cases hu
    refine ⟨u, ?_, by rw [RepA]; exact hru⟩
    unfold execOp
    simp only [ho, e1, Sem.run_bind, iB w (hT _ _ ht).1 hr b k hc, Result.andThen_ok, Sem.run_pure]
end
end Go.Proofs.YtdajnmffoopcaaaGreatDoor.Ab
namespace Go.Proofs.YtdajnmffoopcaaaGreatDoor.Ab
set_option linter.unusedVariables false
set_option linter.unusedSimpArgs false
open Go.RowKit
def Mold (w : World) (M : Nat → Prop) : Nat → Prop := fun b => b < w.heap.size ∧ M b
theorem aAr {w : World} {M : Nat → Prop} {b : Nat} (h : w.heap.size ≤ b) : ¬ Mold w M b := fun hm => by have := hm.1; omega
theorem qG {P : Program} {f : FuncId} {args : List IV} {r : IV} (he : Enters P f)
    (h : ∀ w M vs, Amb w M → RepL w M args vs → Calls P f vs.toArray w fun e w' => ∃ v, e = .returned v ∧ Below w.heap.size w w' ∧ Rep w' (Mold w M) r v) :
    ACalls P f (args.map .imm) [] (.imm r) [] := by
  refine ⟨he, fun w M β vs hamb hm hv => ?_⟩
  refine (h w M vs hamb (RepAL.imm.2 hv)).mono fun e w' ⟨v, hev, hb, hr⟩ => ⟨v, hev, Mold w M, β, ?_, ?_, ?_, fun _ _ _ => rfl, fun g hg => absurd rfl hg, ?_⟩
  · rw [RepA]; exact hr
  · exact ⟨fun g o hg => (by cases hg), fun g g' o o' b hg => (by cases hg)⟩
  · exact ⟨hb.os, hb.tape, hb.output, hb.size, fun b hlt _ => ⟨hb.block b hlt, ⟨fun h => h.2, fun h => ⟨hlt, h⟩⟩⟩⟩
  · intro b ⟨g, o, hg, _⟩; cases hg
theorem lU {w : World} {M : Nat → Prop} {x : IV} {xs : List IV} {vs : List Value} (h : RepL w M (x :: xs) vs) : ∃ v us, vs = v :: us ∧ Rep w M x v ∧ RepL w M xs us := by
  match vs, h with
  | v :: us, h => rw [RepL] at h; exact ⟨v, us, rfl, h.1, h.2⟩
theorem tE {w : World} {M : Nat → Prop} {vs : List Value} (h : RepL w M [] vs) : vs = [] := by
  match vs, h with
  | [], _ => rfl
theorem rG {w : World} {M : Nat → Prop} {u v : Value} (h : Rep w M (.lit u) v) : v = u := by rw [Rep] at h; exact h.1
theorem oE {w : World} {M : Nat → Prop} {v : Value} (h : v.oneCell' = true) : Rep w M (.lit v) v := by rw [Rep]; exact ⟨rfl, h⟩
/-- A slice of values that hang on nothing, in a row of cells of its own. -/
theorem lA {w : World} {M : Nat → Prop} : ∀ {l : List Value}, l.all (·.oneCell') = true → RepL w M (l.map .lit) l
  | [], _ => by simp [RepL]
  | v :: l, h => by
    simp only [List.all_cons, Bool.and_eq_true] at h
    rw [List.map_cons, RepL]
    exact ⟨oE h.1, lA h.2⟩
theorem lB {w : World} {M : Nat → Prop} : ∀ {l us : List Value}, RepL w M (l.map .lit) us → us = l
  | [], us, h => tE h
  | v :: l, us, h => by
    rw [List.map_cons] at h
    obtain ⟨u, us', rfl, h1, h2⟩ := lU h
    rw [rG h1, lB h2]
/-- A slice of strings that came in: where it lies. -/
def strs (l : List ByteArray) : List IV := l.map fun s => .lit (.string s)
theorem yK (l : List ByteArray) : strs l = (l.map Value.string).map .lit := by simp [strs]
/-- A new row of strings. -/
theorem rH {w w' : World} {M : Nat → Prop} {b cap : Nat} {l : List ByteArray} {cells : Array Value} {T : TypeId} {fz : Nat × Nat} (hb : w'.heap[b]? = some (.cells cells T fz)) (hnew : w.heap.size ≤ b)
    (hc : cells.toList.take l.length = l.map Value.string) (hcap : l.length ≤ cap) (hn : l.length ≤ slMax) : Rep w' (Mold w M) (.sl false l.length (strs l)) (.slice (some ⟨b, 0, none⟩) l.length cap) := by
  rw [Rep]
  refine ⟨_, cap, rfl, hcap, (fun h => by cases h), (fun h => by cases h), hn, by simp [strs, List.all_eq_true, IV.one], .inr ⟨b, 0, cells, T, fz, rfl, hb, aAr hnew, ?_⟩⟩
  rw [List.drop_zero, yK, List.length_map, List.length_map, hc]
  exact lA (by simp [List.all_eq_true, Value.oneCell'])
/-- A result, its spare room and whether it is nil forgotten. -/
theorem tF {P : Program} {σ : SF} {x : ResultVar} {r : AV} (h : ResOk P σ x r) : ResOk P σ x r.nz := fun C a w M β hS => by
  obtain ⟨v, h1, h2⟩ := h C a w M β hS
  exact ⟨v, h1, h2.nz⟩
end Go.Proofs.YtdajnmffoopcaaaGreatDoor.Ab
namespace Go.Proofs.YtdajnmffoopcaaaGreatDoor.Ab
set_option linter.unusedVariables false
set_option linter.unusedSimpArgs false
open Go.RowKit
def IExit (P : Program) (fn : Func) (r : AV) (e : Exit) (σ : SF) : Prop := ∃ σ', Imp [] fn.ntmps σ σ' ∧ AExit P fn (Mem.get []) r (Mem.get []) e σ'
theorem lC {P : Program} {keep : List Nat} {N : Nat} {Q : Exit → SF → Prop} {σ : SF} {c : Code} (h : AWP P keep N c (fun e σ => ∃ σ', Imp keep N σ σ' ∧ Q e σ') σ) : AWP P keep N c Q σ := fun C h1 h2 a w hR =>
  wp_mono (h C h1 h2 a w hR) fun e a w ⟨σ, ⟨σ', hi, hq⟩, hR⟩ => ⟨σ', hq, hi C h1 h2 a w hR⟩
theorem cZ {P : Program} {f : FuncId} {fn : Func} {c : Code} {args : List AV} {r : AV} (hf : P.funcs[f]? = some fn) (hn : (fn.name == "runtime.NumGoroutine") = false) (hb : fn.body = some c)
    (hN : args.length ≤ fn.ntmps) (hk1 : AV.namesL args = [])
    (h : AWP P [] fn.ntmps c (IExit P fn r) (S.f ⟨numbered 0 args, []⟩)) : ACalls P f args [] r [] :=
  aJ hf hn hb hN hk1 (lC h)
theorem eA {P : Program} {fn : Func} {r : AV} {e : Exit} {σ : SF} (h : AExit P fn (Mem.get []) r (Mem.get []) e σ) : IExit P fn r e σ := ⟨σ, fun _ _ _ _ _ h => h, h⟩
/-- The end at which a row that was made becomes a slice. -/
theorem yL {P : Program} {fn : Func} {r : AV} {e : Exit} {s s' : List (Nat × AV)} {m m' : Mem} (g : Nat) {t z n : Nat} {cs : List IV} (hl : Le (S.f ⟨s, m⟩) (S.f ⟨s', m'⟩)) (hg : m'.get g = some (.arr t z n cs)) (hs : curS g n s') (hm : curM g n m')
    (h : AExit P fn (Mem.get []) r (Mem.get []) e (S.f ⟨fzrS g n cs s', fzrM g n cs m'⟩)) : IExit P fn r e (S.f ⟨s, m⟩) := ⟨_, (Imp.of_le hl).trans (dC hg hs hm), h⟩
end Go.Proofs.YtdajnmffoopcaaaGreatDoor.Ab
namespace Go.Proofs.YtdajnmffoopcaaaGreatDoor.Ab
set_option linter.unusedVariables false
set_option linter.unusedSimpArgs false
open Go.RowKit
section
variable {P : Program} {T : Tab} {o : Oper} {vals : Operand → Option AV}
theorem aBI {t u : TypeId} {x y : Operand} {a b z : Int} (ho : o.op = .binOp .quo t x y u) (hx : vals x = some (.imm (.lit (.int .i64 a)))) (hy : vals y = some (.imm (.lit (.int .i64 b)))) (hb : b ≠ 0) (hz : a.tdiv b = z) (h1 : -9223372036854775808 ≤ z) (h2 : z ≤ 9223372036854775807) :
    OpT P o vals (fun _ => none) (.imm (.lit (.int .i64 z))) (fun _ => none) :=
  OpT.pure fun w M β ρ hv => by
    have h3 := hv x (by simp [ho, Op.operands]) _ hx
    have h4 := hv y (by simp [ho, Op.operands]) _ hy
    rw [RepA, Rep] at h3 h4
    refine ⟨.int .i64 z, ?_, by rw [RepA, Rep]; exact ⟨rfl, rfl⟩⟩
    have hw : IntKind.i64.wrap z = z := nF h1 h2
    have hg : (eqGuard .quo t x y (.int .i64 a) (.int .i64 b)).run P w = .ok () w := by unfold eqGuard; rfl
    unfold execOp
    simp only [ho, h3.1, h4.1]
    rw [Sem.run_bind, Sem.run_bind, hg]
    simp [binOp, Op.intDiv, hb, hz, hw]
theorem nB (w : World) (t ty e : TypeId) (i : TypeInfo) (ht : P.underlying t = some (.slice e)) (hi : P.info? e = some i) (a : Option Addr) (n cap : Nat) (hnc : n ≤ cap) (hnone : a = none → n = 0 ∧ cap = 0) (b : Option Addr) (c : Nat) :
    (Builtin.append_ #[t, t] ty #[.slice a n cap, .slice b 0 c]).run P w = .ok (.slice a n cap) w := by
  have hf : (Builtin.firstCells i.size 0 (.slice b 0 c)).run P w = .ok #[] w := by
    cases b with
    | none => simp [Builtin.firstCells]
    | some b => exact run_firstCells_some w i.size 0 b 0 c [] (by simp) (fun j v h => by simp at h)
  cases a with
  | none => obtain ⟨rfl, rfl⟩ := hnone rfl; simp [Builtin.append_, run_underlying ht, sizeOf, typeInfo, hi, Builtin.lenOf, hf]
  | some a => simp [Builtin.append_, run_underlying ht, sizeOf, typeInfo, hi, Builtin.lenOf, hf, hnc, storeCells]
/-- append of nothing. -/
theorem tG (hT : TabOk P T) {t e n : Nat} {ti ei : TI} {sx x : Operand} {f q : Bool} {cs ys : List IV} (ho : o.op = .call { callee := .builtin .append, args := #[sx, x], argTypes := #[t, t] })
    (ht : T.at t = some ti) (hd : ti.desc = .slice e) (he : T.at e = some ei) (hs : vals sx = some (.imm (.sl q n cs))) (hx : vals x = some (.imm (.sl f 0 ys))) :
    OpT P o vals (fun _ => none) (.imm (.sl q n cs)) (fun _ => none) :=
  OpT.pure fun w M β ρ hv => by
    have h1 := hv sx (by simp [ho, Op.operands, Call.operands]) _ hs
    have h2 := hv x (by simp [ho, Op.operands, Call.operands]) _ hx
    refine ⟨ρ sx, ?_, h1⟩
    rw [RepA, Rep] at h1 h2
    obtain ⟨a, cap, ea, hc, hfu, hno, hn, hall, hr⟩ := h1
    obtain ⟨b, c2, eb, _⟩ := h2
    obtain ⟨hu, _⟩ := hT _ _ ht
    rw [hd] at hu
    obtain ⟨_, j, hj, e1, e2, e3⟩ := hT _ _ he
    have hrun := nB (P := P) w t o.type e j hu hj a n cap hc (fun h => by have := hno h; omega) b c2
    unfold execOp
    simp only [ho, resolve, invoke, builtin, Sem.run_bind, Sem.run_pure, Result.andThen_ok, List.map_toArray, List.map_cons, List.map_nil, ea, eb, hrun]
end
section
variable {P : Program} {T : Tab} {keep : List Nat} {N : Nat} {ops : Array Oper} {K : List Foot → SF → Prop} {rest : List Oper} {ks : List Foot} {s : List (Nat × AV)} {m : Mem} {o : Oper} {d : Nat}
theorem oF {t u : TypeId} {x y : Operand} {a b z : Int} (ho : o.op = .binOp .quo t x y u) (hw : wantedA ops o (S.f ⟨s, m⟩) = some true) (hd : o.dst = some d) (hN : d < N) (hx : (S.f ⟨s, m⟩).ev x = some (.imm (.lit (.int .i64 a)))) (hy : (S.f ⟨s, m⟩).ev y = some (.imm (.lit (.int .i64 b)))) (hb : b ≠ 0) (hz : a.tdiv b = z) (h1 : -9223372036854775808 ≤ z) (h2 : z ≤ 9223372036854775807)
    (k : AOps P keep N ops K rest (kNo :: ks) (S.f ⟨(d, .imm (.lit (.int .i64 z))) :: s, m⟩)) : AOps P keep N ops K (o :: rest) ks (S.f ⟨s, m⟩) :=
  dK hw hd hN (aBI ho hx hy hb hz h1 h2) k
theorem rI (hT : TabOk P T) {t e n sz by_ : Nat} {z : Value} {ei : TI} {sx x : Operand} {f q : Bool} {cs ys : List IV} (ho : o.op = .call { callee := .builtin .append, args := #[sx, x], argTypes := #[t, t] }) (hw : wantedA ops o (S.f ⟨s, m⟩) = some true) (hd : o.dst = some d) (hN : d < N)
    (ht : T.at t = some ⟨.slice e, sz, by_, z⟩) (he : T.at e = some ei) (hs : (S.f ⟨s, m⟩).ev sx = some (.imm (.sl q n cs))) (hx : (S.f ⟨s, m⟩).ev x = some (.imm (.sl f 0 ys)))
    (k : AOps P keep N ops K rest (kNo :: ks) (S.f ⟨(d, .imm (.sl q n cs)) :: s, m⟩)) : AOps P keep N ops K (o :: rest) ks (S.f ⟨s, m⟩) :=
  dK hw hd hN (tG hT ho ht rfl he hs hx) k
end
end Go.Proofs.YtdajnmffoopcaaaGreatDoor.Ab
namespace Go.Proofs.YtdajnmffoopcaaaGreatDoor.Ab
set_option linter.unusedVariables false
set_option linter.unusedSimpArgs false
open Go.RowKit
section
variable {P : Program} {T : Tab} {o : Oper} {vals : Operand → Option AV}
theorem aAs (l : List Value) (k N : Nat) (v : Value) (hk : k < N) (hN : N ≤ l.length) : (l.take k ++ [v] ++ l.drop (k + 1)).take N = (l.take N).set k v := by
  have e : l.take k ++ [v] ++ l.drop (k + 1) = l.set k v := by
    rw [List.set_eq_take_append_cons_drop, if_pos (by omega), List.append_assoc]
    rfl
  rw [e, List.take_set]
theorem tH (hT : TabOk P T) {t e g n z k : Nat} {ti : TI} {a x : Operand} {cs : List IV} {y : IV} (ho : o.op = .store t a x) (ht : T.at t = some ti) (hs1 : ti.size = 1) (ha : vals a = some (.el g n k)) (hx : vals x = some (.imm y)) (hy1 : (AV.imm y).cells = [.imm y]) (h1 : y.one = true) (hn : 0 < n) (hk : k < n * z) :
    OpT P o vals (one g (.arr e z n cs)) undefA (one g (.arr e z n (cs.set k y))) := by
  intro w M β ρ hamb hm hv
  have hob := hm.ok g _ (dM g _)
  have ha1 := hv a (by simp [ho, Op.operands]) _ ha
  have hx1 := hv x (by simp [ho, Op.operands]) _ hx
  rw [RepA] at ha1
  obtain ⟨xs, hown, hall, hrep, hsl, hM⟩ := hob
  obtain ⟨b, cap, cur, hb, hh, hnc, hcs, htk⟩ := kK hown hn
  have hlen : vlen (β g) = n := by rw [hb]; rfl
  obtain ⟨b', hb', e1⟩ := ha1.2.1 hlen
  rw [hb] at hb'
  simp only [blk, Option.some.injEq] at hb'
  subst hb'
  have hMb : M b := hM b (by rw [hb]; rfl)
  obtain ⟨hu, j, hj, ej, _⟩ := hT _ _ ht
  have hrx := gQ hx1 (by rw [hy1]; simp [AV.one, h1])
  rw [hy1] at hrx
  have hlx : (ρ x).cells.toList.length = 1 := by have := hrx.length; simpa using this.symm
  obtain ⟨v, hv1⟩ : ∃ v, (ρ x).cells.toList = [v] := List.length_eq_one_iff.1 hlx
  have hcap : k + 1 ≤ cur.size := by
    rw [hcs]
    exact Nat.le_trans hk (Nat.mul_le_mul_right _ hnc)
  rw [hv1] at hrx
  have hrv : Rep w M y v := by
    rw [RepAL] at hrx
    have := hrx.1
    rw [RepA] at this
    exact this
  have hone : ∀ u ∈ [v], u.oneCell' = true := fun u hu => hrx.one (by simp [AV.one, h1]) u hu
  have hrun := run_storeCells_at (P := P) b k e [v] 0 cur w hh (by simpa using hcap) hone
  simp only [Nat.add_zero] at hrun
  have hsz : (ρ x).cells.size = j.size := by rw [← Array.length_toList, hlx, ej, hs1]
  have hex : (execOp ρ o).run P w = .ok .skip (w.setRow b (cur.toList.take k ++ [v] ++ cur.toList.drop (k + 1)).toArray) := by
    unfold execOp
    simp only [ho, e1, Instr.storeAt, Instr.sureAddr, storeVar, sizeOf, typeInfo, run_program, hj, Sem.run_bind, Sem.run_pure, Result.andThen_ok]
    rw [if_neg (by rw [hsz]; simp), hv1]
    simp only [Sem.run_bind, hrun, Result.andThen_ok, Sem.run_pure]
    rfl
  rw [hex]
  have hkeep : Keeps w M (w.setRow b (cur.toList.take k ++ [v] ++ cur.toList.drop (k + 1)).toArray) M := fun c hc hmc => ⟨setRow_other w b c _ (fun ec => hmc (ec ▸ hMb)), hmc⟩
  have hl1 : (cur.toList.take k ++ [v] ++ cur.toList.drop (k + 1)).length = cur.size := by
    simp only [List.length_append, List.length_take, List.length_drop, Array.length_toList, List.length_singleton]
    omega
  have hnz : n * z ≤ cur.size := by rw [hcs]; exact Nat.mul_le_mul_right _ hnc
  refine ⟨M, β, jI _ _ _, eX ⟨xs.set k v, ⟨by rw [List.length_set]; exact hown.1, .inr ⟨b, cap, (cur.toList.take k ++ [v] ++ cur.toList.drop (k + 1)).toArray, hb, Nat.zero_le _, setRow_heap w b _ _ _ _ hh, hnc, ?_, by rw [List.size_toArray, hl1, hcs], ?_⟩⟩, ?_, (RepL.set hrv k hrep).keep hkeep, hsl, hM⟩, ⟨rfl, rfl, rfl, by simp, fun c hc hnc => ⟨setRow_other w b c _ (fun ec => hnc (by rw [eC, hb, ec]; rfl)), Iff.rfl⟩⟩, fun _ _ _ => rfl, fun _ _ => LeV.refl _, fun c hc => .inl (by rw [eC] at hc ⊢; exact hc)⟩
  · rcases hown.2 with ⟨hv0, _⟩ | ⟨_, _, _, hv0, _, _, _, hcm, _⟩
    · rw [hb] at hv0; cases hv0
    · rw [hb] at hv0; cases hv0; exact hcm
  · show (cur.toList.take k ++ [v] ++ cur.toList.drop (k + 1)).take (n * z) = _
    rw [aAs _ _ _ _ hk (by rw [Array.length_toList]; exact hnz), htk]
  · rw [List.all_eq_true] at hall ⊢
    intro q hq
    rcases List.mem_or_eq_of_mem_set hq with hq | rfl
    · exact hall q hq
    · exact h1
/-- A struct, its nils told as such. -/
theorem vL (hT : TabOk P T) {t : Nat} {ti : TI} {fs : Array Field} {parts : Array (Nat × Operand)} {pl : List (Nat × Nat)} {ps : List (Nat × AV)} {rs : List AV} (ho : o.op = .build t parts) (ht : T.at t = some ti) (hd : ti.desc = .struct fs)
    (hz : ti.zero.cells.toList.all (·.oneCell') = true) (hpl : T.places fs.toList = some pl) (hps : evParts vals parts.toList = some ps) (hf : fillA (fun i => pl[i]?) (ti.zero.cells.toList.map fun v => .imm (.lit v)) ps = some rs) : OpT P o vals (fun _ => none) (.mkAgg rs) (fun _ => none) :=
  OpT.pure fun w M β ρ hv => by
    obtain ⟨hu, j, hj, _, _, e3⟩ := hT _ _ ht
    rw [hd] at hu
    have hrp := jL (w := w) (M := M) (β := β) (ρ := ρ) hps (fun x hx y hy => hv x.2 (by
      simp only [ho, Op.operands, List.mem_toArray, List.mem_map]
      exact ⟨x, hx, rfl⟩) y hy)
    obtain ⟨us', h1, h2, h3, h4⟩ := kW (place := fun i => pl[i]?) ps _ _ ti.zero.cells rs hrp (kX hz) (by simp [List.all_map, AV.one, IV.one]) hf
    refine ⟨.agg us', ?_, gP h3 h2⟩
    have hplaces : (fs.mapM fun f => (do Pure.pure (f.offset, ← sizeOf f.type) : Sem (Nat × Nat))).run P w = .ok pl.toArray w := by
      have := kG hT w fs.toList pl hpl
      have e : fs = fs.toList.toArray := by simp
      rw [e, List.mapM_toArray, Sem.run_map, this]
      rfl
    have hmap : (parts.map fun x => (x.1, ρ x.2)).toList = parts.toList.map fun x => (x.1, ρ x.2) := by simp
    unfold execOp
    simp only [ho, Instr.build, zeroValue, typeInfo, run_program, hj, e3, Sem.run_bind, Sem.run_pure, Result.andThen_ok, run_underlying hu, hplaces, hmap]
    have h1' : Instr.fill (fun x => pl.toArray[x]?) ti.zero.cells (List.map (fun x => (x.1, ρ x.2)) parts.toList) = some us' := by
      have e : (fun (x : Nat) => pl.toArray[x]?) = fun (i : Nat) => pl[i]? := by funext x; simp
      rw [e]; exact h1
    rw [h1']
    rfl
end
section
variable {P : Program} {T : Tab} {keep : List Nat} {N : Nat} {ops : Array Oper} {K : List Foot → SF → Prop} {rest : List Oper} {ks : List Foot} {s : List (Nat × AV)} {m : Mem} {o : Oper} {d : Nat}
theorem dQ (hT : TabOk P T) {t sz by_ : Nat} {zz : Value} {fs : Array Field} {parts : Array (Nat × Operand)} {pl : List (Nat × Nat)} {ps : List (Nat × AV)} {rs : List AV} (ho : o.op = .build t parts) (hw : wantedA ops o (S.f ⟨s, m⟩) = some true) (hd : o.dst = some d) (hN : d < N) (ht : T.at t = some ⟨.struct fs, sz, by_, zz⟩)
    (hz : zz.cells.toList.all (·.oneCell') = true) (hpl : T.places fs.toList = some pl) (hps : evParts (S.f ⟨s, m⟩).ev parts.toList = some ps) (hf : fillA (fun i => pl[i]?) (zz.cells.toList.map fun v => .imm (.lit v)) ps = some rs)
    (k : AOps P keep N ops K rest (kNo :: ks) (S.f ⟨(d, .mkAgg rs) :: s, m⟩)) : AOps P keep N ops K (o :: rest) ks (S.f ⟨s, m⟩) :=
  dK hw hd hN (vL hT ho ht rfl hz hpl hps hf) k
theorem oG (g : Nat) (hT : TabOk P T) {t e n sz by_ : Nat} {z v : Value} {x y : Operand} {ei : TI} (ho : o.op = .makeSlice t x y) (hw : wantedA ops o (S.f ⟨s, m⟩) = some true) (hd : o.dst = some d) (hN : d < N) (ht : T.at t = some ⟨.slice e, sz, by_, z⟩) (he : T.at e = some ei) (hc : ei.zero.cells = #[v]) (hs : ei.size = 1) (h1 : v.oneCell' = true)
    (hx : (S.f ⟨s, m⟩).ev x = some (.imm (.lit (.int .i64 (n : Int))))) (hy : (S.f ⟨s, m⟩).ev y = some (.imm (.lit (.int .i64 (n : Int))))) (hn : n ≤ slMax) (hb : ei.bytes * n ≤ 281474976710656) (hk : g ∉ keep) (hfs : freshS g s = true) (hfm : freshM g m = true)
    (k : AOps P keep N ops K rest (⟨[g], false, true⟩ :: ks) (S.f ⟨(d, .ref g n) :: s, (g, .arr e 1 n (List.replicate n (.lit v))) :: m⟩)) : AOps P keep N ops K (o :: rest) ks (S.f ⟨s, m⟩) :=
  gU hw hd hN (pS hT g ho ht he hc hs h1 hx hy hn hb) hk hfs hfm k
theorem gL (hT : TabOk P T) {t e g n z j sz by_ : Nat} {zz : Value} {k0 : Int} {x i : Operand} {ei : TI} {cs : List IV} (ho : o.op = .indexAddr t x i) (hw : wantedA ops o (S.f ⟨s, m⟩) = some true) (hd : o.dst = some d) (hN : d < N) (ht : T.at t = some ⟨.slice e, sz, by_, zz⟩) (he : T.at e = some ei) (hz : ei.size = z)
    (hx : (S.f ⟨s, m⟩).ev x = some (.ref g n)) (hi : (S.f ⟨s, m⟩).ev i = some (.imm (.lit (.int .i64 k0)))) (hg : m.get g = some (.arr e z n cs)) (hj : k0 = (j : Int)) (hlt : j < n)
    (k : AOps P keep N ops K rest (⟨[g], true, false⟩ :: ks) (S.f ⟨(d, .el g n (j * z)) :: s, m⟩)) : AOps P keep N ops K (o :: rest) ks (S.f ⟨s, m⟩) := by
  obtain ⟨hu, _⟩ := hT _ _ ht
  obtain ⟨_, jj, hjj, e1, _⟩ := hT _ _ he
  exact jO hw hd hN (rF hu hjj (e1.trans hz) ho hx hi hj hlt) hg k
theorem iV (hT : TabOk P T) {t e g n z k0 : Nat} {ti : TI} {x : Operand} {cs : List IV} {y : IV} (ho : o.op = .load t x) (hw : wantedA ops o (S.f ⟨s, m⟩) = some true) (hd : o.dst = some d) (hN : d < N) (ht : T.at t = some ti) (hr : ti.desc.isRow = false) (hx : (S.f ⟨s, m⟩).ev x = some (.el g n k0)) (hg : m.get g = some (.arr e z n cs)) (hn : 0 < n) (hy : cs[k0]? = some y)
    (k : AOps P keep N ops K rest (⟨[g], true, false⟩ :: ks) (S.f ⟨(d, .imm y) :: s, m⟩)) : AOps P keep N ops K (o :: rest) ks (S.f ⟨s, m⟩) :=
  jO hw hd hN (vK hT ho ht hr hx hn hy) hg k
theorem rJ (hT : TabOk P T) {t e g n z k0 : Nat} {ti : TI} {a x : Operand} {cs : List IV} {y : IV} (ho : o.op = .store t a x) (hw : wantedA ops o (S.f ⟨s, m⟩) = some true) (hd : o.dst = none) (ht : T.at t = some ti) (hs1 : ti.size = 1) (ha : (S.f ⟨s, m⟩).ev a = some (.el g n k0)) (hx : (S.f ⟨s, m⟩).ev x = some (.imm y)) (hg : m.get g = some (.arr e z n cs)) (hy1 : (AV.imm y).cells = [.imm y]) (h1 : y.one = true) (hn : 0 < n) (hk : k0 < n * z)
    (k : AOps P keep N ops K rest (⟨[g], false, false⟩ :: ks) (S.f ⟨s, m.put g (.arr e z n (cs.set k0 y))⟩)) : AOps P keep N ops K (o :: rest) ks (S.f ⟨s, m⟩) :=
  lO hw hd (tH hT ho ht hs1 ha hx hy1 h1 hn hk) hg k
end
theorem eH {P : Program} {fn : Func} {r : AV} {e : Exit} {σ σ' : SF} (hi : Imp [] fn.ntmps σ σ') (h : AExit P fn (Mem.get []) r (Mem.get []) e σ') : IExit P fn r e σ := ⟨σ', hi, h⟩
end Go.Proofs.YtdajnmffoopcaaaGreatDoor.Ab
namespace Go.Proofs.YtdajnmffoopcaaaGreatDoor.Ab
set_option linter.unusedVariables false
set_option linter.unusedSimpArgs false
open Go.RowKit
theorem gE {keep : List Nat} {N : Nat} {s : List (Nat × AV)} {m : Mem} (g : Nat) (hk : g ∉ keep) (hs : freshS g s = true) (hm : freshM g m = true) :
    Imp keep N (S.f ⟨s, m⟩) (S.f ⟨s, (g, .fut) :: m⟩) := by
  intro C hC1 hC2 a w ⟨M, β, h0⟩
  have h := h0.named g (.tuple #[]) (by rw [hC1]; exact hk) hs hm
  have eg : (fun n => if n = g then (Value.tuple #[]) else β n) g = .tuple #[] := by simp
  generalize (fun n => if n = g then (Value.tuple #[]) else β n) = β' at h eg
  obtain ⟨f1, f2⟩ := eY hm
  have key : ∀ k o, Mem.get ((g, .fut) :: m) k = some o → (k = g ∧ o = .fut) ∨ (k ≠ g ∧ m.get k = some o) := fun k o ho => by
    simp only [Mem.get] at ho
    split at ho
    · rename_i e; cases ho; exact .inl ⟨e.symm, rfl⟩
    · rename_i e; exact .inr ⟨fun e2 => e e2.symm, ho⟩
  refine ⟨M, β', h.amb, h.size, h.defers, fun t' x hx => h.slots t' x hx, ⟨fun k o ho => ?_, fun k k' o o' b h1 h2 hne hb => ?_⟩, h.ev, h.keepn, fun b hb => ?_⟩
  · rcases key k o ho with ⟨rfl, rfl⟩ | ⟨_, ho⟩
    · exact eg
    · exact h.mem.ok k o ho
  · rcases key k o h1 with ⟨rfl, rfl⟩ | ⟨_, h1⟩
    · rw [eg] at hb; cases hb
    · rcases key k' o' h2 with ⟨rfl, rfl⟩ | ⟨_, h2⟩
      · rw [eg]; simp [blk]
      · exact h.mem.apart k k' o o' b h1 h2 hne hb
  · obtain ⟨k, o, ho, hb⟩ := hb
    rcases key k o ho with ⟨rfl, rfl⟩ | ⟨_, ho⟩
    · rw [eg] at hb; cases hb
    · exact h.mine b ⟨k, o, ho, hb⟩
end Go.Proofs.YtdajnmffoopcaaaGreatDoor.Ab
namespace Go.Proofs.YtdajnmffoopcaaaGreatDoor.Ab
set_option linter.unusedVariables false
set_option linter.unusedSimpArgs false
open Go.RowKit
def GExit (P : Program) (fn : Func) (keep : List Nat) (m : Mem) (r : AV) (m' : Mem) (e : Exit) (σ : SF) : Prop := ∃ σ', Imp keep fn.ntmps σ σ' ∧ AExit P fn m.get r m'.get e σ'
/-- A function that is handed variables that name nothing. -/
theorem cD {P : Program} {f : FuncId} {fn : Func} {c : Code} {args : List AV} {m m' : Mem} {r : AV} (keep : List Nat) (hf : P.funcs[f]? = some fn) (hn : (fn.name == "runtime.NumGoroutine") = false) (hb : fn.body = some c)
    (hN : args.length ≤ fn.ntmps) (hk1 : (AV.namesL args).all keep.contains = true) (hk2 : m.all (fun p => keep.contains p.1 && p.2.names.isEmpty) = true)
    (h : AWP P keep fn.ntmps c (GExit P fn keep m r m') (S.f ⟨numbered 0 args, m⟩)) : ACalls P f args m r m' := by
  refine fS keep hf hn hb hN (fun g hg => ?_) (fun g o hg => ?_) (lC h)
  · simpa using List.all_eq_true.1 hk1 g hg
  · have key : ∀ l : Mem, l.all (fun p => keep.contains p.1 && p.2.names.isEmpty) = true → l.get g = some o → g ∈ keep ∧ o.names = [] := by
      intro l
      induction l with
      | nil => intro _ h; cases h
      | cons p l ih =>
        intro h1 h2
        rw [List.all_cons, Bool.and_eq_true, Bool.and_eq_true] at h1
        simp only [Mem.get] at h2
        split at h2
        · rename_i e
          cases h2
          exact ⟨by rw [← e]; simpa using h1.1.1, by simpa using h1.1.2⟩
        · exact ih h1.2 h2
    have := key m hk2 hg
    exact ⟨this.1, fun k hk => by rw [this.2] at hk; cases hk⟩
theorem cE {P : Program} {fn : Func} {r r' : AV} {e : Exit} {s : List (Nat × AV)} {m m0 m' : Mem} (he : e = .normal ∨ e = .ret) (hr : Results P fn (S.f ⟨s, m⟩) r') (hn : r'.names = []) (hl : LeM m m') (hm : m'.all (fun p => p.2.names.isEmpty) = true) (h : r' = r) : AExit P fn m0.get r m'.get e (S.f ⟨s, m⟩) := by
  subst h
  refine ⟨he, hr, fun g o hg => hl.get g o hg, (by rw [hn]; intro g hg; cases hg), fun g o hg k hk => ?_⟩
  have key : ∀ l : Mem, l.all (fun p => p.2.names.isEmpty) = true → l.get g = some o → o.names = [] := by
    intro l
    induction l with
    | nil => intro _ h; cases h
    | cons p l ih =>
      intro h1 h2
      rw [List.all_cons, Bool.and_eq_true] at h1
      simp only [Mem.get] at h2
      split at h2
      · cases h2; simpa using h1.1
      · exact ih h1.2 h2
  rw [key m' hm hg] at hk
  cases hk
theorem cN {P : Program} {fn : Func} {keep : List Nat} {m m' : Mem} {r : AV} {e : Exit} {σ : SF} (h : AExit P fn m.get r m'.get e σ) : GExit P fn keep m r m' e σ := ⟨σ, fun _ _ _ _ _ h => h, h⟩
theorem gV {P : Program} {fn : Func} {keep : List Nat} {m m' : Mem} {r : AV} {e : Exit} {σ σ' : SF} (hi : Imp keep fn.ntmps σ σ') (h : AExit P fn m.get r m'.get e σ') : GExit P fn keep m r m' e σ := ⟨σ', hi, h⟩
section
variable {P : Program} {T : Tab} {keep : List Nat} {N : Nat} {ops : Array Oper} {K : List Foot → SF → Prop} {o : Oper} {rest : List Oper} {ks : List Foot} {s : List (Nat × AV)} {m : Mem} {d : Nat}
/-- A boxed value, by a name of one's own choice. -/
theorem cQ (g : Nat) {t : Nat} {x : Operand} {y : AV} (ho : o.op = .box t x) (hw : wantedA ops o (S.f ⟨s, m⟩) = some true) (hd : o.dst = some d) (hN : d < N) (hx : (S.f ⟨s, m⟩).ev x = some y) (h1 : y.cells.all AV.one = true) (hk : keep.contains g = false) (hs : freshS g s = true) (hm : freshM g m = true) (hy : (AV.namesL y.cells).contains g = false)
    {cs : List AV} (hcs : y.cells = cs) (k : AOps P keep N ops K rest (⟨[g], false, true⟩ :: ks) (S.f ⟨(d, .obj g 0) :: s, (g, .cells cs) :: m⟩)) : AOps P keep N ops K (o :: rest) ks (S.f ⟨s, m⟩) := by
  subst hcs
  exact gU hw hd hN (kH g ho hx h1 (by simpa using hy)) (by simpa using hk) hs hm k
end
end Go.Proofs.YtdajnmffoopcaaaGreatDoor.Ab
namespace Go.Proofs.YtdajnmffoopcaaaGreatDoor.Ab
set_option linter.unusedVariables false
set_option linter.unusedSimpArgs false
open Go.RowKit
theorem rK {w w' : World} {M : Nat → Prop} {β : Nat → Value} {g : Nat} {r : AV} {v : Value} {ob : MO} (hf : β g = .tuple #[]) (h : Out w M β (fun _ => none) w' r v (one g ob)) : Out w M β (one g .fut) w' r v (one g ob) := by
  obtain ⟨M', β', h⟩ := h
  have hno : ∀ b, ¬ blks β (fun _ => none) b := fun b ⟨k, o, hk, _⟩ => by cases hk
  refine ⟨M', β', h.rep, h.mem, h.ev.weaken (fun b hb => absurd hb (hno b)), fun k h1 h2 => h.eq k rfl h2, fun k hk => ?_, fun b hb => ?_⟩
  · by_cases e : k = g
    · rw [e, hf]; exact LeV.fut _
    · exact absurd (eW _ e) hk
  · rcases h.mine b hb with h | h
    · exact absurd h (hno b)
    · exact .inr h
/-- What makes an object makes it under a reserved name too. -/
theorem OpT.fut {P : Program} {o : Oper} {vals : Operand → Option AV} {g : Nat} {r : AV} {ob : MO} (h : OpT P o vals (fun _ => none) r (one g ob)) : OpT P o vals (one g .fut) r (one g ob) := by
  intro w M β ρ ha hm hx
  have hf : β g = .tuple #[] := hm.ok g .fut (dM g _)
  have h1 := h w M β ρ ha ⟨fun k o hk => (by cases hk), fun k k' o o' b hk => (by cases hk)⟩ hx
  generalize (execOp ρ o).run P w = res at h1 ⊢
  cases res with
  | ok n w' =>
    cases n with
    | value v => exact rK hf h1
    | skip => exact rK hf h1
    | enter f args =>
      obtain ⟨e, hc⟩ := h1
      exact ⟨e, hc.mono fun e w'' ⟨v, hv, ho⟩ => ⟨v, hv, rK hf ho⟩⟩
    | _ => exact h1.elim
  | halt x w' => exact h1.elim
end Go.Proofs.YtdajnmffoopcaaaGreatDoor.Ab
namespace Go.Proofs.YtdajnmffoopcaaaGreatDoor.Ab
set_option linter.unusedVariables false
set_option linter.unusedSimpArgs false
open Go.RowKit
theorem rL {P : Program} {o : Oper} {vals : Operand → Option AV} {t e len : Nat} {x i : Operand} {ti : TypeInfo} (hu : P.underlying t = some (.array len e)) (hi : P.info? e = some ti) (ho : o.op = .indexAddr t x i) {cs : List IV} {k0 : Nat} {k : Int} {j z : Nat}
    (hx : vals x = some (.imm (.ptr cs k0))) (hk : vals i = some (.imm (.lit (.int .i64 k)))) (hj : k = (j : Int)) (hlt : j < len) (hz : ti.size = z) :
    OpT P o vals (fun _ => none) (.imm (.ptr cs (k0 + j * z))) (fun _ => none) :=
  OpT.pure fun w M β ρ hv => by
    have h1 := hv x (by simp [ho, Op.operands]) _ hx
    have h2 := hv i (by simp [ho, Op.operands]) _ hk
    rw [RepA, Rep] at h1
    rw [RepA, Rep] at h2
    obtain ⟨b, base, vs, T, fz, e1, h3, h4, h5, h6⟩ := h1
    refine ⟨.pointer (some ⟨b, base + (k0 + j * z), none⟩), ?_, by rw [RepA, Rep]; exact ⟨b, base, vs, T, fz, rfl, h3, h4, h5, h6⟩⟩
    subst hj
    subst hz
    have hjj : (0 : Int) ≤ (j : Int) ∧ (j : Int) < (len : Int) := ⟨by omega, by omega⟩
    unfold execOp
    simp [ho, e1, h2.1, Instr.indexAt, Instr.sureAddr, asIntOf, run_underlying hu, sizeOf, typeInfo, hi, hlt, Addr.add_mid, Nat.add_assoc]
section
variable {P : Program} {T : Tab} {keep : List Nat} {N : Nat} {ops : Array Oper} {K : List Foot → SF → Prop} {o : Oper} {rest : List Oper} {ks : List Foot} {s : List (Nat × AV)} {m : Mem} {d : Nat}
theorem pT (hT : TabOk P T) {t e len : Nat} {ei : TI} {x i : Operand} {sz by_ k0 : Nat} {z : Value} {cs : List IV} {j : Int} (ho : o.op = .indexAddr t x i) (hw : wantedA ops o (S.f ⟨s, m⟩) = some true) (hd : o.dst = some d) (hN : d < N) (ht : T.at t = some ⟨.array len e, sz, by_, z⟩) (he : T.at e = some ei)
    (hx : (S.f ⟨s, m⟩).ev x = some (.imm (.ptr cs k0))) (hi : (S.f ⟨s, m⟩).ev i = some (.imm (.lit (.int .i64 j)))) (hj : j = (j.toNat : Int)) (hlt : j.toNat < len) (k : AOps P keep N ops K rest (kNo :: ks) (S.f ⟨(d, .imm (.ptr cs (k0 + j.toNat * ei.size))) :: s, m⟩)) : AOps P keep N ops K (o :: rest) ks (S.f ⟨s, m⟩) := by
  obtain ⟨hu, _⟩ := hT _ _ ht
  obtain ⟨_, jj, hjj, e1, _⟩ := hT _ _ he
  exact dK hw hd hN (rL hu hjj ho hx hi hj hlt e1) k
end
end Go.Proofs.YtdajnmffoopcaaaGreatDoor.Ab
namespace Go.Proofs.YtdajnmffoopcaaaGreatDoor.Ab
set_option linter.unusedVariables false
set_option linter.unusedSimpArgs false
open Go.RowKit Go.ChangeShapes Go.WideShapes
def tyA (P : Program) (t : TypeId) : Option Ty := match P.underlying t with
  | some (.array n e) => match tyOf P 8 e with
    | some ty => if ty.size = P.cellsOf e ∧ n * P.cellsOf e = P.cellsOf t then some (.array n ty) else none
    | none => none
  | _ => tyOf P 8 t
variable {H : Type} {enc : TypeId × Value → H} {P : Program} {W : World}
theorem vM {r : Reach} {base : Nat} {t : TypeId} {v : Value} {n : Nat} {e : TypeId} (ht : P.underlying t = some (.array n e)) (h : Value.okWide P W r base t v) : ∃ cs, v = .agg cs ∧ cs.size = P.cellsOf t := by
  simp only [Value.okWide, ht] at h
  obtain ⟨cs, h1, h2, _⟩ := h
  exact ⟨cs, h1, h2⟩
theorem aAt {t : TypeId} {ty : Ty} {v : Value} {d : DataW H} {ps : List MemPlace} {base : Nat} (ht : tyA P t = some ty) (hv : Value.okWide P W .any base t v) (h : DataW.Trod enc P W 0 (fun _ => true) true t v d ps) (hw : ∀ n ∈ d.weights P t, n ≤ reachBytes) :
    ∃ x, FitsV ty x ∧ Rep W (fun _ => False) x v := by
  unfold tyA at ht
  split at ht
  · rename_i n e hu
    split at ht
    · rename_i ty' hty
      split at ht
      · rename_i hsz
        obtain ⟨hsz, hcl⟩ := hsz
        cases ht
        obtain ⟨cs, rfl, hcs⟩ := vM hu hv
        obtain ⟨fuel, hf⟩ := h
        obtain ⟨zs, m, _, hd, hl, hzl, hel⟩ := DataW.trod_array hu hf
        simp only [Prod.mk.injEq] at hd
        obtain ⟨rfl, _⟩ := hd
        have e1 : (Value.agg cs).cells.toList = cs.toList := rfl
        rw [e1] at hl hel
        have parts : ∀ i, i < n → ∃ x, Fits ty' x ∧ RepL W (fun _ => False) x ((cs.toList.drop (i * P.cellsOf e)).take (P.cellsOf e)) ∧ x.all IV.one = true ∧ ((cs.toList.drop (i * P.cellsOf e)).take (P.cellsOf e)).length = P.cellsOf e := fun i hi => by
          have h1 := hel i hi
          have hiz : i < zs.length := by omega
          rw [List.getElem?_eq_getElem hiz] at h1
          obtain ⟨x, f1, f2, f3, f4⟩ := kZ 8 e ty' _ zs[i].1 zs[i].2 m hty h1 (fun k hk => hw k (by
            simp only [DataW.weights, hu]
            exact iT (List.mem_map.2 ⟨zs[i], List.getElem_mem hiz, rfl⟩) k hk))
          refine ⟨x, f1, f2, f3, ?_⟩
          rw [← f2.length, f4, hsz]
        obtain ⟨xs, hxl, hxs⟩ := lS (R := fun i x => Fits ty' x ∧ RepL W (fun _ => False) x ((cs.toList.drop (i * P.cellsOf e)).take (P.cellsOf e)) ∧ x.all IV.one = true ∧ ((cs.toList.drop (i * P.cellsOf e)).take (P.cellsOf e)).length = P.cellsOf e) (List.range n) (fun i hi => parts i (by simpa using hi))
        rw [List.length_range] at hxl
        have hx : ∀ i (hi : i < n), Fits ty' (xs[i]'(by omega)) ∧ RepL W (fun _ => False) (xs[i]'(by omega)) ((cs.toList.drop (i * P.cellsOf e)).take (P.cellsOf e)) ∧ (xs[i]'(by omega)).all IV.one = true ∧ ((cs.toList.drop (i * P.cellsOf e)).take (P.cellsOf e)).length = P.cellsOf e := fun i hi =>
          hxs i i _ (by rw [List.getElem?_range hi]) (List.getElem?_eq_getElem _)
        have hmem : ∀ x ∈ xs, ∃ i, ∃ hi : i < n, x = xs[i]'(by omega) := fun x hx => by
          obtain ⟨i, hi, e⟩ := List.mem_iff_getElem.1 hx
          exact ⟨i, by omega, e.symm⟩
        let us : List (List Value) := (List.range n).map fun i => (cs.toList.drop (i * P.cellsOf e)).take (P.cellsOf e)
        have hr : RepL W (fun _ => False) xs.flatten us.flatten := iC (z := 0) (by simp [us, hxl]) (fun i x u hxi hui => by
          have hi : i < n := by have := (List.getElem?_eq_some_iff.1 hxi).1; omega
          have : u = (cs.toList.drop (i * P.cellsOf e)).take (P.cellsOf e) := by
            simp [us, List.getElem?_range hi] at hui
            exact hui.symm
          rw [this]
          rw [List.getElem?_eq_getElem (by omega)] at hxi
          cases hxi
          exact (hx i hi).2.1)
        have hfl : us.flatten = (cs.toList.drop 0).take (us.length * P.cellsOf e) := gK us (fun i u hui => by
          have hi : i < n := by have := (List.getElem?_eq_some_iff.1 hui).1; simpa [us] using this
          have : u = (cs.toList.drop (i * P.cellsOf e)).take (P.cellsOf e) := by
            simp [us, List.getElem?_range hi] at hui
            exact hui.symm
          rw [this]
          refine ⟨by rw [Nat.zero_add], ?_⟩
          exact (hx i hi).2.2.2)
        have hul : us.length = n := by simp [us]
        rw [List.drop_zero, hul, hcl, ← hl, List.take_length] at hfl
        rw [hfl] at hr
        refine ⟨.agg xs.flatten, ⟨_, rfl, .array n ty' xs hxl (fun x hx' => by obtain ⟨i, hi, rfl⟩ := hmem x hx'; exact (hx i hi).1)⟩, ?_⟩
        rw [Rep]
        exact ⟨cs, rfl, mG (fun x hx' => by obtain ⟨i, hi, rfl⟩ := hmem x hx'; exact (hx i hi).2.2.1), hr⟩
      · cases ht
    · cases ht
  · exact xH ht hv h hw
theorem qH {base : Nat} : ∀ {ts : List TypeId} {tys : List Ty} {vs : List Value} {ds : List (DataW H)} {ps : List MemPlace}, (ts.map (tyA P)) = tys.map some → (∀ (j : Nat) t v, ts[j]? = some t → vs[j]? = some v → Value.okWide P W .any base t v) → DataW.TrodAll enc P W 0 (fun _ => true) true ts vs ds ps → (DataW.weightsEach P ts ds).all (· ≤ reachBytes) = true →
    ∃ xs, FitsAll tys xs ∧ RepL W (fun _ => False) xs vs
  | [], [], [], [], _, _, _, _, _ => ⟨[], .nil, by simp [RepL]⟩
  | t :: ts, ty :: tys, v :: vs, d :: ds, ps, ht, hv, h, hw => by
    simp only [List.map_cons, List.cons.injEq] at ht
    obtain ⟨p, q, h1, h2, rfl⟩ := h
    simp only [DataW.weightsEach, List.all_append, Bool.and_eq_true] at hw
    obtain ⟨x, f1, f2⟩ := aAt ht.1 (hv 0 t v rfl rfl) h1 (fun n hn => by simpa using List.all_eq_true.1 hw.1 n hn)
    obtain ⟨xs, g1, g2⟩ := qH ht.2 (fun j t v h3 h4 => hv (j + 1) t v (by simpa using h3) (by simpa using h4)) h2 hw.2
    exact ⟨x :: xs, .cons f1 g1, ⟨f2, g2⟩⟩
  | [], _ :: _, _, _, _, ht, _, _, _ => by simp at ht
  | _ :: _, [], _, _, _, ht, _, _, _ => by simp at ht
  | [], [], _ :: _, _, _, _, _, h, _ => h.elim
  | [], [], [], _ :: _, _, _, _, h, _ => h.elim
  | _ :: _, _ :: _, [], _, _, _, _, h, _ => h.elim
  | _ :: _, _ :: _, _ :: _, [], _, _, _, h, _ => h.elim
end Go.Proofs.YtdajnmffoopcaaaGreatDoor.Ab
