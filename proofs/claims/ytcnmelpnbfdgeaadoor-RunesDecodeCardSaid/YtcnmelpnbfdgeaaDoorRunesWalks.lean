/- The walks of layer 1 (package runes): each function's contract. Conditions: utf8's two tables as laid. -/
import Derived.Test.YtcnmelpnbfdgeaaDoorRunesPure
import Derived.Test.YtcnmelpnbfdgeaaDoorShelf
import Derived.WalkKit
import Derived.WalkMore
import Derived.WalkSpells
import Derived.Below
import Derived.Outline
import Derived.Deep.LoopGhost
import Derived.Deep.DeepCutAuto
import Derived.Laws.RangeAny
import Derived.Lib.OthersKept
import Derived.Lib.Hide
import Derived.Deep.QuietTactic
import Derived.BigQuiet
namespace Go.Proofs.YtcnmelpnbfdgeaaDoor.RW
set_option linter.unusedVariables false
set_option linter.unusedSimpArgs false
open Go.RowKit Go.Lib Go.Proofs.YtcnmelpnbfdgeaaDoorW.PrintWords Go.Proofs.YtcnmelpnbfdgeaaDoorW.PrintLast Go.Proofs.YtcnmelpnbfdgeaaDoorW.PrintMore Go.Proofs.YtcnmelpnbfdgeaaDoor.RP Go.Proofs.YtcnmelpnbfdgeaaDoor.PAll

def Tabs (w : World) : Prop := Lib.Utf8Tabs (Tryd.laysValid_ren.g 3) (Tryd.laysValid_ren.g 4) w
theorem Tabs.below {w w' : World} (h : Tabs w) (hb : Below w.heap.size w w') : Tabs w' := Utf8Tabs_below h hb

theorem pl_ret {s : ByteArray} {at_ : Int} {f pos : Nat} {l c : Int} (hp : pos < s.size) (h : at_ < wrap64 (pos + runeLen (Utf8.decode s pos).1)) : pl s at_ (f + 1) pos l c = (l, c) := by simp [pl, hp, h]
theorem pl_nl {s : ByteArray} {at_ : Int} {f pos : Nat} {l c : Int} (hp : pos < s.size) (h : wrap64 (pos + runeLen (Utf8.decode s pos).1) ≤ at_) (hr : (((Utf8.decode s pos).1 : Int) == 10) = true) :
    pl s at_ (f + 1) pos l c = pl s at_ f (pos + (Utf8.decode s pos).2) (wrap64 (l + 1)) 1 := by
  simp only [pl]
  rw [if_pos hp, if_neg (Int.not_lt.2 h), if_pos (beq_iff_eq.1 hr)]
theorem pl_on {s : ByteArray} {at_ : Int} {f pos : Nat} {l c : Int} (hp : pos < s.size) (h : wrap64 (pos + runeLen (Utf8.decode s pos).1) ≤ at_) (hr : (((Utf8.decode s pos).1 : Int) == 10) = false) :
    pl s at_ (f + 1) pos l c = pl s at_ f (pos + (Utf8.decode s pos).2) l (wrap64 (c + 1)) := by
  simp only [pl]
  rw [if_pos hp, if_neg (Int.not_lt.2 h), if_neg (by simpa using hr)]
theorem pl_end {s : ByteArray} {at_ : Int} {f pos : Nat} {l c : Int} (hp : ¬ pos < s.size) : pl s at_ f pos l c = (l, c) := by cases f <;> simp [pl, hp]
theorem ret3_int {a b c a' b' : Int} (h : (a, b) = (a', b')) : Ending.returned (.tuple #[.int .i64 a, .int .i64 b, .int .i64 c]) = .returned (.tuple #[.int .i64 a', .int .i64 b', .int .i64 c]) := by
  obtain ⟨rfl, rfl⟩ := Prod.mk.inj h; rfl
theorem ret2_int {a b a' b' : Int} (h : (a, b) = (a', b')) : Ending.returned (.tuple #[.int .i64 a, .int .i64 b]) = .returned (.tuple #[.int .i64 a', .int .i64 b']) := by
  obtain ⟨rfl, rfl⟩ := Prod.mk.inj h; rfl
theorem ret2_fst {q : Int × Int} {a b : Int} (h : (a, b) = q) : Ending.returned (.tuple #[.int .i64 a, .int .i64 b]) = .returned (.tuple #[.int .i64 q.1, .int .i64 q.2]) := by
  subst h; rfl
theorem below_iter {w w1 : World} (hb : Below w.heap.size w w1) (s : ByteArray) (p : Nat) : Below w.heap.size w (w1.iter s p) := hb.alloc hb.size _

set_option maxHeartbeats 1000000 in
theorem place_ok (s : ByteArray) (at_ : Int) (w : World) (hs : s.size ≤ 140737488351232) (hT : Tabs w) (h0 : 0 ≤ at_) (h1 : at_ ≤ s.size) (hv : validD s.data.toList = true) :
    Calls Tryd.prog 11 #[.string s, .int .i64 at_] w fun e w' => e = .returned (.tuple #[.int .i64 (pl s at_ s.size 0 1 1).1, .int .i64 (pl s at_ s.size 0 1 1).2, .int .i64 0]) ∧ Below w.heap.size w w' := by
  have cV := Any.utf8_ValidString Tryd.laysValid s w (by omega) hT
  rw [hv] at cV
  clear hv hT
  go_enter Tryd.func11, Tryd.ntmps11
  go_wp2_with (go_at_call 27; refine cV.mono ?_; rintro e w1 ⟨rfl, hb⟩)
  go_loopg [4, 5] (s.size + 1) (fun gk v4 v5 wr => ∃ (f pos : Nat) (l c : Int), gk = f + 1 ∧ v4 = .int .i64 l ∧ v5 = .int .i64 c ∧ wr = w1.iter s pos ∧ Aside (pl s at_ f pos l c = pl s at_ s.size 0 1 1 ∧ s.size ≤ pos + f))
  case atStart => exact ⟨s.size, 0, 1, 1, rfl, rfl, rfl, rfl, rfl, by omega⟩
  case round =>
    obtain ⟨f, pos, l, c, rfl, rfl, rfl, rfl, HA⟩ := hrel
    by_cases hp : pos < s.size
    · have hnx : ∀ ty, (Instr.next (.pointer (some ⟨w1.heap.size, 0, none⟩)) true ty).run Tryd.prog (w1.iter s pos) = _ := fun ty => run_next_any w1 s pos ty hp
      have hwd := width_pos s pos
      obtain ⟨f, rfl⟩ : ∃ f', f = f' + 1 := ⟨f - 1, by have := HA.out.2; omega⟩
      go_wp2_with (go_at_call 28; refine (Tryd.utf8_RuneLen _ _).mono ?_; rintro e w2 ⟨rfl, rfl⟩)
      · go_ret3
        exact ⟨ret3_int ((pl_ret hp ‹_›).symm.trans HA.out.1), below_iter hb _ _⟩
      · go_roundg (f + 1)
        case measure => omega
        case rel => exact ⟨f, _, _, _, rfl, rfl, rfl, rfl, (pl_nl hp ‹_› ‹_›).symm.trans HA.out.1, by have := HA.out.2; omega⟩
      · go_roundg (f + 1)
        case measure => omega
        case rel => exact ⟨f, _, _, _, rfl, rfl, rfl, rfl, (pl_on hp ‹_› ‹_›).symm.trans HA.out.1, by have := HA.out.2; omega⟩
    · have hnx : ∀ ty, (Instr.next (.pointer (some ⟨w1.heap.size, 0, none⟩)) true ty).run Tryd.prog (w1.iter s pos) = _ := fun ty => run_next_end w1 s pos ty hp
      go_wp2
      go_ret3
      exact ⟨ret3_int ((pl_end hp).symm.trans HA.out.1), below_iter hb _ _⟩

theorem place_arg (s : ByteArray) (at_ : Int) (w : World) (hs : s.size ≤ 140737488351232) (h : at_ < 0 ∨ (s.size : Int) < at_) :
    Calls Tryd.prog 11 #[.string s, .int .i64 at_] w fun e w' => e = .returned (.tuple #[.int .i64 0, .int .i64 0, .int .i64 2]) ∧ Below w.heap.size w w' := by
  rcases h with h | h
  · go_enter Tryd.func11, Tryd.ntmps11
    go_wp2
    go_ret3
    exact ⟨rfl, Below.refl _ _⟩
  · have h0 : 0 ≤ at_ := by omega
    go_enter Tryd.func11, Tryd.ntmps11
    go_wp2
    go_ret3
    exact ⟨rfl, Below.refl _ _⟩

theorem place_text (s : ByteArray) (at_ : Int) (w : World) (hs : s.size ≤ 140737488351232) (hT : Tabs w) (h0 : 0 ≤ at_) (h1 : at_ ≤ s.size) (hv : validD s.data.toList = false) :
    Calls Tryd.prog 11 #[.string s, .int .i64 at_] w fun e w' => e = .returned (.tuple #[.int .i64 0, .int .i64 0, .int .i64 4]) ∧ Below w.heap.size w w' := by
  have cV := Any.utf8_ValidString Tryd.laysValid s w (by omega) hT
  rw [hv] at cV
  clear hv hT
  go_enter Tryd.func11, Tryd.ntmps11
  go_wp2_with (go_at_call 27; refine cV.mono ?_; rintro e w1 ⟨rfl, hb⟩)
  go_ret3
  exact ⟨rfl, hb⟩

theorem place_any (s : ByteArray) (at_ : Int) (w : World) (hs : s.size ≤ 140737488351232) (hT : Tabs w) :
    Calls Tryd.prog 11 #[.string s, .int .i64 at_] w fun e w' => e = .returned (.tuple #[.int .i64 (placeP s at_).1, .int .i64 (placeP s at_).2.1, .int .i64 (placeP s at_).2.2]) ∧ Below w.heap.size w w' := by
  unfold placeP
  by_cases h : at_ < 0 ∨ (s.size : Int) < at_
  · rw [if_pos h]; exact place_arg s at_ w hs h
  · rw [if_neg h]
    cases hv : validD s.data.toList with
    | false => rw [if_pos rfl]; exact place_text s at_ w hs hT (by omega) (by omega) hv
    | true => rw [if_neg (by decide)]; exact place_ok s at_ w hs hT (by omega) (by omega) hv

/-! ### a range over a string, the iterator in a block of its own -/
/-- One step of the iterator in block k: a world that is as it was, but for that block. -/
theorem iter_step {P : Program} {w wr : World} {k : Nat} {s : ByteArray} {pos : Nat} (hk : wr.heap[k]? = some (.stringIter s pos)) (hp : pos < s.size) (hw : w.heap.size ≤ k) (hb : Below w.heap.size w wr) :
    ∃ W2 : World, (∀ ty, (Instr.next (.pointer (some ⟨k, 0, none⟩)) true ty).run P wr = .ok (.tuple #[.bool true, .int .i64 pos, .int .i32 (Utf8.decode s pos).1]) W2) ∧
      (∀ j, j ≠ k → W2.heap[j]? = wr.heap[j]?) ∧ W2.heap[k]? = some (.stringIter s (pos + (Utf8.decode s pos).2)) ∧ W2.heap.size = wr.heap.size ∧ Below w.heap.size w W2 :=
  ⟨wr.iterAt k s (pos + (Utf8.decode s pos).2), fun ty => run_next_any_at wr k s pos ty hk hp, fun j hj => iterAt_other wr k j s _ hj, iterAt_heap wr k s pos _ hk, iterAt_size wr k s _, below_iterAt hb hw s _⟩
theorem iter_new {w1 : World} (s : ByteArray) (p : Nat) : (w1.iter s p).heap[w1.heap.size]? = some (.stringIter s p) := by simp [World.iter_heap]
theorem lt_of_block {w : World} {k : Nat} {o : Obj} (h : w.heap[k]? = some o) : k < w.heap.size := (Array.getElem?_eq_some_iff.1 h).1
theorem rl_step {s : ByteArray} {f pos : Nat} {acc : List Int} (hp : pos < s.size) : (acc ++ [((Utf8.decode s pos).1 : Int)]) ++ rl s f (pos + (Utf8.decode s pos).2) = acc ++ rl s (f + 1) pos := by simp [rl, hp]
theorem rl_end {s : ByteArray} {f pos : Nat} (hp : ¬ pos < s.size) : rl s f pos = [] := by cases f <;> simp [rl, hp]
theorem info32 : (Tryd.prog.info? 21).map (fun i => (i.zero, i.size, i.bytes)) = some (some (.int .i32 0), 1, 4) := by kernel_rfl

set_option maxHeartbeats 1000000 in
theorem decode_ok (s : ByteArray) (w : World) (hs : s.size ≤ 1000000) (hT : Tabs w) (hv : validD s.data.toList = true) :
    Calls Tryd.prog 14 #[.string s] w fun e w' => ∃ v : Value, e = .returned (.tuple #[v, .int .i64 0]) ∧ Kd.R (Kd.int .i32) 21 w' w.heap.size (fun _ => True) v (rl s s.size 0) ∧ Below w.heap.size w w' := by
  have cV := Any.utf8_ValidString Tryd.laysValid s w (by omega) hT
  rw [hv] at cV
  clear hv hT
  go_enter Tryd.func14, Tryd.ntmps14
  go_wp2_with (go_at_call 27; refine cV.mono ?_; rintro e w1 ⟨rfl, hb⟩)
  have HBs := Aside0.mk hb.size
  go_loopg [4] (s.size + 1) (fun gk v4 wr => ∃ (f pos : Nat) (acc : List Int), gk = f + 1 ∧ Aside0 (Kd.R (Kd.int .i32) 21 wr w.heap.size (fun k => k ≠ w1.heap.size) v4 acc) ∧ Aside0 (Below w.heap.size w wr) ∧ Aside0 (wr.heap[w1.heap.size]? = some (.stringIter s pos)) ∧ Aside0 (acc ++ rl s f pos = rl s s.size 0 ∧ s.size ≤ pos + f ∧ acc.length ≤ pos))
  case atStart => exact ⟨s.size, 0, [], rfl, ⟨Kd.R_nil _ _ _ _ _⟩, ⟨below_iter hb _ _⟩, ⟨iter_new s 0⟩, ⟨by simp, by omega, by simp⟩⟩
  case round =>
    obtain ⟨f, pos, acc, rfl, HO, HB, HI, HA⟩ := hrel
    by_cases hp : pos < s.size
    · obtain ⟨W2, hnx, hm, hi, hz, hb2⟩ := iter_step (P := Tryd.prog) HI.out hp HBs.out HB.out
      have HO2 := Aside0.mk (Kd.R_step (w1 := W2) HO.out (fun k hk _ => hm k hk))
      have HB2 := Aside0.mk hb2
      have HI2 := Aside0.mk hi
      clear hm hi hz hb2 HI HO HB
      have hwd := width_pos s pos
      obtain ⟨f, rfl⟩ : ∃ f', f = f' + 1 := ⟨f - 1, by have := HA.out.2.1; omega⟩
      go_wp2_with ((with_reducible refine gate_builtin (b := .append) (xs := #[.tmp 15, .tmp 17]) rfl ?_); at_builtin; refine Kd.R_append (Kd.int .i32) (w0 := w) w.heap.size rfl (.tmp 15) (.tmp 17) 30 21 (.int .i32 0) 4 rfl Tryd.underlying30 info32 rfl (by decide) (by omega) u4 acc ((Utf8.decode s pos).1 : Int) [.int .i32 ((Utf8.decode s pos).1 : Int)] (fun k => k ≠ w1.heap.size) (fun _ => False) rfl rfl ?aP (fun _ hk => hk.elim) ?aF ?aO ?aB ?aS ?aL ?_; (case aP => exact rfl); (case aF => exact (fun k hk => by have := lt_of_block HI2.out; omega)); (case aO => exact HO2.out); (case aB => exact HB2.out); (case aS => exact HB2.out.size); (case aL => have := HA.out.2.2; omega); intro v1 w6 ho hb hg hat; have HI3 := Aside0.mk ((hg.block w1.heap.size (lt_of_block HI2.out) (fun e => HO2.out.1 _ e.symm rfl)).trans HI2.out); have HO3 := Aside0.mk ho; have HB3 := Aside0.mk hb; clear ho hb hg hat)
      go_roundg (f + 1)
      case measure => omega
      case rel => exact ⟨f, pos + (Utf8.decode s pos).2, _, rfl, HO3, HB3, HI3, ⟨(rl_step hp).trans HA.out.1, by have := HA.out.2.1; omega, by have := HA.out.2.2; simp; omega⟩⟩
    · have hnx : ∀ ty, (Instr.next (.pointer (some ⟨w1.heap.size, 0, none⟩)) true ty).run Tryd.prog wr = _ := fun ty => run_next_end_at wr _ s pos ty HI.out hp
      go_wp2
      go_ret2
      have ha := HA.out.1
      rw [rl_end hp, List.append_nil] at ha
      rw [ha] at HO
      exact ⟨_, rfl, Kd.R_mono HO.out (fun _ _ => trivial), HB.out⟩
theorem decode_bad (s : ByteArray) (w : World) (hs : s.size ≤ 1000000) (hT : Tabs w) (hv : validD s.data.toList = false) :
    Calls Tryd.prog 14 #[.string s] w fun e w' => ∃ v : Value, e = .returned (.tuple #[v, .int .i64 4]) ∧ Kd.R (Kd.int .i32) 21 w' w.heap.size (fun _ => True) v [] ∧ Below w.heap.size w w' := by
  have cV := Any.utf8_ValidString Tryd.laysValid s w (by omega) hT
  rw [hv] at cV
  clear hv hT
  go_enter Tryd.func14, Tryd.ntmps14
  go_wp2_with (go_at_call 27; refine cV.mono ?_; rintro e w1 ⟨rfl, hb⟩)
  go_ret2
  exact ⟨_, rfl, Kd.R_nil _ _ _ _ _, hb⟩
theorem decode_any (s : ByteArray) (w : World) (hs : s.size ≤ 1000000) (hT : Tabs w) :
    Calls Tryd.prog 14 #[.string s] w fun e w' => ∃ v : Value, e = .returned (.tuple #[v, .int .i64 (decodeP s).2]) ∧ Kd.R (Kd.int .i32) 21 w' w.heap.size (fun _ => True) v (decodeP s).1 ∧ Below w.heap.size w w' := by
  unfold decodeP
  cases hv : validD s.data.toList with
  | false => rw [if_neg (by decide)]; exact decode_bad s w hs hT hv
  | true => rw [if_pos rfl]; exact decode_ok s w hs hT hv
theorem count_any (s : ByteArray) (w : World) (hs : s.size ≤ 1000000) (hT : Tabs w) :
    Calls Tryd.prog 17 #[.string s] w fun e w' => e = .returned (.int .i64 ((decodeP s).1.length : Int)) ∧ Below w.heap.size w w' := by
  have c := decode_any s w hs hT
  clear hT
  generalize decodeP s = q at *
  obtain ⟨l, z⟩ := q
  dsimp only at c ⊢
  go_enter Tryd.func17, Tryd.ntmps17
  go_wp2_with (go_at_call 14; refine c.mono ?_; rintro e w1 ⟨v, rfl, ho, hb⟩; obtain ⟨A1, c1, rfl⟩ := Kd.R_slice ho; clear ho)
  go_ret
  exact ⟨rfl, hb⟩

theorem class_any (r : Int) (w : World) : Calls Tryd.prog 22 #[.int .i32 r] w fun e w' => e = .returned (.int .i64 (classP r)) ∧ Drawn0 w w' :=
  runes_Class.calls 5 r _ w (class_eq 0 r)

theorem badR_or {r : Int} (h : (r == 65533) = true ∨ (r == 127) = true) : badR r := by
  simp only [beq_iff_eq] at h
  unfold badR
  omega
theorem notbad1 {r : Int} (h1 : r < 32) (h2 : classP r = 3) (h : (r == 65533) = false ∧ (r == 127) = false) : ¬ badR r := by
  simp only [beq_eq_false_iff_ne, ne_eq] at h
  unfold badR
  omega
theorem notbad2 {r : Int} (h1 : 32 ≤ r) (h : (r == 65533) = false ∧ (r == 127) = false) : ¬ badR r := by
  simp only [beq_eq_false_iff_ne, ne_eq] at h
  unfold badR
  omega

theorem check_any (s : ByteArray) (w : World) (hs : s.size ≤ 1000000) :
    Calls Tryd.prog 20 #[.string s] w fun e w' => e = .returned (.tuple #[.int .i64 (checkP s).1, .int .i64 (checkP s).2]) ∧ Below w.heap.size w w' := by
  unfold checkP
  by_cases h : 16384 < (s.size : Int)
  · rw [if_pos h]
    go_enter Tryd.func20, Tryd.ntmps20
    go_wp2
    go_ret2
    exact ⟨rfl, Below.refl _ _⟩
  · rw [if_neg h]
    go_enter Tryd.func20, Tryd.ntmps20
    go_wp2
    go_loopg [4] (s.size + 1) (fun gk v4 wr => ∃ (f pos : Nat), gk = f + 1 ∧ Aside0 (Below w.heap.size w wr) ∧ Aside0 (wr.heap[w.heap.size]? = some (.stringIter s pos)) ∧ Aside0 (ck s f pos = ck s s.size 0 ∧ s.size ≤ pos + f))
    case atStart => exact ⟨s.size, 0, rfl, ⟨below_iter (Below.refl _ _) _ _⟩, ⟨iter_new s 0⟩, ⟨rfl, by omega⟩⟩
    case round =>
      obtain ⟨f, pos, rfl, HB, HI, HA⟩ := hrel
      by_cases hp : pos < s.size
      · obtain ⟨W2, hnx, hm, hi, hz, hb2⟩ := iter_step (P := Tryd.prog) HI.out hp (Nat.le_refl _) HB.out
        have HB2 := Aside0.mk hb2
        have HI2 := Aside0.mk hi
        clear hm hi hz hb2 HI HB
        have hwd := width_pos s pos
        obtain ⟨f, rfl⟩ : ∃ f', f = f' + 1 := ⟨f - 1, by have := HA.out.2; omega⟩
        go_wp2_with (go_at_call 22; refine (class_any _ _).mono ?_; rintro e w3 ⟨rfl, ⟨nd, rfl⟩⟩)
        all_goals first
          | (go_ret2; exact ⟨ret2_fst ((ck_bad hp (by first | exact Or.inl ‹_› | exact badR_or ‹_› | exact Or.inr (Or.inl ⟨‹_›, ‹_›⟩))).symm.trans HA.out.1), by repeat (first | exact HB2.out | apply pw_below_drewN)⟩)
          | (go_roundg (f + 1)
             case measure => omega
             case rel => exact ⟨f, pos + (Utf8.decode s pos).2, rfl, ⟨by repeat (first | exact HB2.out | apply pw_below_drewN)⟩, ⟨HI2.out⟩, ⟨by rw [← HA.out.1, ck_on hp (by first | exact notbad1 ‹_› ‹_› ‹_› | exact notbad2 ‹_› ‹_›)], by have := HA.out.2; omega⟩⟩)
      · have hnx : ∀ ty, (Instr.next (.pointer (some ⟨w.heap.size, 0, none⟩)) true ty).run Tryd.prog wr = _ := fun ty => run_next_end_at wr _ s pos ty HI.out hp
        go_wp2
        go_ret2
        exact ⟨ret2_fst ((ck_end hp).symm.trans HA.out.1), HB.out⟩
end Go.Proofs.YtcnmelpnbfdgeaaDoor.RW
