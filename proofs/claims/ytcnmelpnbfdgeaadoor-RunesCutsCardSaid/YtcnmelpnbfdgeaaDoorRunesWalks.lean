/- The walks of layer 1 (package runes): each function's contract. Conditions: utf8's two tables as laid. -/
import Derived.Test.YtcnmelpnbfdgeaaDoorRunesPure
import Derived.Test.YtcnmelpnbfdgeaaDoorShelf
import Derived.WalkKit
import Derived.WalkMore
import Derived.WalkSpells
import Derived.Below
import Derived.Outline
import Derived.Deep.LoopGhost
import Derived.Deep.DeepCutAuto
import Derived.Laws.RangeAny
import Derived.Lib.OthersKept
import Derived.Lib.Hide
import Derived.Deep.QuietTactic
import Derived.BigQuiet
namespace Go.Proofs.YtcnmelpnbfdgeaaDoor.RW
set_option linter.unusedVariables false
set_option linter.unusedSimpArgs false
open Go.RowKit Go.Lib Go.Proofs.YtcnmelpnbfdgeaaDoorW.PrintWords Go.Proofs.YtcnmelpnbfdgeaaDoorW.PrintLast Go.Proofs.YtcnmelpnbfdgeaaDoorW.PrintMore Go.Proofs.YtcnmelpnbfdgeaaDoor.RP Go.Proofs.YtcnmelpnbfdgeaaDoor.PAll

def Tabs (w : World) : Prop := Lib.Utf8Tabs (Tryd.laysValid_ren.g 3) (Tryd.laysValid_ren.g 4) w
theorem Tabs.below {w w' : World} (h : Tabs w) (hb : Below w.heap.size w w') : Tabs w' := Utf8Tabs_below h hb

theorem pl_ret {s : ByteArray} {at_ : Int} {f pos : Nat} {l c : Int} (hp : pos < s.size) (h : at_ < wrap64 (pos + runeLen (Utf8.decode s pos).1)) : pl s at_ (f + 1) pos l c = (l, c) := by simp [pl, hp, h]
theorem pl_nl {s : ByteArray} {at_ : Int} {f pos : Nat} {l c : Int} (hp : pos < s.size) (h : wrap64 (pos + runeLen (Utf8.decode s pos).1) ≤ at_) (hr : (((Utf8.decode s pos).1 : Int) == 10) = true) :
    pl s at_ (f + 1) pos l c = pl s at_ f (pos + (Utf8.decode s pos).2) (wrap64 (l + 1)) 1 := by
  simp only [pl]
  rw [if_pos hp, if_neg (Int.not_lt.2 h), if_pos (beq_iff_eq.1 hr)]
theorem pl_on {s : ByteArray} {at_ : Int} {f pos : Nat} {l c : Int} (hp : pos < s.size) (h : wrap64 (pos + runeLen (Utf8.decode s pos).1) ≤ at_) (hr : (((Utf8.decode s pos).1 : Int) == 10) = false) :
    pl s at_ (f + 1) pos l c = pl s at_ f (pos + (Utf8.decode s pos).2) l (wrap64 (c + 1)) := by
  simp only [pl]
  rw [if_pos hp, if_neg (Int.not_lt.2 h), if_neg (by simpa using hr)]
theorem pl_end {s : ByteArray} {at_ : Int} {f pos : Nat} {l c : Int} (hp : ¬ pos < s.size) : pl s at_ f pos l c = (l, c) := by cases f <;> simp [pl, hp]
theorem ret3_int {a b c a' b' : Int} (h : (a, b) = (a', b')) : Ending.returned (.tuple #[.int .i64 a, .int .i64 b, .int .i64 c]) = .returned (.tuple #[.int .i64 a', .int .i64 b', .int .i64 c]) := by
  obtain ⟨rfl, rfl⟩ := Prod.mk.inj h; rfl
theorem ret2_int {a b a' b' : Int} (h : (a, b) = (a', b')) : Ending.returned (.tuple #[.int .i64 a, .int .i64 b]) = .returned (.tuple #[.int .i64 a', .int .i64 b']) := by
  obtain ⟨rfl, rfl⟩ := Prod.mk.inj h; rfl
theorem ret2_fst {q : Int × Int} {a b : Int} (h : (a, b) = q) : Ending.returned (.tuple #[.int .i64 a, .int .i64 b]) = .returned (.tuple #[.int .i64 q.1, .int .i64 q.2]) := by
  subst h; rfl
theorem ret_bool {a b : Bool} (h : a = b) : Ending.returned (.bool a) = .returned (.bool b) := by rw [h]
theorem ret_str {a b : ByteArray} (h : a = b) : Ending.returned (.string a) = .returned (.string b) := by rw [h]
theorem ext_all (s : ByteArray) : s.extract 0 s.size = s := by
  apply ByteArray.ext
  simp
theorem ext_zero (s : ByteArray) : s.extract 0 0 = ⟨#[]⟩ := by
  apply ByteArray.ext
  simp
theorem below_iter {w w1 : World} (hb : Below w.heap.size w w1) (s : ByteArray) (p : Nat) : Below w.heap.size w (w1.iter s p) := hb.alloc hb.size _

set_option maxHeartbeats 1000000 in
theorem place_ok (s : ByteArray) (at_ : Int) (w : World) (hs : s.size ≤ 140737488351232) (hT : Tabs w) (h0 : 0 ≤ at_) (h1 : at_ ≤ s.size) (hv : validD s.data.toList = true) :
    Calls Tryd.prog 11 #[.string s, .int .i64 at_] w fun e w' => e = .returned (.tuple #[.int .i64 (pl s at_ s.size 0 1 1).1, .int .i64 (pl s at_ s.size 0 1 1).2, .int .i64 0]) ∧ Below w.heap.size w w' := by
  have cV := Any.utf8_ValidString Tryd.laysValid s w (by omega) hT
  rw [hv] at cV
  clear hv hT
  go_enter Tryd.func11, Tryd.ntmps11
  go_wp2_with (go_at_call 27; refine cV.mono ?_; rintro e w1 ⟨rfl, hb⟩)
  go_loopg [4, 5] (s.size + 1) (fun gk v4 v5 wr => ∃ (f pos : Nat) (l c : Int), gk = f + 1 ∧ v4 = .int .i64 l ∧ v5 = .int .i64 c ∧ wr = w1.iter s pos ∧ Aside (pl s at_ f pos l c = pl s at_ s.size 0 1 1 ∧ s.size ≤ pos + f))
  case atStart => exact ⟨s.size, 0, 1, 1, rfl, rfl, rfl, rfl, rfl, by omega⟩
  case round =>
    obtain ⟨f, pos, l, c, rfl, rfl, rfl, rfl, HA⟩ := hrel
    by_cases hp : pos < s.size
    · have hnx : ∀ ty, (Instr.next (.pointer (some ⟨w1.heap.size, 0, none⟩)) true ty).run Tryd.prog (w1.iter s pos) = _ := fun ty => run_next_any w1 s pos ty hp
      have hwd := width_pos s pos
      obtain ⟨f, rfl⟩ : ∃ f', f = f' + 1 := ⟨f - 1, by have := HA.out.2; omega⟩
      go_wp2_with (go_at_call 28; refine (Tryd.utf8_RuneLen _ _).mono ?_; rintro e w2 ⟨rfl, rfl⟩)
      · go_ret3
        exact ⟨ret3_int ((pl_ret hp ‹_›).symm.trans HA.out.1), below_iter hb _ _⟩
      · go_roundg (f + 1)
        case measure => omega
        case rel => exact ⟨f, _, _, _, rfl, rfl, rfl, rfl, (pl_nl hp ‹_› ‹_›).symm.trans HA.out.1, by have := HA.out.2; omega⟩
      · go_roundg (f + 1)
        case measure => omega
        case rel => exact ⟨f, _, _, _, rfl, rfl, rfl, rfl, (pl_on hp ‹_› ‹_›).symm.trans HA.out.1, by have := HA.out.2; omega⟩
    · have hnx : ∀ ty, (Instr.next (.pointer (some ⟨w1.heap.size, 0, none⟩)) true ty).run Tryd.prog (w1.iter s pos) = _ := fun ty => run_next_end w1 s pos ty hp
      go_wp2
      go_ret3
      exact ⟨ret3_int ((pl_end hp).symm.trans HA.out.1), below_iter hb _ _⟩

theorem place_arg (s : ByteArray) (at_ : Int) (w : World) (hs : s.size ≤ 140737488351232) (h : at_ < 0 ∨ (s.size : Int) < at_) :
    Calls Tryd.prog 11 #[.string s, .int .i64 at_] w fun e w' => e = .returned (.tuple #[.int .i64 0, .int .i64 0, .int .i64 2]) ∧ Below w.heap.size w w' := by
  rcases h with h | h
  · go_enter Tryd.func11, Tryd.ntmps11
    go_wp2
    go_ret3
    exact ⟨rfl, Below.refl _ _⟩
  · have h0 : 0 ≤ at_ := by omega
    go_enter Tryd.func11, Tryd.ntmps11
    go_wp2
    go_ret3
    exact ⟨rfl, Below.refl _ _⟩

theorem place_text (s : ByteArray) (at_ : Int) (w : World) (hs : s.size ≤ 140737488351232) (hT : Tabs w) (h0 : 0 ≤ at_) (h1 : at_ ≤ s.size) (hv : validD s.data.toList = false) :
    Calls Tryd.prog 11 #[.string s, .int .i64 at_] w fun e w' => e = .returned (.tuple #[.int .i64 0, .int .i64 0, .int .i64 4]) ∧ Below w.heap.size w w' := by
  have cV := Any.utf8_ValidString Tryd.laysValid s w (by omega) hT
  rw [hv] at cV
  clear hv hT
  go_enter Tryd.func11, Tryd.ntmps11
  go_wp2_with (go_at_call 27; refine cV.mono ?_; rintro e w1 ⟨rfl, hb⟩)
  go_ret3
  exact ⟨rfl, hb⟩

theorem place_any (s : ByteArray) (at_ : Int) (w : World) (hs : s.size ≤ 140737488351232) (hT : Tabs w) :
    Calls Tryd.prog 11 #[.string s, .int .i64 at_] w fun e w' => e = .returned (.tuple #[.int .i64 (placeP s at_).1, .int .i64 (placeP s at_).2.1, .int .i64 (placeP s at_).2.2]) ∧ Below w.heap.size w w' := by
  unfold placeP
  by_cases h : at_ < 0 ∨ (s.size : Int) < at_
  · rw [if_pos h]; exact place_arg s at_ w hs h
  · rw [if_neg h]
    cases hv : validD s.data.toList with
    | false => rw [if_pos rfl]; exact place_text s at_ w hs hT (by omega) (by omega) hv
    | true => rw [if_neg (by decide)]; exact place_ok s at_ w hs hT (by omega) (by omega) hv

/-! ### a range over a string, the iterator in a block of its own -/
/-- One step of the iterator in block k: a world that is as it was, but for that block. -/
theorem iter_step {P : Program} {w wr : World} {k : Nat} {s : ByteArray} {pos : Nat} (hk : wr.heap[k]? = some (.stringIter s pos)) (hp : pos < s.size) (hw : w.heap.size ≤ k) (hb : Below w.heap.size w wr) :
    ∃ W2 : World, (∀ ty, (Instr.next (.pointer (some ⟨k, 0, none⟩)) true ty).run P wr = .ok (.tuple #[.bool true, .int .i64 pos, .int .i32 (Utf8.decode s pos).1]) W2) ∧
      (∀ j, j ≠ k → W2.heap[j]? = wr.heap[j]?) ∧ W2.heap[k]? = some (.stringIter s (pos + (Utf8.decode s pos).2)) ∧ W2.heap.size = wr.heap.size ∧ Below w.heap.size w W2 :=
  ⟨wr.iterAt k s (pos + (Utf8.decode s pos).2), fun ty => run_next_any_at wr k s pos ty hk hp, fun j hj => iterAt_other wr k j s _ hj, iterAt_heap wr k s pos _ hk, iterAt_size wr k s _, below_iterAt hb hw s _⟩
theorem iter_new {w1 : World} (s : ByteArray) (p : Nat) : (w1.iter s p).heap[w1.heap.size]? = some (.stringIter s p) := by simp [World.iter_heap]
theorem lt_of_block {w : World} {k : Nat} {o : Obj} (h : w.heap[k]? = some o) : k < w.heap.size := (Array.getElem?_eq_some_iff.1 h).1
theorem rl_step {s : ByteArray} {f pos : Nat} {acc : List Int} (hp : pos < s.size) : (acc ++ [((Utf8.decode s pos).1 : Int)]) ++ rl s f (pos + (Utf8.decode s pos).2) = acc ++ rl s (f + 1) pos := by simp [rl, hp]
theorem rl_end {s : ByteArray} {f pos : Nat} (hp : ¬ pos < s.size) : rl s f pos = [] := by cases f <;> simp [rl, hp]
theorem info32 : (Tryd.prog.info? 21).map (fun i => (i.zero, i.size, i.bytes)) = some (some (.int .i32 0), 1, 4) := by kernel_rfl

set_option maxHeartbeats 1000000 in
theorem decode_ok (s : ByteArray) (w : World) (hs : s.size ≤ 1000000) (hT : Tabs w) (hv : validD s.data.toList = true) :
    Calls Tryd.prog 14 #[.string s] w fun e w' => ∃ v : Value, e = .returned (.tuple #[v, .int .i64 0]) ∧ Kd.R (Kd.int .i32) 21 w' w.heap.size (fun _ => True) v (rl s s.size 0) ∧ Below w.heap.size w w' := by
  have cV := Any.utf8_ValidString Tryd.laysValid s w (by omega) hT
  rw [hv] at cV
  clear hv hT
  go_enter Tryd.func14, Tryd.ntmps14
  go_wp2_with (go_at_call 27; refine cV.mono ?_; rintro e w1 ⟨rfl, hb⟩)
  have HBs := Aside0.mk hb.size
  go_loopg [4] (s.size + 1) (fun gk v4 wr => ∃ (f pos : Nat) (acc : List Int), gk = f + 1 ∧ Aside0 (Kd.R (Kd.int .i32) 21 wr w.heap.size (fun k => k ≠ w1.heap.size) v4 acc) ∧ Aside0 (Below w.heap.size w wr) ∧ Aside0 (wr.heap[w1.heap.size]? = some (.stringIter s pos)) ∧ Aside0 (acc ++ rl s f pos = rl s s.size 0 ∧ s.size ≤ pos + f ∧ acc.length ≤ pos))
  case atStart => exact ⟨s.size, 0, [], rfl, ⟨Kd.R_nil _ _ _ _ _⟩, ⟨below_iter hb _ _⟩, ⟨iter_new s 0⟩, ⟨by simp, by omega, by simp⟩⟩
  case round =>
    obtain ⟨f, pos, acc, rfl, HO, HB, HI, HA⟩ := hrel
    by_cases hp : pos < s.size
    · obtain ⟨W2, hnx, hm, hi, hz, hb2⟩ := iter_step (P := Tryd.prog) HI.out hp HBs.out HB.out
      have HO2 := Aside0.mk (Kd.R_step (w1 := W2) HO.out (fun k hk _ => hm k hk))
      have HB2 := Aside0.mk hb2
      have HI2 := Aside0.mk hi
      clear hm hi hz hb2 HI HO HB
      have hwd := width_pos s pos
      obtain ⟨f, rfl⟩ : ∃ f', f = f' + 1 := ⟨f - 1, by have := HA.out.2.1; omega⟩
      go_wp2_with ((with_reducible refine gate_builtin (b := .append) (xs := #[.tmp 15, .tmp 17]) rfl ?_); at_builtin; refine Kd.R_append (Kd.int .i32) (w0 := w) w.heap.size rfl (.tmp 15) (.tmp 17) 30 21 (.int .i32 0) 4 rfl Tryd.underlying30 info32 rfl (by decide) (by omega) u4 acc ((Utf8.decode s pos).1 : Int) [.int .i32 ((Utf8.decode s pos).1 : Int)] (fun k => k ≠ w1.heap.size) (fun _ => False) rfl rfl ?aP (fun _ hk => hk.elim) ?aF ?aO ?aB ?aS ?aL ?_; (case aP => exact rfl); (case aF => exact (fun k hk => by have := lt_of_block HI2.out; omega)); (case aO => exact HO2.out); (case aB => exact HB2.out); (case aS => exact HB2.out.size); (case aL => have := HA.out.2.2; omega); intro v1 w6 ho hb hg hat; have HI3 := Aside0.mk ((hg.block w1.heap.size (lt_of_block HI2.out) (fun e => HO2.out.1 _ e.symm rfl)).trans HI2.out); have HO3 := Aside0.mk ho; have HB3 := Aside0.mk hb; clear ho hb hg hat)
      go_roundg (f + 1)
      case measure => omega
      case rel => exact ⟨f, pos + (Utf8.decode s pos).2, _, rfl, HO3, HB3, HI3, ⟨(rl_step hp).trans HA.out.1, by have := HA.out.2.1; omega, by have := HA.out.2.2; simp; omega⟩⟩
    · have hnx : ∀ ty, (Instr.next (.pointer (some ⟨w1.heap.size, 0, none⟩)) true ty).run Tryd.prog wr = _ := fun ty => run_next_end_at wr _ s pos ty HI.out hp
      go_wp2
      go_ret2
      have ha := HA.out.1
      rw [rl_end hp, List.append_nil] at ha
      rw [ha] at HO
      exact ⟨_, rfl, Kd.R_mono HO.out (fun _ _ => trivial), HB.out⟩
theorem decode_bad (s : ByteArray) (w : World) (hs : s.size ≤ 1000000) (hT : Tabs w) (hv : validD s.data.toList = false) :
    Calls Tryd.prog 14 #[.string s] w fun e w' => ∃ v : Value, e = .returned (.tuple #[v, .int .i64 4]) ∧ Kd.R (Kd.int .i32) 21 w' w.heap.size (fun _ => True) v [] ∧ Below w.heap.size w w' := by
  have cV := Any.utf8_ValidString Tryd.laysValid s w (by omega) hT
  rw [hv] at cV
  clear hv hT
  go_enter Tryd.func14, Tryd.ntmps14
  go_wp2_with (go_at_call 27; refine cV.mono ?_; rintro e w1 ⟨rfl, hb⟩)
  go_ret2
  exact ⟨_, rfl, Kd.R_nil _ _ _ _ _, hb⟩
theorem decode_any (s : ByteArray) (w : World) (hs : s.size ≤ 1000000) (hT : Tabs w) :
    Calls Tryd.prog 14 #[.string s] w fun e w' => ∃ v : Value, e = .returned (.tuple #[v, .int .i64 (decodeP s).2]) ∧ Kd.R (Kd.int .i32) 21 w' w.heap.size (fun _ => True) v (decodeP s).1 ∧ Below w.heap.size w w' := by
  unfold decodeP
  cases hv : validD s.data.toList with
  | false => rw [if_neg (by decide)]; exact decode_bad s w hs hT hv
  | true => rw [if_pos rfl]; exact decode_ok s w hs hT hv
theorem count_any (s : ByteArray) (w : World) (hs : s.size ≤ 1000000) (hT : Tabs w) :
    Calls Tryd.prog 17 #[.string s] w fun e w' => e = .returned (.int .i64 ((decodeP s).1.length : Int)) ∧ Below w.heap.size w w' := by
  have c := decode_any s w hs hT
  clear hT
  generalize decodeP s = q at *
  obtain ⟨l, z⟩ := q
  dsimp only at c ⊢
  go_enter Tryd.func17, Tryd.ntmps17
  go_wp2_with (go_at_call 14; refine c.mono ?_; rintro e w1 ⟨v, rfl, ho, hb⟩; obtain ⟨A1, c1, rfl⟩ := Kd.R_slice ho; clear ho)
  go_ret
  exact ⟨rfl, hb⟩

theorem class_any (r : Int) (w : World) : Calls Tryd.prog 22 #[.int .i32 r] w fun e w' => e = .returned (.int .i64 (classP r)) ∧ Drawn0 w w' :=
  runes_Class.calls 5 r _ w (class_eq 0 r)

theorem badR_or {r : Int} (h : (r == 65533) = true ∨ (r == 127) = true) : badR r := by
  simp only [beq_iff_eq] at h
  unfold badR
  omega
theorem notbad1 {r : Int} (h1 : r < 32) (h2 : classP r = 3) (h : (r == 65533) = false ∧ (r == 127) = false) : ¬ badR r := by
  simp only [beq_eq_false_iff_ne, ne_eq] at h
  unfold badR
  omega
theorem notbad2 {r : Int} (h1 : 32 ≤ r) (h : (r == 65533) = false ∧ (r == 127) = false) : ¬ badR r := by
  simp only [beq_eq_false_iff_ne, ne_eq] at h
  unfold badR
  omega

theorem check_any (s : ByteArray) (w : World) (hs : s.size ≤ 1000000) :
    Calls Tryd.prog 20 #[.string s] w fun e w' => e = .returned (.tuple #[.int .i64 (checkP s).1, .int .i64 (checkP s).2]) ∧ Below w.heap.size w w' := by
  unfold checkP
  by_cases h : 16384 < (s.size : Int)
  · rw [if_pos h]
    go_enter Tryd.func20, Tryd.ntmps20
    go_wp2
    go_ret2
    exact ⟨rfl, Below.refl _ _⟩
  · rw [if_neg h]
    go_enter Tryd.func20, Tryd.ntmps20
    go_wp2
    go_loopg [4] (s.size + 1) (fun gk v4 wr => ∃ (f pos : Nat), gk = f + 1 ∧ Aside0 (Below w.heap.size w wr) ∧ Aside0 (wr.heap[w.heap.size]? = some (.stringIter s pos)) ∧ Aside0 (ck s f pos = ck s s.size 0 ∧ s.size ≤ pos + f))
    case atStart => exact ⟨s.size, 0, rfl, ⟨below_iter (Below.refl _ _) _ _⟩, ⟨iter_new s 0⟩, ⟨rfl, by omega⟩⟩
    case round =>
      obtain ⟨f, pos, rfl, HB, HI, HA⟩ := hrel
      by_cases hp : pos < s.size
      · obtain ⟨W2, hnx, hm, hi, hz, hb2⟩ := iter_step (P := Tryd.prog) HI.out hp (Nat.le_refl _) HB.out
        have HB2 := Aside0.mk hb2
        have HI2 := Aside0.mk hi
        clear hm hi hz hb2 HI HB
        have hwd := width_pos s pos
        obtain ⟨f, rfl⟩ : ∃ f', f = f' + 1 := ⟨f - 1, by have := HA.out.2; omega⟩
        go_wp2_with (go_at_call 22; refine (class_any _ _).mono ?_; rintro e w3 ⟨rfl, ⟨nd, rfl⟩⟩)
        all_goals first
          | (go_ret2; exact ⟨ret2_fst ((ck_bad hp (by first | exact Or.inl ‹_› | exact badR_or ‹_› | exact Or.inr (Or.inl ⟨‹_›, ‹_›⟩))).symm.trans HA.out.1), by repeat (first | exact HB2.out | apply pw_below_drewN)⟩)
          | (go_roundg (f + 1)
             case measure => omega
             case rel => exact ⟨f, pos + (Utf8.decode s pos).2, rfl, ⟨by repeat (first | exact HB2.out | apply pw_below_drewN)⟩, ⟨HI2.out⟩, ⟨by rw [← HA.out.1, ck_on hp (by first | exact notbad1 ‹_› ‹_› ‹_› | exact notbad2 ‹_› ‹_›)], by have := HA.out.2; omega⟩⟩)
      · have hnx : ∀ ty, (Instr.next (.pointer (some ⟨w.heap.size, 0, none⟩)) true ty).run Tryd.prog wr = _ := fun ty => run_next_end_at wr _ s pos ty HI.out hp
        go_wp2
        go_ret2
        exact ⟨ret2_fst ((ck_end hp).symm.trans HA.out.1), HB.out⟩
theorem name_empty (s : ByteArray) (w : World) (h : s.toList = []) :
    Calls Tryd.prog 24 #[.string s] w fun e w' => e = .returned (.bool false) ∧ Below w.heap.size w w' := by
  have h2 : s.toList.isEmpty = true := by rw [h]; rfl
  go_enter Tryd.func24, Tryd.ntmps24
  go_wp2
  go_ret
  exact ⟨rfl, Below.refl _ _⟩
theorem name_long (s : ByteArray) (w : World) (hs : s.size ≤ 1000000) (h : s.toList.isEmpty = false) (h2 : 32 < (s.size : Int)) :
    Calls Tryd.prog 24 #[.string s] w fun e w' => e = .returned (.bool false) ∧ Below w.heap.size w w' := by
  go_enter Tryd.func24, Tryd.ntmps24
  go_wp2
  go_ret
  exact ⟨rfl, Below.refl _ _⟩
theorem name_text (s : ByteArray) (w : World) (hs : s.size ≤ 1000000) (hT : Tabs w) (h : s.toList.isEmpty = false) (h2 : (s.size : Int) ≤ 32) (hv : validD s.data.toList = false) :
    Calls Tryd.prog 24 #[.string s] w fun e w' => e = .returned (.bool false) ∧ Below w.heap.size w w' := by
  have cV := Any.utf8_ValidString Tryd.laysValid s w (by omega) hT
  rw [hv] at cV
  clear hv hT
  go_enter Tryd.func24, Tryd.ntmps24
  go_wp2_with (go_at_call 27; refine cV.mono ?_; rintro e w1 ⟨rfl, hb⟩)
  go_ret
  exact ⟨rfl, hb⟩
theorem ok1 {r : Int} {b : Bool} (h : (classP r == 1) = true) : okR b r = true := by
  unfold okR; simp only [beq_iff_eq] at h; simp [h]
theorem ok2 {r : Int} {pos : Nat} (h : (classP r == 2) = true) (h0 : ((pos : Int) == 0) = false) : okR (decide (pos = 0)) r = true := by
  have : ¬ pos = 0 := by simp only [beq_eq_false_iff_ne] at h0; omega
  unfold okR; simp only [beq_iff_eq] at h; simp [h, this]
theorem ok3 {r : Int} {pos : Nat} (h : ((pos : Int) == 0) = false ∧ (r != 39) = false) : okR (decide (pos = 0)) r = true := by
  have : ¬ pos = 0 := by have h0 := h.1; simp only [beq_eq_false_iff_ne] at h0; omega
  have h2 := h.2
  simp only [bne_eq_false_iff_eq] at h2
  unfold okR; simp [h2, this]
theorem no1 {r : Int} {pos : Nat} (c1 : (classP r == 1) = false) (c2 : (classP r == 2) = true) (h0 : ((pos : Int) == 0) = true) : okR (decide (pos = 0)) r = false := by
  have : pos = 0 := by simp only [beq_iff_eq] at h0; omega
  simp only [beq_eq_false_iff_ne] at c1
  unfold okR; simp [c1, this]
theorem no2 {r : Int} {pos : Nat} (c1 : (classP r == 1) = false) (c2 : (classP r == 2) = false) (h0 : pos = 0) : okR (decide (pos = 0)) r = false := by
  simp only [beq_eq_false_iff_ne] at c1
  unfold okR; simp [c1, h0]
theorem no3 {r : Int} {pos : Nat} (c1 : (classP r == 1) = false) (c2 : (classP r == 2) = false) (h : ((pos : Int) == 0) = true ∨ (r != 39) = true) : okR (decide (pos = 0)) r = false := by
  simp only [beq_eq_false_iff_ne] at c1 c2
  rcases h with h | h
  · have : pos = 0 := by simp only [beq_iff_eq] at h; omega
    unfold okR; simp [c1, this]
  · simp only [bne_iff_ne] at h
    unfold okR; simp [c1, c2, h]
theorem toList_eq (s : ByteArray) : s.toList = s.data.toList := by
  have h := ByteArray.toList_mk s.data.toList
  have e : (ByteArray.mk s.data.toList.toArray) = s := by cases s; simp
  rw [e] at h
  exact h
theorem toList_size (s : ByteArray) : s.toList.length = s.size := by
  rw [toList_eq]
  exact Array.length_toList
theorem name_ok (s : ByteArray) (w : World) (hs : s.size ≤ 1000000) (hT : Tabs w) (h : s.toList.isEmpty = false) (h2 : (s.size : Int) ≤ 32) (hv : validD s.data.toList = true) :
    Calls Tryd.prog 24 #[.string s] w fun e w' => e = .returned (.bool (nm s s.size 0)) ∧ Below w.heap.size w w' := by
  have cV := Any.utf8_ValidString Tryd.laysValid s w (by omega) hT
  rw [hv] at cV
  clear hv hT
  go_enter Tryd.func24, Tryd.ntmps24
  go_wp2_with (go_at_call 27; refine cV.mono ?_; rintro e w1 ⟨rfl, hb⟩)
  have HBs := Aside0.mk hb.size
  go_loopg [3] (s.size + 1) (fun gk v3 wr => ∃ (f pos : Nat), gk = f + 1 ∧ Aside0 (Below w.heap.size w wr) ∧ Aside0 (wr.heap[w1.heap.size]? = some (.stringIter s pos)) ∧ Aside0 (nm s f pos = nm s s.size 0 ∧ s.size ≤ pos + f))
  case atStart => exact ⟨s.size, 0, rfl, ⟨below_iter hb _ _⟩, ⟨iter_new s 0⟩, ⟨rfl, by omega⟩⟩
  case round =>
    obtain ⟨f, pos, rfl, HB, HI, HA⟩ := hrel
    by_cases hp : pos < s.size
    · obtain ⟨W2, hnx, hm, hi, hz, hb2⟩ := iter_step (P := Tryd.prog) HI.out hp HBs.out HB.out
      have HB2 := Aside0.mk hb2
      have HI2 := Aside0.mk hi
      clear hm hi hz hb2 HI HB
      have hwd := width_pos s pos
      obtain ⟨f, rfl⟩ : ∃ f', f = f' + 1 := ⟨f - 1, by have := HA.out.2; omega⟩
      go_wp2_with (go_at_call 22; refine (class_any _ _).mono ?_; rintro e w3 ⟨rfl, ⟨nd, rfl⟩⟩)
      all_goals first
        | (go_ret; exact ⟨ret_bool ((nm_bad hp (by first | exact no1 ‹_› ‹_› ‹_› | exact no2 ‹_› ‹_› ‹_› | exact no3 ‹_› ‹_› ‹_›)).symm.trans HA.out.1), by repeat (first | exact HB2.out | apply pw_below_drewN)⟩)
        | (go_roundg (f + 1)
           case measure => omega
           case rel => exact ⟨f, pos + (Utf8.decode s pos).2, rfl, ⟨by repeat (first | exact HB2.out | apply pw_below_drewN)⟩, ⟨HI2.out⟩, ⟨(nm_on hp (by first | exact ok1 ‹_› | exact ok2 ‹_› ‹_› | exact ok3 ‹_›)).symm.trans HA.out.1, by have := HA.out.2; omega⟩⟩)
    · have hnx : ∀ ty, (Instr.next (.pointer (some ⟨w1.heap.size, 0, none⟩)) true ty).run Tryd.prog wr = _ := fun ty => run_next_end_at wr _ s pos ty HI.out hp
      go_wp2
      go_ret
      exact ⟨ret_bool ((nm_end hp).symm.trans HA.out.1), HB.out⟩
theorem name_any (s : ByteArray) (w : World) (hs : s.size ≤ 1000000) (hT : Tabs w) :
    Calls Tryd.prog 24 #[.string s] w fun e w' => e = .returned (.bool (nameP s)) ∧ Below w.heap.size w w' := by
  have hz := toList_size s
  unfold nameP
  by_cases h0 : s.toList = []
  · rw [h0] at hz
    simp only [List.length_nil] at hz
    rw [decide_eq_false (by omega), Bool.false_and, Bool.false_and]
    exact name_empty s w h0
  · have he : s.toList.isEmpty = false := by simpa using h0
    have h1 : 0 < s.toList.length := List.length_pos_iff.2 h0
    by_cases h2 : 32 < (s.size : Int)
    · rw [decide_eq_false (by omega), Bool.false_and, Bool.false_and]
      exact name_long s w hs he h2
    · rw [decide_eq_true (by omega), Bool.true_and]
      cases hv : validD s.data.toList with
      | false => exact name_text s w hs hT he (by omega) hv
      | true => exact name_ok s w hs hT he (by omega) hv

theorem cut_text (s : ByteArray) (n : Int) (w : World) (hs : s.size ≤ 1000000) (hT : Tabs w) (hv : validD s.data.toList = false) :
    Calls Tryd.prog 19 #[.string s, .int .i64 n] w fun e w' => e = .returned (.string ⟨#[]⟩) ∧ Below w.heap.size w w' := by
  have cV := Any.utf8_ValidString Tryd.laysValid s w (by omega) hT
  rw [hv] at cV
  clear hv hT
  go_enter Tryd.func19, Tryd.ntmps19
  go_wp2_with (go_at_call 27; refine cV.mono ?_; rintro e w1 ⟨rfl, hb⟩)
  go_ret
  exact ⟨rfl, hb⟩
theorem cut_none (s : ByteArray) (n : Int) (w : World) (hs : s.size ≤ 1000000) (hT : Tabs w) (hv : validD s.data.toList = true) (hn : n < 1) :
    Calls Tryd.prog 19 #[.string s, .int .i64 n] w fun e w' => e = .returned (.string ⟨#[]⟩) ∧ Below w.heap.size w w' := by
  have cV := Any.utf8_ValidString Tryd.laysValid s w (by omega) hT
  rw [hv] at cV
  clear hv hT
  go_enter Tryd.func19, Tryd.ntmps19
  go_wp2_with (go_at_call 27; refine cV.mono ?_; rintro e w1 ⟨rfl, hb⟩)
  go_ret
  exact ⟨rfl, hb⟩
theorem cut_ok (s : ByteArray) (n : Int) (w : World) (hs : s.size ≤ 1000000) (hT : Tabs w) (hv : validD s.data.toList = true) (hn : 1 ≤ n) :
    Calls Tryd.prog 19 #[.string s, .int .i64 n] w fun e w' => e = .returned (.string (s.extract 0 (cp s s.size 0 0 n))) ∧ Below w.heap.size w w' := by
  have cV := Any.utf8_ValidString Tryd.laysValid s w (by omega) hT
  rw [hv] at cV
  clear hv hT
  go_enter Tryd.func19, Tryd.ntmps19
  go_wp2_with (go_at_call 27; refine cV.mono ?_; rintro e w1 ⟨rfl, hb⟩)
  have HBs := Aside0.mk hb.size
  go_loopg [5] (s.size + 1) (fun gk v5 wr => ∃ (f pos k : Nat), gk = f + 1 ∧ v5 = .int .i64 k ∧ Aside0 (Below w.heap.size w wr) ∧ Aside0 (wr.heap[w1.heap.size]? = some (.stringIter s pos)) ∧ Aside0 (cp s f pos k n = cp s s.size 0 0 n ∧ s.size ≤ pos + f ∧ k ≤ pos ∧ pos ≤ s.size))
  case atStart => exact ⟨s.size, 0, 0, rfl, rfl, ⟨below_iter hb _ _⟩, ⟨iter_new s 0⟩, ⟨rfl, by omega, by omega, by omega⟩⟩
  case round =>
    obtain ⟨f, pos, k, rfl, rfl, HB, HI, HA⟩ := hrel
    have hpz := HA.out.2.2.2
    have hkz := HA.out.2.2.1
    by_cases hp : pos < s.size
    · obtain ⟨W2, hnx, hm, hi, hz, hb2⟩ := iter_step (P := Tryd.prog) HI.out hp HBs.out HB.out
      have HB2 := Aside0.mk hb2
      have HI2 := Aside0.mk hi
      clear hm hi hz hb2 HI HB
      have hwd := width_pos s pos
      have hwl := w_le s pos hp
      obtain ⟨f, rfl⟩ : ∃ f', f = f' + 1 := ⟨f - 1, by have := HA.out.2.1; omega⟩
      go_wp2
      · go_ret
        exact ⟨ret_str (by rw [← HA.out.1, cp_stop hp (by assumption)]), HB2.out⟩
      · go_roundg (f + 1)
        case measure => omega
        case rel => exact ⟨f, pos + (Utf8.decode s pos).2, k + 1, rfl, by go_num, ⟨HB2.out⟩, ⟨HI2.out⟩, ⟨by rw [← HA.out.1, cp_on hp (by assumption)]; rfl, by have := HA.out.2.1; omega, by omega, by omega⟩⟩
    · have hnx : ∀ ty, (Instr.next (.pointer (some ⟨w1.heap.size, 0, none⟩)) true ty).run Tryd.prog wr = _ := fun ty => run_next_end_at wr _ s pos ty HI.out hp
      go_wp2
      go_ret
      exact ⟨ret_str (by rw [← HA.out.1, cp_end hp, show pos = s.size by omega]; exact (ext_all s).symm), HB.out⟩
theorem cp_none (s : ByteArray) (n : Int) (hn : n < 1) : s.extract 0 (cp s s.size 0 0 n) = ⟨#[]⟩ := by
  have h : cp s s.size 0 0 n = 0 := by
    by_cases hp : 0 < s.size
    · obtain ⟨f, hf⟩ : ∃ f, s.size = f + 1 := ⟨s.size - 1, by omega⟩
      rw [hf, cp_stop (by omega) (by omega)]
    · exact cp_end hp
  rw [h]
  apply ByteArray.ext
  simp
theorem cut_any (s : ByteArray) (n : Int) (w : World) (hs : s.size ≤ 1000000) (hT : Tabs w) :
    Calls Tryd.prog 19 #[.string s, .int .i64 n] w fun e w' => e = .returned (.string (cutP s n)) ∧ Below w.heap.size w w' := by
  unfold cutP
  cases hv : validD s.data.toList with
  | false => rw [if_neg (by decide)]; exact cut_text s n w hs hT hv
  | true =>
    rw [if_pos rfl]
    by_cases hn : n < 1
    · rw [cp_none s n hn]; exact cut_none s n w hs hT hv hn
    · exact cut_ok s n w hs hT hv (by omega)
end Go.Proofs.YtcnmelpnbfdgeaaDoor.RW
