/- The walks of layer 1 (package runes): each function's contract. Conditions: utf8's two tables as laid. -/
import Derived.Test.YtcnmelpnbfdgeaaDoorRunesPure
import Derived.Test.YtcnmelpnbfdgeaaDoorShelf
import Derived.WalkKit
import Derived.WalkMore
import Derived.WalkSpells
import Derived.Below
import Derived.Outline
import Derived.Deep.LoopGhost
import Derived.Deep.DeepCutAuto
import Derived.Laws.RangeAny
import Derived.Lib.OthersKept
import Derived.Lib.Hide
namespace Go.Proofs.YtcnmelpnbfdgeaaDoor.RW
open Go.RowKit Go.Lib Go.Proofs.YtcnmelpnbfdgeaaDoor.RP

def Tabs (w : World) : Prop := Lib.Utf8Tabs (Tryd.laysValid_ren.g 3) (Tryd.laysValid_ren.g 4) w
theorem Tabs.below {w w' : World} (h : Tabs w) (hb : Below w.heap.size w w') : Tabs w' := Utf8Tabs_below h hb

theorem pl_ret {s : ByteArray} {at_ : Int} {f pos : Nat} {l c : Int} (hp : pos < s.size) (h : at_ < wrap64 (pos + runeLen (Utf8.decode s pos).1)) : pl s at_ (f + 1) pos l c = (l, c) := by simp [pl, hp, h]
theorem pl_nl {s : ByteArray} {at_ : Int} {f pos : Nat} {l c : Int} (hp : pos < s.size) (h : wrap64 (pos + runeLen (Utf8.decode s pos).1) ≤ at_) (hr : (((Utf8.decode s pos).1 : Int) == 10) = true) :
    pl s at_ (f + 1) pos l c = pl s at_ f (pos + (Utf8.decode s pos).2) (wrap64 (l + 1)) 1 := by
  simp only [pl]
  rw [if_pos hp, if_neg (Int.not_lt.2 h), if_pos (beq_iff_eq.1 hr)]
theorem pl_on {s : ByteArray} {at_ : Int} {f pos : Nat} {l c : Int} (hp : pos < s.size) (h : wrap64 (pos + runeLen (Utf8.decode s pos).1) ≤ at_) (hr : (((Utf8.decode s pos).1 : Int) == 10) = false) :
    pl s at_ (f + 1) pos l c = pl s at_ f (pos + (Utf8.decode s pos).2) l (wrap64 (c + 1)) := by
  simp only [pl]
  rw [if_pos hp, if_neg (Int.not_lt.2 h), if_neg (by simpa using hr)]
theorem pl_end {s : ByteArray} {at_ : Int} {f pos : Nat} {l c : Int} (hp : ¬ pos < s.size) : pl s at_ f pos l c = (l, c) := by cases f <;> simp [pl, hp]
theorem ret3_int {a b c a' b' : Int} (h : (a, b) = (a', b')) : Ending.returned (.tuple #[.int .i64 a, .int .i64 b, .int .i64 c]) = .returned (.tuple #[.int .i64 a', .int .i64 b', .int .i64 c]) := by
  obtain ⟨rfl, rfl⟩ := Prod.mk.inj h; rfl
theorem below_iter {w w1 : World} (hb : Below w.heap.size w w1) (s : ByteArray) (p : Nat) : Below w.heap.size w (w1.iter s p) := hb.alloc hb.size _

set_option maxHeartbeats 1000000 in
theorem place_ok (s : ByteArray) (at_ : Int) (w : World) (hs : s.size ≤ 140737488351232) (hT : Tabs w) (h0 : 0 ≤ at_) (h1 : at_ ≤ s.size) (hv : validD s.data.toList = true) :
    Calls Tryd.prog 11 #[.string s, .int .i64 at_] w fun e w' => e = .returned (.tuple #[.int .i64 (pl s at_ s.size 0 1 1).1, .int .i64 (pl s at_ s.size 0 1 1).2, .int .i64 0]) ∧ Below w.heap.size w w' := by
  have cV := Any.utf8_ValidString Tryd.laysValid s w (by omega) hT
  rw [hv] at cV
  clear hv hT
  go_enter Tryd.func11, Tryd.ntmps11
  go_wp2_with (go_at_call 27; refine cV.mono ?_; rintro e w1 ⟨rfl, hb⟩)
  go_loopg [4, 5] (s.size + 1) (fun gk v4 v5 wr => ∃ (f pos : Nat) (l c : Int), gk = f + 1 ∧ v4 = .int .i64 l ∧ v5 = .int .i64 c ∧ wr = w1.iter s pos ∧ Aside (pl s at_ f pos l c = pl s at_ s.size 0 1 1 ∧ s.size ≤ pos + f))
  case atStart => exact ⟨s.size, 0, 1, 1, rfl, rfl, rfl, rfl, rfl, by omega⟩
  case round =>
    obtain ⟨f, pos, l, c, rfl, rfl, rfl, rfl, HA⟩ := hrel
    by_cases hp : pos < s.size
    · have hnx : ∀ ty, (Instr.next (.pointer (some ⟨w1.heap.size, 0, none⟩)) true ty).run Tryd.prog (w1.iter s pos) = _ := fun ty => run_next_any w1 s pos ty hp
      have hwd := width_pos s pos
      obtain ⟨f, rfl⟩ : ∃ f', f = f' + 1 := ⟨f - 1, by have := HA.out.2; omega⟩
      go_wp2_with (go_at_call 28; refine (Tryd.utf8_RuneLen _ _).mono ?_; rintro e w2 ⟨rfl, rfl⟩)
      · go_ret3
        exact ⟨ret3_int ((pl_ret hp ‹_›).symm.trans HA.out.1), below_iter hb _ _⟩
      · go_roundg (f + 1)
        case measure => omega
        case rel => exact ⟨f, _, _, _, rfl, rfl, rfl, rfl, (pl_nl hp ‹_› ‹_›).symm.trans HA.out.1, by have := HA.out.2; omega⟩
      · go_roundg (f + 1)
        case measure => omega
        case rel => exact ⟨f, _, _, _, rfl, rfl, rfl, rfl, (pl_on hp ‹_› ‹_›).symm.trans HA.out.1, by have := HA.out.2; omega⟩
    · have hnx : ∀ ty, (Instr.next (.pointer (some ⟨w1.heap.size, 0, none⟩)) true ty).run Tryd.prog (w1.iter s pos) = _ := fun ty => run_next_end w1 s pos ty hp
      go_wp2
      go_ret3
      exact ⟨ret3_int ((pl_end hp).symm.trans HA.out.1), below_iter hb _ _⟩

theorem place_arg (s : ByteArray) (at_ : Int) (w : World) (hs : s.size ≤ 140737488351232) (h : at_ < 0 ∨ (s.size : Int) < at_) :
    Calls Tryd.prog 11 #[.string s, .int .i64 at_] w fun e w' => e = .returned (.tuple #[.int .i64 0, .int .i64 0, .int .i64 2]) ∧ Below w.heap.size w w' := by
  rcases h with h | h
  · go_enter Tryd.func11, Tryd.ntmps11
    go_wp2
    go_ret3
    exact ⟨rfl, Below.refl _ _⟩
  · have h0 : 0 ≤ at_ := by omega
    go_enter Tryd.func11, Tryd.ntmps11
    go_wp2
    go_ret3
    exact ⟨rfl, Below.refl _ _⟩

theorem place_text (s : ByteArray) (at_ : Int) (w : World) (hs : s.size ≤ 140737488351232) (hT : Tabs w) (h0 : 0 ≤ at_) (h1 : at_ ≤ s.size) (hv : validD s.data.toList = false) :
    Calls Tryd.prog 11 #[.string s, .int .i64 at_] w fun e w' => e = .returned (.tuple #[.int .i64 0, .int .i64 0, .int .i64 4]) ∧ Below w.heap.size w w' := by
  have cV := Any.utf8_ValidString Tryd.laysValid s w (by omega) hT
  rw [hv] at cV
  clear hv hT
  go_enter Tryd.func11, Tryd.ntmps11
  go_wp2_with (go_at_call 27; refine cV.mono ?_; rintro e w1 ⟨rfl, hb⟩)
  go_ret3
  exact ⟨rfl, hb⟩

theorem place_any (s : ByteArray) (at_ : Int) (w : World) (hs : s.size ≤ 140737488351232) (hT : Tabs w) :
    Calls Tryd.prog 11 #[.string s, .int .i64 at_] w fun e w' => e = .returned (.tuple #[.int .i64 (placeP s at_).1, .int .i64 (placeP s at_).2.1, .int .i64 (placeP s at_).2.2]) ∧ Below w.heap.size w w' := by
  unfold placeP
  by_cases h : at_ < 0 ∨ (s.size : Int) < at_
  · rw [if_pos h]; exact place_arg s at_ w hs h
  · rw [if_neg h]
    cases hv : validD s.data.toList with
    | false => rw [if_pos rfl]; exact place_text s at_ w hs hT (by omega) (by omega) hv
    | true => rw [if_neg (by decide)]; exact place_ok s at_ w hs hT (by omega) (by omega) hv
end Go.Proofs.YtcnmelpnbfdgeaaDoor.RW
