/- The walk of the law RunesPlaces: whatever the text and the place, it answers true. -/
import Derived.Test.YtcnmelpnbfdgeaaDoorRunesWalks
import Derived.Deep.QuietTactic
import Derived.BigQuiet
namespace Go.Proofs.YtcnmelpnbfdgeaaDoor.RW
open Go.RowKit Go.Lib Go.Proofs.YtcnmelpnbfdgeaaDoorW.PrintWords Go.Proofs.YtcnmelpnbfdgeaaDoorW.PrintMore Go.Proofs.YtcnmelpnbfdgeaaDoor.RP Go.Proofs.YtcnmelpnbfdgeaaDoor.PAll

theorem worksP : placeP ⟨#[97, 10, 195, 169, 98]⟩ 4 = (2, 2, 0) := by decide +kernel
theorem works_any (w : World) (hT : Tabs w) : Calls Tryd.prog 13 #[] w fun e w' => e = .returned (.bool true) ∧ Below w.heap.size w w' := by
  have c := place_any ⟨#[97, 10, 195, 169, 98]⟩ 4 w (by decide) hT
  rw [worksP] at c
  go_enter Tryd.func13, Tryd.ntmps13
  go_wp2_with (go_at_call 11; refine c.mono ?_; rintro e w1 ⟨rfl, hb⟩)
  go_ret
  exact ⟨rfl, hb⟩

/-- few: at most 300 bytes. -/
theorem few_eq (s : ByteArray) (hs : s.size ≤ 140737488351232) : ∃ r, marquetrylaw01_few.f s = some r ∧ r.size ≤ 300 := by
  unfold marquetrylaw01_few.f mn
  by_cases h : 300 < (s.size : Int)
  · rw [if_pos h, if_pos (by omega), if_pos (by omega)]
    refine ⟨_, rfl, ?_⟩
    rw [ByteArray.size_extract]
    omega
  · rw [if_neg h, if_pos (by omega), if_pos (by omega)]
    refine ⟨_, rfl, ?_⟩
    rw [ByteArray.size_extract]
    omega

theorem places_walk (s : ByteArray) (at_ : Int) (w : World) (hs : s.size ≤ 140737488351232) (hT : Tabs w) :
    Calls Tryd.prog 3 #[.string s, .int .i64 at_] w fun e w' => e = .returned (.bool true) ∧ Below w.heap.size w w' := by
  obtain ⟨r, hr, hz⟩ := few_eq s hs
  have c1 := marquetrylaw01_few.calls s r w hr
  have hp := place_eq r (by omega) at_
  have c2 := fun w (hT : Tabs w) => place_any r at_ w (by omega) hT
  have c3 := fun w => marquetryref01_Place.calls (r.size + 12) r at_ (placeP r at_).1 (placeP r at_).2.1 (placeP r at_).2.2 w (by rw [hp])
  have c4 := works_any
  clear hr hp hs hz
  generalize placeP r at_ = q at *
  obtain ⟨a, b, c⟩ := q
  dsimp only at c2 c3
  go_enter Tryd.func3, Tryd.ntmps3
  go_wp2_with (first | (go_at_call 10; refine c1.mono ?_; rintro e w1 ⟨rfl, hb1⟩) | (go_at_call 11; refine (c2 _ (hT.below hb1)).mono ?_; rintro e w2 ⟨rfl, hb2'⟩; have hb2 := below_then hb1 hb1.size hb2'; clear hb2') | (go_at_call 12; refine (c3 _).mono ?_; rintro e w3 ⟨rfl, hb3'⟩; have hb3 := below_then hb2 hb2.size hb3'; clear hb3') | (go_at_call 13; refine (c4 _ (hT.below hb3)).mono ?_; rintro e w4 ⟨rfl, hb4'⟩; have hb4 := below_then hb3 hb3.size hb4'; clear hb4'))
  go_ret
  exact ⟨rfl, hb4⟩
end Go.Proofs.YtcnmelpnbfdgeaaDoor.RW
