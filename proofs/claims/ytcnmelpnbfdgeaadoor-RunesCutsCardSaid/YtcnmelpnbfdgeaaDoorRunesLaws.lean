/- The walks of the laws RunesDecode and RunesClasses: whatever the input, they answer true. -/
import Derived.Test.YtcnmelpnbfdgeaaDoorRunesPlacesWalk
namespace Go.Proofs.YtcnmelpnbfdgeaaDoor.RW
set_option linter.unusedVariables false
set_option linter.unusedSimpArgs false
open Go.RowKit Go.Lib Go.Proofs.YtcnmelpnbfdgeaaDoorW.PrintWords Go.Proofs.YtcnmelpnbfdgeaaDoorW.PrintLast Go.Proofs.YtcnmelpnbfdgeaaDoorW.PrintMore Go.Proofs.YtcnmelpnbfdgeaaDoor.RP Go.Proofs.YtcnmelpnbfdgeaaDoor.PAll

theorem decode_walk (s : ByteArray) (w : World) (hs : s.size ≤ 140737488351232) (hT : Tabs w) :
    Calls Tryd.prog 5 #[.string s] w fun e w' => e = .returned (.bool true) ∧ Below w.heap.size w w' := by
  obtain ⟨r, hr, hz⟩ := few_eq s hs
  have c1 := marquetrylaw01_few.calls s r w hr
  have c2 := fun w (hT : Tabs w) => decode_any r w (by omega) hT
  have c3 := fun w => marquetryref01_Decode.calls (r.size + 10) r (decodeP r).1 (decodeP r).2 w (decodeR_eq r (by omega) _ (Nat.le_refl _))
  have c4 := fun w (hT : Tabs w) => count_any r w (by omega) hT
  have c5 := fun w => marquetryref01_Count.calls (r.size + 10) r _ w (count_eq r (by omega))
  have hs6 := Aside0.mk (same_eq (decodeP r).1 (by have := decodeP_len r; omega))
  have c7 := works_any
  clear hr hs hz
  generalize decodeP r = q at *
  obtain ⟨l, z⟩ := q
  dsimp only at c2 c3 c4 c5 hs6
  go_enter Tryd.func5, Tryd.ntmps5
  go_wp2_with (first | (go_at_call 10; refine c1.mono ?_; rintro e w1 ⟨rfl, hb1⟩) | (go_at_call 14; refine (c2 _ (hT.below hb1)).mono ?_; rintro e w2 ⟨v, rfl, ho, hb'⟩; obtain ⟨A1, n1, rfl, hl1, hC1'⟩ := Kd.R_reads ho; have hC1 := Aside0.mk hC1'; have hb2 := below_then hb1 hb1.size hb'; clear hb' ho hC1') | (go_at_call 15; refine (c3 _).mono ?_; rintro e w3 ⟨v, rfl, ho, hb'⟩; obtain ⟨A2, n2, rfl, hl2, hC2'⟩ := Kd.R_reads ho; have hC2 := Aside0.mk hC2'; have hC1' := Aside0.mk (Kd.C_below hC1.out hb'); have hb3 := below_then hb2 hb2.size hb'; clear hb' ho hC2') | (go_at_call 16; refine (marquetryref01_Same.calls _ A1 n1 l A2 n2 l true _ hC1'.out hl1 hC2.out hl2 hs6.out).mono ?_; rintro e w4 ⟨rfl, ⟨nd, rfl⟩⟩; have hb4 := pw_below_drewN hb3 nd) | (go_at_call 17; refine (c4 _ (hT.below hb4)).mono ?_; rintro e w5 ⟨rfl, hb'⟩; have hb5 := below_then hb4 hb4.size hb'; clear hb') | (go_at_call 18; refine (c5 _).mono ?_; rintro e w6 ⟨rfl, hb'⟩; have hb6 := below_then hb5 hb5.size hb'; clear hb') | (go_at_call 13; refine (c7 _ (hT.below hb6)).mono ?_; rintro e w7 ⟨rfl, hb'⟩; have hb7 := below_then hb6 hb6.size hb'; clear hb'))
  go_ret
  exact ⟨rfl, hb7⟩

theorem refclass_any (r : Int) (w : World) : Calls Tryd.prog 23 #[.int .i32 r] w fun e w' => e = .returned (.int .i64 (classP r)) ∧ Drawn0 w w' :=
  marquetryref01_Class.calls 3 r _ w (refclass_eq 0 r)

theorem classes_walk (c : Int) (s : ByteArray) (w : World) (hs : s.size ≤ 140737488351232) (hT : Tabs w) :
    Calls Tryd.prog 8 #[.int .i32 c, .string s] w fun e w' => e = .returned (.bool true) ∧ Below w.heap.size w w' := by
  go_enter Tryd.func8, Tryd.ntmps8
  go_wp2_with fail
  generalize hr : s.extract 0 (min (s.size : Int) 20000).toNat = r
  have hz : r.size ≤ 20000 := by rw [← hr, ByteArray.size_extract]; omega
  clear hr hs
  have c2 := fun w => check_any r w (by omega)
  have c3 := fun w => marquetryref01_Check.calls (r.size + 10) r (checkP r).1 (checkP r).2 w (check_eq r (by omega))
  have c7 := works_any
  clear hz
  generalize checkP r = q at c2 c3
  obtain ⟨a, b⟩ := q
  dsimp only at c2 c3
  go_wp2_with (first | (go_at_call 20; refine (c2 _).mono ?_; rintro e w1 ⟨rfl, hb1⟩) | (go_at_call 21; refine (c3 _).mono ?_; rintro e w2 ⟨rfl, ⟨nd2, rfl⟩⟩; have hb2 := pw_below_drewN hb1 nd2) | (go_at_call 22; refine (class_any _ _).mono ?_; rintro e w3 ⟨rfl, ⟨nd3, rfl⟩⟩; have hb3 := pw_below_drewN hb2 nd3) | (go_at_call 23; refine (refclass_any _ _).mono ?_; rintro e w4 ⟨rfl, ⟨nd4, rfl⟩⟩; have hb4 := pw_below_drewN hb3 nd4) | (go_at_call 13; refine (c7 _ (hT.below (by repeat (first | exact hb1 | apply pw_below_drewN)))).mono ?_; rintro e w7 ⟨rfl, hb'⟩; have hb7 := below_then (pw_below_drewN hb1 _) hb1.size hb'; clear hb'))
  go_ret
  exact ⟨rfl, hb7⟩
theorem names_walk (s : ByteArray) (n : Int) (w : World) (hs : s.size ≤ 140737488351232) (hT : Tabs w) :
    Calls Tryd.prog 9 #[.string s, .int .i64 n] w fun e w' => e = .returned (.bool true) ∧ Below w.heap.size w w' := by
  obtain ⟨r, hr, hz⟩ := few_eq s hs
  have c1 := marquetrylaw01_few.calls s r w hr
  have c2 := fun w (hT : Tabs w) => name_any r w (by omega) hT
  have c3 := fun w => marquetryref01_Name.calls (r.size + 12) r _ w (name_eq r (by omega))
  have c4 := fun w (hT : Tabs w) => cut_any r n w (by omega) hT
  have c5 := fun w => marquetryref01_Cut.calls (r.size + 12) r n _ w (cut_eq r (by omega) n)
  have c7 := works_any
  clear hr hs hz
  generalize nameP r = q at *
  generalize cutP r n = q2 at *
  go_enter Tryd.func9, Tryd.ntmps9
  go_wp2_with (first | (go_at_call 10; refine c1.mono ?_; rintro e w1 ⟨rfl, hb1⟩) | (go_at_call 24; refine (c2 _ (hT.below hb1)).mono ?_; rintro e w2 ⟨rfl, hb'⟩; have hb2 := below_then hb1 hb1.size hb'; clear hb') | (go_at_call 25; refine (c3 _).mono ?_; rintro e w3 ⟨rfl, hb'⟩; have hb3 := below_then hb2 hb2.size hb'; clear hb') | (go_at_call 19; refine (c4 _ (hT.below hb3)).mono ?_; rintro e w4 ⟨rfl, hb'⟩; have hb4 := below_then hb3 hb3.size hb'; clear hb') | (go_at_call 26; refine (c5 _).mono ?_; rintro e w5 ⟨rfl, hb'⟩; have hb5 := below_then hb4 hb4.size hb'; clear hb') | (go_at_call 13; refine (c7 _ (hT.below hb5)).mono ?_; rintro e w7 ⟨rfl, hb'⟩; have hb7 := below_then hb5 hb5.size hb'; clear hb'))
  go_ret
  exact ⟨rfl, hb7⟩
end Go.Proofs.YtcnmelpnbfdgeaaDoor.RW
