/- The walk of the law RunesBack: whatever the text, it answers true. -/
import Derived.Test.YtcnmelpnbfdgeaaDoorRunesLaws
import Derived.WalkLawsBesides
namespace Go.Proofs.YtcnmelpnbfdgeaaDoor.RW
set_option linter.unusedVariables false
set_option linter.unusedSimpArgs false
open Go.RowKit Go.Lib Go.Proofs.YtcnmelpnbfdgeaaDoorW.PrintWords Go.Proofs.YtcnmelpnbfdgeaaDoorW.PrintLast Go.Proofs.YtcnmelpnbfdgeaaDoorW.PrintMore Go.Proofs.YtcnmelpnbfdgeaaDoor.RP Go.Proofs.YtcnmelpnbfdgeaaDoor.PAll

theorem back_bad (s r : ByteArray) (w : World) (hr : marquetrylaw01_few.f s = some r) (hz : r.size ≤ 300) (hT : Tabs w) (hv : validD r.data.toList = false) :
    Calls Tryd.prog 6 #[.string s] w fun e w' => e = .returned (.bool true) ∧ Below w.heap.size w w' := by
  have c1 := marquetrylaw01_few.calls s r w hr
  have c2 := fun w (hT : Tabs w) => decode_bad r w (by omega) hT hv
  have c7 := works_any
  clear hr hv
  go_enter Tryd.func6, Tryd.ntmps6
  go_wp2_with (first | (go_at_call 10; refine c1.mono ?_; rintro e w1 ⟨rfl, hb1⟩) | (go_at_call 14; refine (c2 _ (hT.below hb1)).mono ?_; rintro e w2 ⟨v, rfl, ho, hb'⟩; obtain ⟨A1, n1, rfl, hl1, hC1'⟩ := Kd.R_reads ho; simp only [List.length_nil] at hl1; have hb2 := below_then hb1 hb1.size hb'; clear hb' ho hC1') | (go_at_call 13; refine (c7 _ (hT.below hb2)).mono ?_; rintro e w7 ⟨rfl, hb'⟩; have hb7 := below_then hb2 hb2.size hb'; clear hb'))
  go_ret
  exact ⟨rfl, hb7⟩

set_option maxRecDepth 100000 in
theorem back_ok (s r : ByteArray) (w : World) (hr : marquetrylaw01_few.f s = some r) (hz : r.size ≤ 300) (hT : Tabs w) (hv : validD r.data.toList = true) :
    Calls Tryd.prog 6 #[.string s] w fun e w' => e = .returned (.bool true) ∧ Below w.heap.size w w' := by
  have c1 := marquetrylaw01_few.calls s r w hr
  have c2 := fun w (hT : Tabs w) => decode_ok r w (by omega) hT hv
  have c4 := fun w (hT : Tabs w) => count_any r w (by omega) hT
  have hq : decodeP r = (rl r r.size 0, 0) := by unfold decodeP; rw [hv]; rfl
  rw [hq] at c4
  have c7 := works_any
  have hlen := rl_len r r.size 0
  have HV := Aside0.mk (vf_zero r ▸ hv)
  clear hr hv hq
  obtain ⟨l, hl⟩ : ∃ l, l = rl r r.size 0 := ⟨_, rfl⟩
  rw [← hl] at c2 c4 hlen
  have HL := Aside0.mk hl
  clear hl
  go_enter Tryd.func6, Tryd.ntmps6
  go_wp2_with (first | (go_at_call 10; refine c1.mono ?_; rintro e w1 ⟨rfl, hb1⟩) | (go_at_call 14; refine (c2 _ (hT.below hb1)).mono ?_; rintro e w2 ⟨v, rfl, ho, hb'⟩; obtain ⟨A1, n1, rfl, hl1, hC1'⟩ := Kd.R_reads ho; have hC1 := Aside0.mk hC1'; have hb2 := below_then hb1 hb1.size hb'; clear hb' ho hC1'))
  go_loopg [5, 29] (l.length + 1) (fun gk v5 v29 wr => ∃ (k f pos : Nat), v29 = .int .i64 k ∧ v5 = .string (r.extract 0 pos) ∧ wr = w2 ∧ gk = l.length - k + 1 ∧ k ≤ l.length ∧ Aside0 (l.drop k = rl r f pos ∧ r.size ≤ pos + f ∧ pos ≤ r.size ∧ vf r pos = true))
  case atStart => exact ⟨0, r.size, 0, rfl, by rw [ext_zero], rfl, by omega, by omega, ⟨by rw [HL.out]; rfl, by omega, by omega, HV.out⟩⟩
  case round =>
    obtain ⟨k, f, pos, rfl, rfl, rfl, rfl, hk, HA⟩ := hrel
    by_cases hlt : k < l.length
    · have hp1 : 0 ≤ (k : Int) := by omega
      have hp2 : (k : Int) < (l.length : Int) := by omega
      obtain ⟨ad, e1, hx⟩ := Kd.at_int hC1.out (k : Int) hp1 hp2
      cases e1
      obtain ⟨f', hf, hp, hrd, hdr⟩ := rl_drop HA.out.1 hlt HA.out.2.1
      rw [hrd, Int.toNat_natCast] at hx
      have HA2 := Aside0.mk (And.intro hdr (And.intro hf hp))
      have hadd : ∀ w, (Op.stringOp .add (r.extract 0 pos) (Utf8.encode ((Utf8.decode r pos).1 : Int))).run Tryd.prog w = .ok (.string (r.extract 0 (pos + (Utf8.decode r pos).2))) w := fun w => by
        rw [run_string_add_sum w _ _ (by have := encode_size_le ((Utf8.decode r pos).1 : Int); rw [ByteArray.size_extract]; omega), ext_encode r pos hp (vf_at hp HA.out.2.2.2).1]
      clear hrd hdr hf
      go_wp2
      have hwl := w_le r pos hp
      have hv2 := (vf_at hp HA.out.2.2.2).2
      go_roundg (l.length - (k + 1) + 1)
      case measure => omega
      case rel => exact ⟨k + 1, f', pos + (Utf8.decode r pos).2, by go_num, rfl, rfl, rfl, by omega, ⟨HA2.out.1, by have := HA.out.2.1; have := HA2.out.2.1; have := width_pos r pos; omega, hwl, hv2⟩⟩
    · have hnil : l.drop k = [] := List.drop_eq_nil_of_le (by omega)
      have hle := rl_len_le (HA.out.1.symm.trans hnil) HA.out.2.1
      obtain rfl : pos = r.size := by have := HA.out.2.2.1; omega
      rw [ext_all]
      clear hnil hle
      go_wp2_with (first | (go_at_call 17; refine (c4 _ (hT.below hb2)).mono ?_; rintro e w5 ⟨rfl, hb'⟩; have hb5 := below_then hb2 hb2.size hb'; clear hb') | (go_at_call 13; refine (c7 _ (hT.below hb5)).mono ?_; rintro e w7 ⟨rfl, hb'⟩; have hb7 := below_then hb5 hb5.size hb'; clear hb'))
      go_ret
      exact ⟨rfl, hb7⟩

theorem back_walk (s : ByteArray) (w : World) (hs : s.size ≤ 140737488351232) (hT : Tabs w) :
    Calls Tryd.prog 6 #[.string s] w fun e w' => e = .returned (.bool true) ∧ Below w.heap.size w w' := by
  obtain ⟨r, hr, hz⟩ := few_eq s hs
  cases hv : validD r.data.toList with
  | false => exact back_bad s r w hr hz hT hv
  | true => exact back_ok s r w hr hz hT hv
end Go.Proofs.YtcnmelpnbfdgeaaDoor.RW
