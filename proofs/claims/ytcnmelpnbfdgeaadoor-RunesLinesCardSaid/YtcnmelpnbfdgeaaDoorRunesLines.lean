/- The walk of the law RunesLines: whatever the text, it answers true. -/
import Derived.Test.YtcnmelpnbfdgeaaDoorRunesLaws
import Derived.WalkLawsBesides
namespace Go.Proofs.YtcnmelpnbfdgeaaDoor.RW
set_option linter.unusedVariables false
set_option linter.unusedSimpArgs false
open Go.RowKit Go.Lib Go.Proofs.YtcnmelpnbfdgeaaDoorW.PrintWords Go.Proofs.YtcnmelpnbfdgeaaDoorW.PrintLast Go.Proofs.YtcnmelpnbfdgeaaDoorW.PrintMore Go.Proofs.YtcnmelpnbfdgeaaDoor.RP Go.Proofs.YtcnmelpnbfdgeaaDoor.PAll

theorem lines_bad (s r : ByteArray) (w : World) (hr : marquetrylaw01_few.f s = some r) (hz : r.size ≤ 300) (hT : Tabs w) (hv : validD r.data.toList = false) :
    Calls Tryd.prog 4 #[.string s] w fun e w' => e = .returned (.bool true) ∧ Below w.heap.size w w' := by
  have c1 := marquetrylaw01_few.calls s r w hr
  have c2 := fun w (hT : Tabs w) => decode_bad r w (by omega) hT hv
  have c7 := works_any
  clear hr hv
  go_enter Tryd.func4, Tryd.ntmps4
  go_wp2_with (first | (go_at_call 10; refine c1.mono ?_; rintro e w1 ⟨rfl, hb1⟩) | (go_at_call 14; refine (c2 _ (hT.below hb1)).mono ?_; rintro e w2 ⟨v, rfl, ho, hb'⟩; obtain ⟨A1, n1, rfl, hl1, hC1'⟩ := Kd.R_reads ho; simp only [List.length_nil] at hl1; have hb2 := below_then hb1 hb1.size hb'; clear hb' ho hC1') | (go_at_call 13; refine (c7 _ (hT.below hb2)).mono ?_; rintro e w7 ⟨rfl, hb'⟩; have hb7 := below_then hb2 hb2.size hb'; clear hb'))
  go_ret
  exact ⟨rfl, hb7⟩

theorem get_eq (s : ByteArray) (i : Nat) (h : i < s.size) : s.get! i = s[i]'h := by
  simp [ByteArray.get!, getElem!_pos, h]
  rfl
theorem cnt_yes {s : ByteArray} {i : Nat} (h : i < s.size) (ht : (((s[i]'h).toNat : Int) == 10) = true) : ((cnt s i : Nat) : Int) + 1 = ((cnt s (i + 1) : Nat) : Int) := by
  have e : (s.get! i).toNat = 10 := by rw [get_eq s i h]; simp only [beq_iff_eq] at ht; omega
  rw [cnt, if_pos e]
  omega
theorem cnt_no {s : ByteArray} {i : Nat} (h : i < s.size) (ht : (((s[i]'h).toNat : Int) == 10) = false) : ((cnt s i : Nat) : Int) = ((cnt s (i + 1) : Nat) : Int) := by
  have e : ¬ (s.get! i).toNat = 10 := by rw [get_eq s i h]; simp only [beq_eq_false_iff_ne] at ht; omega
  rw [cnt, if_neg e]
  omega

set_option maxRecDepth 100000 in
theorem lines_ok (s r : ByteArray) (w : World) (hr : marquetrylaw01_few.f s = some r) (hz : r.size ≤ 300) (hT : Tabs w) (hv : validD r.data.toList = true) :
    Calls Tryd.prog 4 #[.string s] w fun e w' => e = .returned (.bool true) ∧ Below w.heap.size w w' := by
  have c1 := marquetrylaw01_few.calls s r w hr
  have c2 := fun w (hT : Tabs w) => decode_ok r w (by omega) hT hv
  have c3 := fun w (hT : Tabs w) (i : Nat) (hi : i ≤ r.size) => place_ok r (i : Int) w (by omega) hT (by omega) (by omega) hv
  have c7 := works_any
  have HV := Aside0.mk (vf_zero r ▸ hv)
  clear hr hv
  go_enter Tryd.func4, Tryd.ntmps4
  go_wp2_with (first | (go_at_call 10; refine c1.mono ?_; rintro e w1 ⟨rfl, hb1⟩) | (go_at_call 14; refine (c2 _ (hT.below hb1)).mono ?_; rintro e w2 ⟨v, rfl, ho, hb'⟩; obtain ⟨A1, n1, rfl, hl1, hC1'⟩ := Kd.R_reads ho; have hb2 := below_then hb1 hb1.size hb'; clear hb' ho hC1' hl1))
  go_loopg [5, 6, 7, 8] (r.size + 2) (fun gk v5 v6 v7 v8 wr => ∃ (i : Nat) (line col ends : Int), v8 = .int .i64 i ∧ v5 = .int .i64 line ∧ v6 = .int .i64 col ∧ v7 = .int .i64 ends ∧ gk + i = r.size + 2 ∧ i ≤ r.size + 1 ∧ Aside0 (Below w.heap.size w wr) ∧ Aside0 ((i ≤ r.size → LinesAt r i line col ∧ ends = cnt r i) ∧ (r.size < i → line = ends + 1 ∧ ends = cnt r r.size)))
  case atStart => exact ⟨0, 1, 1, 0, rfl, rfl, rfl, rfl, rfl, by omega, ⟨hb2⟩, ⟨fun _ => ⟨lines_start r (by omega) HV.out, rfl⟩, fun h => by omega⟩⟩
  case round =>
    obtain ⟨i, line, col, ends, rfl, rfl, rfl, rfl, hgk, hi, HB, HA⟩ := hrel
    by_cases hlt : i ≤ r.size
    · obtain ⟨hL, he⟩ := HA.out.1 hlt
      obtain ⟨l, c, hpl, hl, h1, h2, h3, h4⟩ := lines_tell (by omega) hL
      have cc := c3 wr (hT.below HB.out) i hlt
      rw [hpl] at cc
      subst he
      have hcl := cnt_le r i
      have HA2 := Aside0.mk (And.intro hl h4)
      clear hpl hl h4 hL HA
      rcases (show (l : Int) = line ∨ line < (l : Int) by omega) with hll | hll
      · subst hll
        have hcc := h2 rfl
        clear h2 h3
        go_wp2_with (go_at_call 11; refine cc.mono ?_; rintro e w3 ⟨rfl, hb3'⟩; have HB3 := Aside0.mk (below_then HB.out HB.out.size hb3'); clear hb3')
        · go_roundg (r.size + 2 - (i + 1))
          case measure => omega
          case rel => exact ⟨i + 1, l, c, _, by go_num, rfl, rfl, rfl, by omega, by omega, HB3, ⟨fun _ => ⟨HA2.out.2 ‹_›, cnt_yes ‹_› ‹_›⟩, fun h => by omega⟩⟩
        · go_roundg (r.size + 2 - (i + 1))
          case measure => omega
          case rel => exact ⟨i + 1, l, c, _, by go_num, rfl, rfl, rfl, by omega, by omega, HB3, ⟨fun _ => ⟨HA2.out.2 ‹_›, cnt_no ‹_› ‹_›⟩, fun h => by omega⟩⟩
        · go_roundg (r.size + 2 - (i + 1))
          case measure => omega
          case rel => exact ⟨i + 1, l, c, _, by go_num, rfl, rfl, rfl, by omega, by omega, HB3, ⟨fun h => by omega, fun _ => ⟨by have := HA2.out.1; omega, by rw [show i = r.size by omega]⟩⟩⟩
      · obtain rfl : c = 1 := h3 hll
        clear h2 h3
        go_wp2_with (go_at_call 11; refine cc.mono ?_; rintro e w3 ⟨rfl, hb3'⟩; have HB3 := Aside0.mk (below_then HB.out HB.out.size hb3'); clear hb3')
        · go_roundg (r.size + 2 - (i + 1))
          case measure => omega
          case rel => exact ⟨i + 1, l, 1, _, by go_num, rfl, rfl, rfl, by omega, by omega, HB3, ⟨fun _ => ⟨HA2.out.2 ‹_›, cnt_yes ‹_› ‹_›⟩, fun h => by omega⟩⟩
        · go_roundg (r.size + 2 - (i + 1))
          case measure => omega
          case rel => exact ⟨i + 1, l, 1, _, by go_num, rfl, rfl, rfl, by omega, by omega, HB3, ⟨fun _ => ⟨HA2.out.2 ‹_›, cnt_no ‹_› ‹_›⟩, fun h => by omega⟩⟩
        · go_roundg (r.size + 2 - (i + 1))
          case measure => omega
          case rel => exact ⟨i + 1, l, 1, _, by go_num, rfl, rfl, rfl, by omega, by omega, HB3, ⟨fun h => by omega, fun _ => ⟨by have := HA2.out.1; omega, by rw [show i = r.size by omega]⟩⟩⟩
    · obtain ⟨h1, h2⟩ := HA.out.2 (by omega)
      subst h1
      subst h2
      have hcl := cnt_le r r.size
      clear HA
      go_wp2_with (go_at_call 13; refine (c7 _ (hT.below HB.out)).mono ?_; rintro e w7 ⟨rfl, hb'⟩; have hb7 := below_then HB.out HB.out.size hb'; clear hb')
      go_ret
      exact ⟨rfl, hb7⟩

theorem lines_walk (s : ByteArray) (w : World) (hs : s.size ≤ 140737488351232) (hT : Tabs w) :
    Calls Tryd.prog 4 #[.string s] w fun e w' => e = .returned (.bool true) ∧ Below w.heap.size w w' := by
  obtain ⟨r, hr, hz⟩ := few_eq s hs
  cases hv : validD r.data.toList with
  | false => exact lines_bad s r w hr hz hT hv
  | true => exact lines_ok s r w hr hz hT hv
end Go.Proofs.YtcnmelpnbfdgeaaDoor.RW
