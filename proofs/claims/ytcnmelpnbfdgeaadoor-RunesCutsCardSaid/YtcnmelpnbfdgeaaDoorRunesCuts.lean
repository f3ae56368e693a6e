/- The walk of the law RunesCuts: whatever the text and the place, it answers true. -/
import Derived.Test.YtcnmelpnbfdgeaaDoorRunesLaws
import Derived.WalkLawsBesides
namespace Go.Proofs.YtcnmelpnbfdgeaaDoor.RW
set_option linter.unusedVariables false
set_option linter.unusedSimpArgs false
open Go.RowKit Go.Lib Go.Proofs.YtcnmelpnbfdgeaaDoorW.PrintWords Go.Proofs.YtcnmelpnbfdgeaaDoorW.PrintLast Go.Proofs.YtcnmelpnbfdgeaaDoorW.PrintMore Go.Proofs.YtcnmelpnbfdgeaaDoor.RP Go.Proofs.YtcnmelpnbfdgeaaDoor.PAll

theorem cuts_bad (s r : ByteArray) (n : Int) (w : World) (hr : marquetrylaw01_few.f s = some r) (hz : r.size ≤ 300) (hT : Tabs w) (hv : validD r.data.toList = false) :
    Calls Tryd.prog 7 #[.string s, .int .i64 n] w fun e w' => e = .returned (.bool true) ∧ Below w.heap.size w w' := by
  have c1 := marquetrylaw01_few.calls s r w hr
  have c2 := fun w (hT : Tabs w) => decode_bad r w (by omega) hT hv
  have c3 := fun w (hT : Tabs w) => cut_text r n w (by omega) hT hv
  have c7 := works_any
  clear hr hv
  go_enter Tryd.func7, Tryd.ntmps7
  go_wp2_with (first | (go_at_call 10; refine c1.mono ?_; rintro e w1 ⟨rfl, hb1⟩) | (go_at_call 14; refine (c2 _ (hT.below hb1)).mono ?_; rintro e w2 ⟨v, rfl, ho, hb'⟩; obtain ⟨A1, n1, rfl, hl1, hC1'⟩ := Kd.R_reads ho; simp only [List.length_nil] at hl1; have hb2 := below_then hb1 hb1.size hb'; clear hb' ho hC1') | (go_at_call 19; refine (c3 _ (hT.below hb2)).mono ?_; rintro e w3 ⟨rfl, hb'⟩; have hb3 := below_then hb2 hb2.size hb'; clear hb') | (go_at_call 13; refine (c7 _ (hT.below hb3)).mono ?_; rintro e w7 ⟨rfl, hb'⟩; have hb7 := below_then hb3 hb3.size hb'; clear hb'))
  go_ret
  exact ⟨rfl, hb7⟩

theorem cuts_num (n : Int) (m : Nat) (hm : m ≤ 300) : ∃ N : Nat, (wrap64 (wrap64 (n.tmod ((m : Int) + 1) + (m : Int)) + 1)).tmod ((m : Int) + 1) = (N : Int) ∧ N ≤ m := by
  have h1 := Int.lt_tmod_of_pos n (show (0 : Int) < (m : Int) + 1 by omega)
  have h2 := Int.tmod_lt_of_pos n (show (0 : Int) < (m : Int) + 1 by omega)
  generalize n.tmod ((m : Int) + 1) = z at h1 h2 ⊢
  rw [w64 (x := z + (m : Int)) (by omega) (by omega), w64 (by omega) (by omega), Int.tmod_eq_emod_of_nonneg (by omega)]
  have h3 := Int.emod_nonneg (z + (m : Int) + 1) (show (m : Int) + 1 ≠ 0 by omega)
  have h4 := Int.emod_lt_of_pos (z + (m : Int) + 1) (show (0 : Int) < (m : Int) + 1 by omega)
  exact ⟨((z + (m : Int) + 1) % ((m : Int) + 1)).toNat, by omega, by omega⟩

/-- What the law cuts: the first part, the second, and their runes. -/
theorem cuts_parts (r : ByteArray) (l : List Int) (hv : validD r.data.toList = true) (hl : rl r r.size 0 = l) (N : Nat) (hN : N ≤ l.length) :
    ∃ (a b : ByteArray) (x y : List Int), cutP r N = a ∧ a.size ≤ r.size ∧ r.extract 0 a.size = a ∧ r.extract a.size r.size = b ∧ validD a.data.toList = true ∧ validD b.data.toList = true ∧ rl a a.size 0 = x ∧ rl b b.size 0 = y ∧ x.length = N ∧ x ++ y = l := by
  obtain ⟨P, g1, g2, g3, g4, g5, g6⟩ := cut_two r hv N (by rw [hl]; exact hN)
  rw [hl] at g4 g6
  have hz : (r.extract 0 P).size = P := by rw [ByteArray.size_extract]; omega
  refine ⟨r.extract 0 P, r.extract P r.size, l.take N, l.drop N, g2, by omega, by rw [hz], by rw [hz], g3, g5, g4, g6, by rw [List.length_take]; omega, List.take_append_drop _ _⟩

set_option maxRecDepth 100000 in
theorem cuts_ok (s r : ByteArray) (n : Int) (w : World) (hr : marquetrylaw01_few.f s = some r) (hz : r.size ≤ 300) (hT : Tabs w) (hv : validD r.data.toList = true) :
    Calls Tryd.prog 7 #[.string s, .int .i64 n] w fun e w' => e = .returned (.bool true) ∧ Below w.heap.size w w' := by
  have c1 := marquetrylaw01_few.calls s r w hr
  have c2 := fun w (hT : Tabs w) => decode_ok r w (by omega) hT hv
  have hlen := rl_len r r.size 0
  clear hr
  generalize hl : rl r r.size 0 = l at c2 hlen
  have HL := Aside0.mk hl
  clear hl
  have hl0 : l.length ≤ 300 := by omega
  clear hlen
  go_enter Tryd.func7, Tryd.ntmps7
  go_wp2_with (first | (go_at_call 10; refine c1.mono ?_; rintro e w1 ⟨rfl, hb1⟩) | (go_at_call 14; refine (c2 _ (hT.below hb1)).mono ?_; rintro e w2 ⟨v, rfl, ho, hb'⟩; obtain ⟨A1, n1, rfl, hl1, hC1'⟩ := Kd.R_reads ho; have hC1 := Aside0.mk hC1'; have hb2 := below_then hb1 hb1.size hb'; clear hb' ho hC1'))
  obtain ⟨N, hN, hNl⟩ := cuts_num n l.length hl0
  rw [hN]
  obtain ⟨a, b, x, y, ha, haz, hae, hbe, hva, hvb, hxa, hyb, hxl, hxy⟩ := cuts_parts r l hv HL.out N hNl
  have hbz : b.size ≤ r.size := by rw [← hbe, ByteArray.size_extract]; omega
  have c3 := fun w (hT : Tabs w) => cut_any r (N : Int) w (by omega) hT
  rw [ha] at c3
  have c4 := fun w (hT : Tabs w) => decode_ok a w (by omega) hT hva
  have c5 := fun w (hT : Tabs w) => decode_ok b w (by omega) hT hvb
  rw [hxa] at c4
  rw [hyb] at c5
  have c7 := works_any
  have HS := Aside0.mk (same_eq l (by omega))
  subst hxl
  clear hN hNl ha hva hvb hxa hyb hbz HL hv c2
  have HXY := Aside0.mk hxy
  have HL0 := Aside0.mk hl0
  clear hxy hl0
  go_wp2_with (first
    | (go_at_call 19; (with_reducible refine (c3 _ (hT.below hb2)).mono ?_); rintro e w3 ⟨rfl, hb'⟩; have hb3 := below_then hb2 hb2.size hb'; have hC1' := Aside0.mk (Kd.C_below hC1.out hb'); clear hb')
    | (go_at_call 14; (with_reducible refine (c4 _ (hT.below hb3)).mono ?_); rintro e w4 ⟨v, rfl, ho, hb'⟩; obtain ⟨A2, n2, rfl, hl2, hC2'⟩ := Kd.R_reads ho; have hC2 := Aside0.mk hC2'; have hb4 := below_then hb3 hb3.size hb'; have hC3 := Aside0.mk (Kd.C_below hC1'.out hb'); clear hb' ho hC2')
    | (go_at_call 14; (with_reducible refine (c5 _ (hT.below hb4)).mono ?_); rintro e w5 ⟨v, rfl, ho, hb'⟩; obtain ⟨A3, n3, rfl, hl3, hC4'⟩ := Kd.R_reads ho; have hC4 := Aside0.mk hC4'; have hb5 := below_then hb4 hb4.size hb'; have hC5 := Aside0.mk (Kd.C_below hC3.out hb'); have hC6 := Aside0.mk (Kd.C_below hC2.out hb'); clear hb' ho hC4')
    | ((with_reducible refine gate_dst (N := 83) rfl ?_); (try (refine gate_guard (by rfl) ?_; dsimp only)); refine Kd.R_lit (Kd.int .i32) (w0 := w5) w5.heap.size 21 rfl rfl (xs := []) (inner := []) (ok := fun _ => True) (okp := fun _ => False) (by first | (go_simp; done) | (go_simp; rfl)) ?rep (fun _ h => h.elim) trivial ?HB ?base (by simp) ?_; (case rep => exact ⟨rfl, fun j p h => by simp at h⟩); (case HB => exact Below.refl _ _); (case base => exact Nat.le_refl _); intro v1 w6 ho hb hg hat; have HO1 := Aside0.mk ho; have HB6 := Aside0.mk hb; clear ho hb hg hat)
    | ((with_reducible refine gate_builtin (b := .append) (xs := #[.tmp 83, .tmp 84]) rfl ?_); at_builtin; (try (refine gate_guard (by rfl) ?_; dsimp only)); refine Kd.R_append_rows (Kd.int .i32) (Rr := (Kd.int .i32).K w6) (w0 := w5) w5.heap.size rfl (.tmp 83) (.tmp 84) 30 21 (.int .i32 0) 4 rfl Tryd.underlying30 info32 rfl (by decide) (by omega) v1 [] x A2 x.length n2 (fun _ => True) (fun _ => False) rfl rfl HO1.out ?HR (fun _ _ h => h) (fun _ h => h.elim) (fun _ _ => trivial) HB6.out HB6.out.size ?len ?_; (case HR => exact Kd.C_below hC6.out HB6.out); (case len => have := congrArg List.length HXY.out; have := HL0.out; simp at *; omega); intro v2 w7 ho hb hg hat; have HO2 := Aside0.mk ho; have HB7 := Aside0.mk hb; clear ho hb hg hat)
    | ((with_reducible refine gate_builtin (b := .append) (xs := #[.tmp 85, .tmp 86]) rfl ?_); at_builtin; (try (refine gate_guard (by rfl) ?_; dsimp only)); refine Kd.R_append_rows (Kd.int .i32) (Rr := (Kd.int .i32).K w7) (w0 := w5) w5.heap.size rfl (.tmp 85) (.tmp 86) 30 21 (.int .i32 0) 4 rfl Tryd.underlying30 info32 rfl (by decide) (by omega) v2 ([] ++ x) y A3 y.length n3 (fun _ => True) (fun _ => False) rfl rfl HO2.out ?HR (fun _ _ h => h) (fun _ h => h.elim) (fun _ _ => trivial) HB7.out HB7.out.size ?len ?_; (case HR => exact Kd.C_below hC4.out HB7.out); (case len => have := congrArg List.length HXY.out; have := HL0.out; simp at *; omega); intro v3 w8 ho hb hg hat; rw [List.nil_append, HXY.out] at ho; obtain ⟨A4, n4, rfl, hl4, hC7'⟩ := Kd.R_reads ho; have hC7 := Aside0.mk hC7'; have HB8 := Aside0.mk hb; clear ho hb hg hat hC7')
    | (go_at_call 16; refine (marquetryref01_Same.calls _ A4 n4 l A1 n1 l true _ hC7.out hl4 (Kd.C_below hC5.out HB8.out) hl1 HS.out).mono ?_; rintro e w9 ⟨rfl, ⟨nd, rfl⟩⟩; have hb9 := pw_below_drewN (below_then hb5 hb5.size HB8.out) nd)
    | (go_at_call 13; refine (c7 _ (hT.below hb9)).mono ?_; rintro e w10 ⟨rfl, hb'⟩; have hb10 := below_then hb9 hb9.size hb'; clear hb'))
  go_ret
  exact ⟨rfl, hb10⟩

theorem cuts_walk (s : ByteArray) (n : Int) (w : World) (hs : s.size ≤ 140737488351232) (hT : Tabs w) :
    Calls Tryd.prog 7 #[.string s, .int .i64 n] w fun e w' => e = .returned (.bool true) ∧ Below w.heap.size w w' := by
  obtain ⟨r, hr, hz⟩ := few_eq s hs
  cases hv : validD r.data.toList with
  | false => exact cuts_bad s r n w hr hz hT hv
  | true => exact cuts_ok s r n w hr hz hT hv
end Go.Proofs.YtcnmelpnbfdgeaaDoor.RW
