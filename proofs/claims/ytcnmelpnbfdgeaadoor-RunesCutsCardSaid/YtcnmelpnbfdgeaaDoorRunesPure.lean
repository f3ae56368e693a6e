/- Plain laws under layer 1 (runes), without the program's memory: that the reference's 'next' is the model's own decoder. No condition. -/
import Derived.Test.YtcnmelpnbfdgeaaDoorPAllx
import Derived.Lib.ValidLaws
import Derived.Lib.MapLaws
import Derived.Lib.DecodeN
namespace Go.Proofs.YtcnmelpnbfdgeaaDoor.RP
set_option linter.unusedVariables false
set_option linter.unusedSimpArgs false
open Go.RowKit Go.Lib Go.Proofs.YtcnmelpnbfdgeaaDoorW.PrintWords Go.Proofs.YtcnmelpnbfdgeaaDoorW.PrintLast Go.Proofs.YtcnmelpnbfdgeaaDoorW.PrintMore Go.Proofs.YtcnmelpnbfdgeaaDoor.PAll

theorem w64 {x : Int} (h0 : -9223372036854775808 ≤ x) (h1 : x ≤ 9223372036854775807) : wrap64 x = x := by unfold wrap64; omega
theorem w32 {x : Int} (h0 : -2147483648 ≤ x) (h1 : x ≤ 2147483647) : wrap32 x = x := by unfold wrap32; omega

theorem w64n (a b : Nat) (h : a + b ≤ 9000000) : wrap64 ((a : Int) + (b : Int)) = ((a + b : Nat) : Int) := by rw [w64] <;> omega
theorem w64s (a : Nat) (h : a ≤ 9000000) : wrap64 ((a : Int) + 1) = ((a + 1 : Nat) : Int) := by rw [w64] <;> omega

theorem bt_get (s : ByteArray) (i : Nat) (h : i < s.size) : bt s (i : Int) = ((s.get! i).toNat : Int) := by
  have e : s.get! i = s[i]'h := by simp [ByteArray.get!, getElem!_pos, h]; rfl
  rw [e]
  simp [bt, h]

/-- What the reference's 'next' tells at a place within the text. -/
def nx (s : ByteArray) (i : Nat) : Int × Int := if (Utf8.decode s i).1 = 65533 ∧ (Utf8.decode s i).2 = 1 then (0, 0) else ((Utf8.decode s i).1, (Utf8.decode s i).2)

theorem l0_stop (s : ByteArray) (i n x m : Int) (k : Nat) :
    marquetryref01_next.l0 (k + 1) s i n x m n = some (if x < m ∨ x > 1114111 ∨ (55296 ≤ x ∧ x ≤ 57343) then (0, 0) else (wrap32 x, n)) := by
  simp only [marquetryref01_next.l0]
  rw [if_neg (Int.lt_irrefl n)]
  by_cases h1 : x < m
  · rw [if_pos h1, if_pos (Or.inl h1)]
  · rw [if_neg h1]
    by_cases h2 : x > 1114111
    · rw [if_pos h2, if_pos (Or.inr (Or.inl h2))]
    · rw [if_neg h2]
      by_cases h3 : x ≥ 55296
      · rw [if_pos h3]
        by_cases h4 : x ≤ 57343
        · rw [if_pos h4, if_pos (Or.inr (Or.inr ⟨h3, h4⟩))]
        · rw [if_neg h4, if_neg (by omega)]
      · rw [if_neg h3, if_neg (by omega)]

theorem l0_go (s : ByteArray) (i j : Nat) (n x m : Int) (c : Nat) (k : Nat) (hj : (j : Int) < n) (hi : i + j < s.size) (hs : s.size ≤ 140737488351232) (hc : (s.get! (i + j)).toNat = c)
    (hx0 : 0 ≤ x) (hx1 : x ≤ 1000000) :
    marquetryref01_next.l0 (k + 1) s (i : Int) n x m (j : Int) = if c < 128 ∨ 191 < c then some (0, 0) else marquetryref01_next.l0 k s (i : Int) n (64 * x + c - 128) m ((j + 1 : Nat) : Int) := by
  have hlt : c < 256 := by rw [← hc]; exact UInt8.toNat_lt _
  have e1 : wrap64 ((i : Int) + (j : Int)) = ((i + j : Nat) : Int) := by rw [w64] <;> omega
  have e2 : wrap64 (bt s ((i + j : Nat) : Int)) = (c : Int) := by rw [bt_get s _ hi, hc, w64] <;> omega
  have e3 : wrap64 (64 * x) = 64 * x := by rw [w64] <;> omega
  have e4 : wrap64 (64 * x + (c : Int)) = 64 * x + (c : Int) := by clear e1 e2 e3; rw [w64] <;> omega
  have e5 : wrap64 (64 * x + (c : Int) - 128) = 64 * x + (c : Int) - 128 := by clear e1 e2 e3 e4; rw [w64] <;> omega
  have e6 : wrap64 ((j : Int) + 1) = ((j + 1 : Nat) : Int) := by clear e1 e2 e3 e4 e5; rw [w64] <;> omega
  simp only [marquetryref01_next.l0]
  rw [e1, e2, e3, e4, e5, e6]
  clear e1 e2 e3 e4 e5 e6 hc
  rw [if_pos hj, if_pos (by omega), if_pos (by omega)]
  by_cases h1 : c < 128
  · rw [if_pos (by omega), if_pos (Or.inl h1)]
  · rw [if_neg (by omega)]
    by_cases h2 : 191 < c
    · rw [if_pos (by omega), if_pos (Or.inr h2)]
    · rw [if_neg (by omega), if_neg (by omega)]

/-- 'next' behind the lead byte. -/
theorem j2_zero (s : ByteArray) (i x m : Int) (k : Nat) : marquetryref01_next.j2 (k + 2) s i 0 x m = some (0, 0) := by
  simp only [marquetryref01_next.j2, marquetryref01_next.j3, if_true]
theorem j2_short (s : ByteArray) (i : Nat) (n x m : Int) (k : Nat) (hn : n ≠ 0) (hs : s.size ≤ 140737488351232) (hi : i < s.size) (h : (s.size : Int) - (i : Int) < n) :
    marquetryref01_next.j2 (k + 2) s (i : Int) n x m = some (0, 0) := by
  have e : wrap64 ((s.size : Int) - (i : Int)) = (s.size : Int) - (i : Int) := by rw [w64] <;> omega
  simp only [marquetryref01_next.j2, marquetryref01_next.j3]
  rw [if_neg hn, e, decide_eq_true h]
  simp
theorem j2_long (s : ByteArray) (i : Nat) (n x m : Int) (k : Nat) (hn : n ≠ 0) (hs : s.size ≤ 140737488351232) (hi : i < s.size) (h : ¬ (s.size : Int) - (i : Int) < n) :
    marquetryref01_next.j2 (k + 2) s (i : Int) n x m = marquetryref01_next.l0 k s (i : Int) n x m 1 := by
  have e : wrap64 ((s.size : Int) - (i : Int)) = (s.size : Int) - (i : Int) := by rw [w64] <;> omega
  simp only [marquetryref01_next.j2, marquetryref01_next.j3]
  rw [if_neg hn, e, decide_eq_false h]
  simp

def nn (d : Nat × Nat) : Int × Int := if d.1 = 65533 ∧ d.2 = 1 then (0, 0) else (d.1, d.2)

theorem two (s : ByteArray) (i : Nat) (b0 b1 b2 b3 : Nat) (k : Nat) (hi : i < s.size) (hs : s.size ≤ 140737488351232) (h1 : (s.get! (i + 1)).toNat = b1) (ha : 194 ≤ b0) (hb : b0 < 224) :
    marquetryref01_next.j2 (k + 4) s (i : Int) 2 ((b0 : Int) - 192) 128 = some (nn (decodeN (s.size - i) b0 b1 b2 b3)) := by
  have hd : decodeN (s.size - i) b0 b1 b2 b3 = if 1 < s.size - i ∧ b1 / 64 = 2 then (b0 % 32 * 64 + b1 % 64, 2) else (65533, 1) := by
    unfold decodeN
    rw [if_neg (by omega)]
    by_cases hc : 1 < s.size - i ∧ b1 / 64 = 2
    · rw [if_pos ⟨by omega, hc⟩, if_pos (by omega), if_pos hc]
    · rw [if_neg (fun h => hc h.2), if_neg (by omega), if_neg (by omega), if_neg hc]
  rw [hd]
  have l1 : b1 < 256 := by rw [← h1]; exact UInt8.toNat_lt _
  by_cases hl : (s.size : Int) - (i : Int) < 2
  · rw [j2_short s i 2 _ _ (k + 2) (by omega) hs hi hl, if_neg (by omega)]
    rfl
  · rw [j2_long s i 2 _ _ (k + 2) (by omega) hs hi hl]
    have g := l0_go s i 1 2 ((b0 : Int) - 192) 128 b1 (k + 1) (by omega) (by omega) hs h1 (by omega) (by omega)
    have g' : marquetryref01_next.l0 (k + 2) s (i : Int) 2 ((b0 : Int) - 192) 128 1 = _ := g
    rw [g']
    by_cases hc : b1 < 128 ∨ 191 < b1
    · rw [if_pos hc, if_neg (by omega)]
      rfl
    · rw [if_neg hc, if_pos (by omega)]
      have g2 := l0_stop s (i : Int) 2 (64 * ((b0 : Int) - 192) + b1 - 128) 128 k
      have g2' : marquetryref01_next.l0 (k + 1) s (i : Int) 2 (64 * ((b0 : Int) - 192) + b1 - 128) 128 ((1 + 1 : Nat) : Int) = _ := g2
      rw [g2', if_neg (by omega), w32 (by omega) (by omega)]
      unfold nn
      rw [if_neg (by simp only; omega)]
      simp only [Option.some.injEq, Prod.mk.injEq]
      omega

theorem three (s : ByteArray) (i : Nat) (b0 b1 b2 b3 : Nat) (k : Nat) (hi : i < s.size) (hs : s.size ≤ 140737488351232) (h1 : (s.get! (i + 1)).toNat = b1) (h2 : (s.get! (i + 2)).toNat = b2) (ha : 224 ≤ b0) (hb : b0 < 240) :
    marquetryref01_next.j2 (k + 5) s (i : Int) 3 ((b0 : Int) - 224) 2048 = some (nn (decodeN (s.size - i) b0 b1 b2 b3)) := by
  have hd : decodeN (s.size - i) b0 b1 b2 b3 = if (1 < s.size - i ∧ b1 / 64 = 2) ∧ (2 < s.size - i ∧ b2 / 64 = 2) then
      (if b0 % 16 * 4096 + b1 % 64 * 64 + b2 % 64 ≥ 2048 ∧ (b0 % 16 * 4096 + b1 % 64 * 64 + b2 % 64 < 55296 ∨ (57344 ≤ b0 % 16 * 4096 + b1 % 64 * 64 + b2 % 64 ∧ b0 % 16 * 4096 + b1 % 64 * 64 + b2 % 64 ≤ 1114111)) then (b0 % 16 * 4096 + b1 % 64 * 64 + b2 % 64, 3) else (65533, 1)) else (65533, 1) := by
    unfold decodeN
    rw [if_neg (by omega), if_neg (by omega)]
    by_cases hc : (1 < s.size - i ∧ b1 / 64 = 2) ∧ (2 < s.size - i ∧ b2 / 64 = 2)
    · rw [if_pos ⟨by omega, hc⟩, if_pos hc]
    · rw [if_neg (fun h => hc h.2), if_neg (by omega), if_neg hc]
  rw [hd]
  clear hd
  have l1 : b1 < 256 := by rw [← h1]; exact UInt8.toNat_lt _
  have l2 : b2 < 256 := by rw [← h2]; exact UInt8.toNat_lt _
  by_cases hl : (s.size : Int) - (i : Int) < 3
  · rw [j2_short s i 3 _ _ (k + 3) (by omega) hs hi hl, if_neg (by omega)]
    rfl
  · rw [j2_long s i 3 _ _ (k + 3) (by omega) hs hi hl]
    have g' : marquetryref01_next.l0 (k + 3) s (i : Int) 3 ((b0 : Int) - 224) 2048 1 = _ := l0_go s i 1 3 ((b0 : Int) - 224) 2048 b1 (k + 2) (by omega) (by omega) hs h1 (by omega) (by omega)
    rw [g']
    by_cases hc : b1 < 128 ∨ 191 < b1
    · rw [if_pos hc, if_neg (by omega)]
      rfl
    · rw [if_neg hc]
      have g2' := l0_go s i 2 3 (64 * ((b0 : Int) - 224) + b1 - 128) 2048 b2 (k + 1) (by omega) (by omega) hs h2 (by omega) (by omega)
      have g2 : marquetryref01_next.l0 (k + 2) s (i : Int) 3 (64 * ((b0 : Int) - 224) + b1 - 128) 2048 ((1 + 1 : Nat) : Int) = _ := g2'
      rw [g2]
      by_cases hc2 : b2 < 128 ∨ 191 < b2
      · rw [if_pos hc2, if_neg (by omega)]
        rfl
      · rw [if_neg hc2, if_pos (by omega)]
        have g3 : marquetryref01_next.l0 (k + 1) s (i : Int) 3 (64 * (64 * ((b0 : Int) - 224) + b1 - 128) + b2 - 128) 2048 ((2 + 1 : Nat) : Int) = _ := l0_stop s (i : Int) 3 (64 * (64 * ((b0 : Int) - 224) + b1 - 128) + b2 - 128) 2048 k
        rw [g3]
        clear g' g2 g2' g3
        by_cases hv : b0 % 16 * 4096 + b1 % 64 * 64 + b2 % 64 ≥ 2048 ∧ (b0 % 16 * 4096 + b1 % 64 * 64 + b2 % 64 < 55296 ∨ (57344 ≤ b0 % 16 * 4096 + b1 % 64 * 64 + b2 % 64 ∧ b0 % 16 * 4096 + b1 % 64 * 64 + b2 % 64 ≤ 1114111))
        · rw [if_pos hv, if_neg (by omega), w32 (by omega) (by omega)]
          unfold nn
          rw [if_neg (by simp only; omega)]
          simp only [Option.some.injEq, Prod.mk.injEq]
          omega
        · rw [if_neg hv, if_pos (by omega)]
          rfl

theorem four (s : ByteArray) (i : Nat) (b0 b1 b2 b3 : Nat) (k : Nat) (hi : i < s.size) (hs : s.size ≤ 140737488351232) (h1 : (s.get! (i + 1)).toNat = b1) (h2 : (s.get! (i + 2)).toNat = b2) (h3 : (s.get! (i + 3)).toNat = b3)
    (ha : 240 ≤ b0) (hb : b0 < 245) :
    marquetryref01_next.j2 (k + 6) s (i : Int) 4 ((b0 : Int) - 240) 65536 = some (nn (decodeN (s.size - i) b0 b1 b2 b3)) := by
  have hd : decodeN (s.size - i) b0 b1 b2 b3 = if (1 < s.size - i ∧ b1 / 64 = 2) ∧ (2 < s.size - i ∧ b2 / 64 = 2) ∧ (3 < s.size - i ∧ b3 / 64 = 2) then
      (if b0 % 8 * 262144 + b1 % 64 * 4096 + b2 % 64 * 64 + b3 % 64 ≥ 65536 ∧ (b0 % 8 * 262144 + b1 % 64 * 4096 + b2 % 64 * 64 + b3 % 64 < 55296 ∨ (57344 ≤ b0 % 8 * 262144 + b1 % 64 * 4096 + b2 % 64 * 64 + b3 % 64 ∧ b0 % 8 * 262144 + b1 % 64 * 4096 + b2 % 64 * 64 + b3 % 64 ≤ 1114111)) then (b0 % 8 * 262144 + b1 % 64 * 4096 + b2 % 64 * 64 + b3 % 64, 4) else (65533, 1)) else (65533, 1) := by
    unfold decodeN
    rw [if_neg (by omega), if_neg (by omega), if_neg (by omega)]
    by_cases hc : (1 < s.size - i ∧ b1 / 64 = 2) ∧ (2 < s.size - i ∧ b2 / 64 = 2) ∧ (3 < s.size - i ∧ b3 / 64 = 2)
    · rw [if_pos ⟨by omega, hc⟩, if_pos hc]
    · rw [if_neg (fun h => hc h.2), if_neg hc]
  rw [hd]
  clear hd
  have l1 : b1 < 256 := by rw [← h1]; exact UInt8.toNat_lt _
  have l2 : b2 < 256 := by rw [← h2]; exact UInt8.toNat_lt _
  have l3 : b3 < 256 := by rw [← h3]; exact UInt8.toNat_lt _
  by_cases hl : (s.size : Int) - (i : Int) < 4
  · rw [j2_short s i 4 _ _ (k + 4) (by omega) hs hi hl, if_neg (by omega)]
    rfl
  · rw [j2_long s i 4 _ _ (k + 4) (by omega) hs hi hl]
    have g' : marquetryref01_next.l0 (k + 4) s (i : Int) 4 ((b0 : Int) - 240) 65536 1 = _ := l0_go s i 1 4 ((b0 : Int) - 240) 65536 b1 (k + 3) (by omega) (by omega) hs h1 (by omega) (by omega)
    rw [g']
    by_cases hc : b1 < 128 ∨ 191 < b1
    · rw [if_pos hc, if_neg (by omega)]
      rfl
    · rw [if_neg hc]
      have g2 : marquetryref01_next.l0 (k + 3) s (i : Int) 4 (64 * ((b0 : Int) - 240) + b1 - 128) 65536 ((1 + 1 : Nat) : Int) = _ := l0_go s i 2 4 (64 * ((b0 : Int) - 240) + b1 - 128) 65536 b2 (k + 2) (by omega) (by omega) hs h2 (by omega) (by omega)
      rw [g2]
      by_cases hc2 : b2 < 128 ∨ 191 < b2
      · rw [if_pos hc2, if_neg (by omega)]
        rfl
      · rw [if_neg hc2]
        have g3 : marquetryref01_next.l0 (k + 2) s (i : Int) 4 (64 * (64 * ((b0 : Int) - 240) + b1 - 128) + b2 - 128) 65536 ((2 + 1 : Nat) : Int) = _ := l0_go s i 3 4 (64 * (64 * ((b0 : Int) - 240) + b1 - 128) + b2 - 128) 65536 b3 (k + 1) (by omega) (by omega) hs h3 (by omega) (by omega)
        rw [g3]
        by_cases hc3 : b3 < 128 ∨ 191 < b3
        · rw [if_pos hc3, if_neg (by omega)]
          rfl
        · rw [if_neg hc3, if_pos (by omega)]
          have g4 : marquetryref01_next.l0 (k + 1) s (i : Int) 4 (64 * (64 * (64 * ((b0 : Int) - 240) + b1 - 128) + b2 - 128) + b3 - 128) 65536 ((3 + 1 : Nat) : Int) = _ := l0_stop s (i : Int) 4 (64 * (64 * (64 * ((b0 : Int) - 240) + b1 - 128) + b2 - 128) + b3 - 128) 65536 k
          rw [g4]
          clear g' g2 g3 g4
          by_cases hv : b0 % 8 * 262144 + b1 % 64 * 4096 + b2 % 64 * 64 + b3 % 64 ≥ 65536 ∧ (b0 % 8 * 262144 + b1 % 64 * 4096 + b2 % 64 * 64 + b3 % 64 < 55296 ∨ (57344 ≤ b0 % 8 * 262144 + b1 % 64 * 4096 + b2 % 64 * 64 + b3 % 64 ∧ b0 % 8 * 262144 + b1 % 64 * 4096 + b2 % 64 * 64 + b3 % 64 ≤ 1114111))
          · rw [if_pos hv, if_neg (by omega), w32 (by omega) (by omega)]
            unfold nn
            rw [if_neg (by simp only; omega)]
            simp only [Option.some.injEq, Prod.mk.injEq]
            omega
          · rw [if_neg hv, if_pos (by omega)]
            rfl

theorem none_ (n b0 b1 b2 b3 : Nat) (h : 128 ≤ b0 ∧ b0 < 194 ∨ 245 ≤ b0) : decodeN n b0 b1 b2 b3 = (65533, 1) := by
  unfold decodeN
  repeat' split
  all_goals first | rfl | (exfalso; omega)

theorem next_eq (s : ByteArray) (i : Nat) (hi : i < s.size) (hs : s.size ≤ 140737488351232) (k : Nat) : marquetryref01_next.f (k + 9) s (i : Int) = some (nx s i) := by
  have hb0 := bt_get s i hi
  have l0 := UInt8.toNat_lt (s.get! i)
  have l1 := UInt8.toNat_lt (s.get! (i + 1))
  have l2 := UInt8.toNat_lt (s.get! (i + 2))
  have l3 := UInt8.toNat_lt (s.get! (i + 3))
  show _ = some (nn (Utf8.decode s i))
  rw [decode_at]
  have g1 := two s i (s.get! i).toNat (s.get! (i + 1)).toNat (s.get! (i + 2)).toNat (s.get! (i + 3)).toNat (k + 4) hi hs rfl
  have g2 := three s i (s.get! i).toNat (s.get! (i + 1)).toNat (s.get! (i + 2)).toNat (s.get! (i + 3)).toNat (k + 2) hi hs rfl rfl
  have g3 := four s i (s.get! i).toNat (s.get! (i + 1)).toNat (s.get! (i + 2)).toNat (s.get! (i + 3)).toNat (k + 1) hi hs rfl rfl rfl
  have g4 := none_ (s.size - i) (s.get! i).toNat (s.get! (i + 1)).toNat (s.get! (i + 2)).toNat (s.get! (i + 3)).toNat
  unfold marquetryref01_next.f
  rw [hb0]
  clear hb0
  generalize (s.get! i).toNat = b0 at *
  generalize (s.get! (i + 1)).toNat = b1 at *
  generalize (s.get! (i + 2)).toNat = b2 at *
  generalize (s.get! (i + 3)).toNat = b3 at *
  have eb : wrap64 (b0 : Int) = (b0 : Int) := w64 (by omega) (by omega)
  rw [eb, if_pos (by omega), if_pos (by omega)]
  clear eb
  by_cases h1 : b0 < 128
  · rw [if_pos (by omega)]
    have : decodeN (s.size - i) b0 b1 b2 b3 = (b0, 1) := by unfold decodeN; rw [if_pos h1]
    rw [this, w32 (by omega) (by omega)]
    unfold nn
    rw [if_neg (by simp only; omega)]
    rfl
  · rw [if_neg (by omega)]
    by_cases h2 : b0 < 194
    · rw [if_neg (by omega), g4 (by omega)]
      simp only [marquetryref01_next.j0, Bool.false_eq_true, if_false]
      rw [if_neg (by omega)]
      simp only [marquetryref01_next.j1, Bool.false_eq_true, if_false]
      rw [if_neg (by omega)]
      exact j2_zero s (i : Int) _ _ (k + 5)
    · rw [if_pos (by omega)]
      by_cases h3 : b0 < 224
      · rw [decide_eq_true (by omega)]
        have e : wrap64 ((b0 : Int) - 192) = (b0 : Int) - 192 := w64 (by omega) (by omega)
        simp only [marquetryref01_next.j0, if_true]
        rw [e]
        exact g1 (by omega) h3
      · rw [decide_eq_false (by omega)]
        simp only [marquetryref01_next.j0, Bool.false_eq_true, if_false]
        rw [if_pos (by omega)]
        by_cases h4 : b0 < 240
        · rw [decide_eq_true (by omega)]
          have e : wrap64 ((b0 : Int) - 224) = (b0 : Int) - 224 := w64 (by omega) (by omega)
          simp only [marquetryref01_next.j1, if_true]
          rw [e]
          exact g2 (by omega) h4
        · rw [decide_eq_false (by omega)]
          simp only [marquetryref01_next.j1, Bool.false_eq_true, if_false]
          rw [if_pos (by omega)]
          by_cases h5 : b0 < 245
          · have e : wrap64 ((b0 : Int) - 240) = (b0 : Int) - 240 := w64 (by omega) (by omega)
            rw [if_pos (by omega), e]
            exact g3 (by omega) h5
          · rw [if_neg (by omega), g4 (by omega)]
            exact j2_zero s (i : Int) _ _ (k + 5)

/-! ### the text from a place on: its runes, whether it is valid -/
/-- Is the text valid from a place on? -/
def vf (s : ByteArray) (pos : Nat) : Bool := validD (s.data.toList.drop pos)
/-- The runes from a place on, at most so many. -/
def rl (s : ByteArray) : Nat → Nat → List Int
  | 0, _ => []
  | f + 1, pos => if pos < s.size then ((Utf8.decode s pos).1 : Int) :: rl s f (pos + (Utf8.decode s pos).2) else []
theorem drop_ne (s : ByteArray) (pos : Nat) (h : pos < s.size) : s.data.toList.drop pos ≠ [] := by
  intro e
  have := congrArg List.length e
  rw [List.length_drop] at this
  have h2 : s.data.toList.length = s.size := Array.length_toList
  simp only [List.length_nil] at this
  omega
theorem vf_step (s : ByteArray) (pos : Nat) (h : pos < s.size) : vf s pos = if (Utf8.decode s pos).1 = 65533 ∧ (Utf8.decode s pos).2 = 1 then false else vf s (pos + (Utf8.decode s pos).2) := by
  unfold vf
  rw [validD_step _ (drop_ne s pos h), decodeL_drop, List.drop_drop]
theorem vf_end (s : ByteArray) (pos : Nat) (h : ¬ pos < s.size) : vf s pos = true := by
  unfold vf
  rw [List.drop_eq_nil_of_le (by have h2 : s.data.toList.length = s.size := Array.length_toList
                                 omega)]
  rfl
theorem vf_zero (s : ByteArray) : vf s 0 = validD s.data.toList := by unfold vf; rw [List.drop_zero]
theorem w_le (s : ByteArray) (pos : Nat) (h : pos < s.size) : pos + (Utf8.decode s pos).2 ≤ s.size := by
  have := decodeL_le (s.data.toList.drop pos) (drop_ne s pos h)
  rw [decodeL_drop, List.length_drop] at this
  have h2 : s.data.toList.length = s.size := Array.length_toList
  omega
/-- What is valid at a place is as wide as its rune wants. -/
theorem runeLen_w (s : ByteArray) (pos : Nat) (h : pos < s.size) (hv : ¬ ((Utf8.decode s pos).1 = 65533 ∧ (Utf8.decode s pos).2 = 1)) : runeLen ((Utf8.decode s pos).1 : Int) = ((Utf8.decode s pos).2 : Int) := by
  have hd := decodeL_drop s pos
  by_cases e : (Utf8.decode s pos).1 = 65533
  · have he := encode_decode (s.data.toList.drop pos) (drop_ne s pos h) (by rw [hd]; exact hv)
    have hl := congrArg List.length he
    rw [hd, e] at hl
    rw [e]
    have hw := w_le s pos h
    have h2 : s.data.toList.length = s.size := Array.length_toList
    rw [List.length_take, List.length_drop, Nat.min_eq_left (by omega)] at hl
    have h3 : (encodeRune ((65533 : Nat) : Int)).length = 3 := by decide
    have h4 : runeLen ((65533 : Nat) : Int) = 3 := by decide
    omega
  · have := runeLen_decode (s.data.toList.drop pos) (by rw [hd]; exact e)
    rw [hd] at this
    exact this
theorem vf_at {s : ByteArray} {pos : Nat} (h : pos < s.size) (hv : vf s pos = true) : ¬ ((Utf8.decode s pos).1 = 65533 ∧ (Utf8.decode s pos).2 = 1) ∧ vf s (pos + (Utf8.decode s pos).2) = true := by
  rw [vf_step s pos h] at hv
  by_cases hc : (Utf8.decode s pos).1 = 65533 ∧ (Utf8.decode s pos).2 = 1
  · rw [if_pos hc] at hv; cases hv
  · rw [if_neg hc] at hv; exact ⟨hc, hv⟩

/-! ### the reference's Decode, Place -/
theorem nx_bad {s : ByteArray} {pos : Nat} (h : (Utf8.decode s pos).1 = 65533 ∧ (Utf8.decode s pos).2 = 1) : nx s pos = (0, 0) := by unfold nx; rw [if_pos h]
theorem nx_good {s : ByteArray} {pos : Nat} (h : ¬ ((Utf8.decode s pos).1 = 65533 ∧ (Utf8.decode s pos).2 = 1)) : nx s pos = (((Utf8.decode s pos).1 : Int), ((Utf8.decode s pos).2 : Int)) := by unfold nx; rw [if_neg h]

theorem next_at (s : ByteArray) (i : Nat) (hi : i < s.size) (hs : s.size ≤ 1000000) (k : Nat) (hk : 9 ≤ k) : marquetryref01_next.f k s (i : Int) = some (nx s i) := by
  obtain ⟨j, rfl⟩ : ∃ j, k = j + 9 := ⟨k - 9, by omega⟩
  exact next_eq s i hi (by omega) j

theorem decode_l0 (s : ByteArray) (hs : s.size ≤ 1000000) : ∀ (d pos : Nat) (acc : List Int) (k : Nat), pos ≤ s.size → s.size - pos ≤ d → acc.length ≤ pos → d + 10 ≤ k →
    marquetryref01_Decode.l0 k s acc (pos : Int) = some (if vf s pos = true then (acc ++ rl s d pos, 0) else ([], 4)) := by
  intro d
  induction d with
  | zero =>
    intro pos acc k h1 h2 h3 hk
    obtain ⟨k, rfl⟩ : ∃ m, k = m + 1 := ⟨k - 1, by omega⟩
    simp only [marquetryref01_Decode.l0]
    rw [if_neg (by omega), vf_end s pos (by omega), if_pos rfl]
    simp [rl]
  | succ d ih =>
    intro pos acc k h1 h2 h3 hk
    obtain ⟨k, rfl⟩ : ∃ m, k = m + 1 := ⟨k - 1, by omega⟩
    simp only [marquetryref01_Decode.l0]
    by_cases hp : pos < s.size
    · have hw := w_le s pos hp
      have hw1 := width_pos s pos
      rw [if_pos (by omega), next_at s pos hp hs k (by omega), vf_step s pos hp]
      simp only [Option.bind_some]
      by_cases hc : (Utf8.decode s pos).1 = 65533 ∧ (Utf8.decode s pos).2 = 1
      · rw [nx_bad hc, if_pos hc]
        simp
      · rw [nx_good hc, if_neg hc]
        simp only
        rw [if_neg (by omega), if_pos (by omega)]
        have e : wrap64 ((pos : Int) + ((Utf8.decode s pos).2 : Int)) = ((pos + (Utf8.decode s pos).2 : Nat) : Int) := by rw [w64] <;> omega
        rw [e, ih (pos + (Utf8.decode s pos).2) (acc ++ [((Utf8.decode s pos).1 : Int)]) k hw (by omega) (by simp; omega) (by omega)]
        simp [rl, hp]
    · rw [if_neg (by omega), vf_end s pos hp, if_pos rfl]
      simp [rl, hp]
theorem decode_eq (s : ByteArray) (hs : s.size ≤ 1000000) (k : Nat) (hk : s.size + 10 ≤ k) : marquetryref01_Decode.f k s = some (if vf s 0 = true then (rl s s.size 0, 0) else ([], 4)) := by
  unfold marquetryref01_Decode.f
  have := decode_l0 s hs s.size 0 [] k (by omega) (by omega) (by simp) hk
  simpa using this

/-- runes.Place's loop. -/
def pl (s : ByteArray) (at_ : Int) : Nat → Nat → Int → Int → Int × Int
  | 0, _, l, c => (l, c)
  | f + 1, pos, l, c => if pos < s.size then (if at_ < wrap64 (pos + runeLen (Utf8.decode s pos).1) then (l, c) else if ((Utf8.decode s pos).1 : Int) = 10 then pl s at_ f (pos + (Utf8.decode s pos).2) (wrap64 (l + 1)) 1 else pl s at_ f (pos + (Utf8.decode s pos).2) l (wrap64 (c + 1))) else (l, c)
/-- runes.Place, as a function. -/
def placeP (s : ByteArray) (at_ : Int) : Int × Int × Int :=
  if at_ < 0 ∨ (s.size : Int) < at_ then (0, 0, 2) else if validD s.data.toList = false then (0, 0, 4) else ((pl s at_ s.size 0 1 1).1, (pl s at_ s.size 0 1 1).2, 0)

theorem place_l0 (s : ByteArray) (hs : s.size ≤ 1000000) (at_ : Int) : ∀ (d pos : Nat) (l c : Int) (k : Nat), pos ≤ s.size → s.size - pos ≤ d → vf s pos = true → d + 10 ≤ k →
    marquetryref01_Place.l0 k s at_ l c (pos : Int) = some ((pl s at_ d pos l c).1, (pl s at_ d pos l c).2, 0) := by
  intro d
  induction d with
  | zero =>
    intro pos l c k h1 h2 h3 hk
    obtain ⟨k, rfl⟩ : ∃ m, k = m + 1 := ⟨k - 1, by omega⟩
    simp only [marquetryref01_Place.l0]
    rw [if_neg (by omega)]
    simp [pl]
  | succ d ih =>
    intro pos l c k h1 h2 h3 hk
    obtain ⟨k, rfl⟩ : ∃ m, k = m + 1 := ⟨k - 1, by omega⟩
    simp only [marquetryref01_Place.l0, pl]
    by_cases hp : pos < s.size
    · obtain ⟨hc, hv2⟩ := vf_at hp h3
      have hw := w_le s pos hp
      have hw1 := width_pos s pos
      rw [if_pos (by omega), next_at s pos hp hs k (by omega), if_pos hp, runeLen_w s pos hp hc]
      have n1 : (nx s pos).1 = ((Utf8.decode s pos).1 : Int) := by rw [nx_good hc]
      have n2 : (nx s pos).2 = ((Utf8.decode s pos).2 : Int) := by rw [nx_good hc]
      simp only [Option.bind_some]
      rw [n1, n2]
      have e : wrap64 ((pos : Int) + ((Utf8.decode s pos).2 : Int)) = ((pos + (Utf8.decode s pos).2 : Nat) : Int) := by rw [w64] <;> omega
      rw [e]
      by_cases ha : at_ < ((pos + (Utf8.decode s pos).2 : Nat) : Int)
      · rw [if_pos ha, if_pos ha]
      · rw [if_neg ha, if_neg ha]
        by_cases hr : ((Utf8.decode s pos).1 : Int) = 10
        · rw [if_pos hr, if_pos hr]
          exact ih (pos + (Utf8.decode s pos).2) _ _ k hw (by omega) hv2 (by omega)
        · rw [if_neg hr, if_neg hr]
          exact ih (pos + (Utf8.decode s pos).2) _ _ k hw (by omega) hv2 (by omega)
    · rw [if_neg (by omega), if_neg hp]
/-- The reference's Place is the program's. -/
theorem place_eq (s : ByteArray) (hs : s.size ≤ 1000000) (at_ : Int) : marquetryref01_Place.f (s.size + 12) s at_ = some (placeP s at_) := by
  unfold marquetryref01_Place.f placeP
  have key : ¬ (at_ < 0 ∨ (s.size : Int) < at_) → marquetryref01_Place.j0 (s.size + 12) s at_ false = some (if validD s.data.toList = false then (0, 0, 4) else ((pl s at_ s.size 0 1 1).1, (pl s at_ s.size 0 1 1).2, 0)) := by
    intro _
    simp only [marquetryref01_Place.j0, Bool.false_eq_true, if_false]
    rw [decode_eq s hs _ (by omega), vf_zero]
    simp only [Option.bind_some]
    cases hv : validD s.data.toList with
    | false => simp
    | true =>
      simp only [if_true]
      have := place_l0 s hs at_ s.size 0 1 1 (s.size + 11) (by omega) (by omega) (by rw [vf_zero]; exact hv) (by omega)
      simpa using this
  by_cases h0 : at_ < 0
  · rw [if_pos h0, if_pos (Or.inl h0)]
    simp only [marquetryref01_Place.j0, if_true]
  · rw [if_neg h0]
    by_cases h1 : (s.size : Int) < at_
    · rw [if_pos (Or.inr h1), decide_eq_true h1]
      simp only [marquetryref01_Place.j0, if_true]
    · rw [if_neg (by omega), decide_eq_false h1]
      exact key (by omega)
/-! ### Class -/
def high (r : Int) : Int := if 128 ≤ r ∧ r ≤ 1114111 ∧ r ≠ 65533 ∧ (r < 55296 ∨ 57343 < r) then 1 else 0
def blank (r : Int) : Int := if r = 32 ∨ r = 9 ∨ r = 10 then 3 else high r
def digit (r : Int) : Int := if 48 ≤ r ∧ r ≤ 57 then 2 else blank r
/-- A rune's class. -/
def classP (r : Int) : Int := if (65 ≤ r ∧ r ≤ 90) ∨ (97 ≤ r ∧ r ≤ 122) ∨ r = 95 then 1 else digit r
theorem vr_eq (k : Nat) (r : Int) : utf8_ValidRune.f (k + 1) r = some (decide ((0 ≤ r ∧ r < 55296) ∨ (57343 < r ∧ r ≤ 1114111))) := by
  unfold utf8_ValidRune.f
  by_cases h : 0 ≤ r
  · rw [if_pos h]
    by_cases h2 : r < 55296
    · rw [decide_eq_true h2, decide_eq_true (Or.inl ⟨h, h2⟩)]
      simp only [utf8_ValidRune.j0, if_true]
    · rw [decide_eq_false h2]
      simp only [utf8_ValidRune.j0, Bool.false_eq_true, if_false]
      by_cases h3 : 57343 < r
      · rw [if_pos h3]
        by_cases h4 : r ≤ 1114111
        · rw [if_pos h4, decide_eq_true (Or.inr ⟨h3, h4⟩)]
        · rw [if_neg h4, decide_eq_false (by omega)]
      · rw [if_neg h3, decide_eq_false (by omega)]
  · rw [if_neg h, decide_eq_false (by omega)]
    simp only [utf8_ValidRune.j0, Bool.false_eq_true, if_false]
    rw [if_neg (by omega)]
theorem c_j3 (k : Nat) (r : Int) (b : Bool) : runes_Class.j3 (k + 2) r b = some (if b = true then 3 else high r) := by
  cases b with
  | true => simp only [runes_Class.j3, if_true]
  | false =>
    simp only [runes_Class.j3, Bool.false_eq_true, if_false]
    unfold high
    by_cases h : 128 ≤ r
    · rw [if_pos h]
      by_cases h2 : r = 65533
      · rw [if_pos h2, if_neg (by omega)]
      · rw [if_neg h2, vr_eq]
        simp only [Option.bind_some]
        by_cases h3 : (0 ≤ r ∧ r < 55296) ∨ (57343 < r ∧ r ≤ 1114111)
        · rw [decide_eq_true h3, if_pos rfl, if_pos (by omega)]
        · rw [decide_eq_false h3, if_neg (by decide), if_neg (by omega)]
    · rw [if_neg h, if_neg (by omega)]
theorem c_j2 (k : Nat) (r : Int) (b : Bool) : runes_Class.j2 (k + 3) r b = some (if b = true then 2 else blank r) := by
  cases b with
  | true => simp only [runes_Class.j2, if_true]
  | false =>
    simp only [runes_Class.j2, Bool.false_eq_true, if_false, c_j3]
    unfold blank
    by_cases h : r = 32
    · rw [if_pos h, if_pos (by simpa using h), if_pos (by omega)]
    · rw [if_neg h]
      by_cases h2 : r = 9
      · rw [if_pos h2, if_pos (by simpa using h2), if_pos (by omega)]
      · rw [if_neg h2]
        by_cases h3 : r = 10
        · rw [if_pos (by simpa using h3), if_pos (by omega)]
        · rw [if_neg (by simpa using h3), if_neg (by omega)]
theorem c_j1 (k : Nat) (r : Int) (b : Bool) : runes_Class.j1 (k + 4) r b = some (if b = true then 1 else digit r) := by
  cases b with
  | true => simp only [runes_Class.j1, if_true]
  | false =>
    simp only [runes_Class.j1, Bool.false_eq_true, if_false, c_j2]
    unfold digit
    by_cases h : 48 ≤ r
    · rw [if_pos h]
      by_cases h2 : r ≤ 57
      · rw [if_pos (by simpa using h2), if_pos ⟨h, h2⟩]
      · rw [if_neg (by simpa using h2), if_neg (by omega)]
    · rw [if_neg h, if_neg (by omega)]
theorem c_j0 (k : Nat) (r : Int) (b : Bool) : runes_Class.j0 (k + 5) r b = some (if b = true then 1 else if (97 ≤ r ∧ r ≤ 122) ∨ r = 95 then 1 else digit r) := by
  cases b with
  | true => simp only [runes_Class.j0, if_true, c_j1]
  | false =>
    simp only [runes_Class.j0, Bool.false_eq_true, if_false, c_j1]
    by_cases h : 97 ≤ r
    · rw [if_pos h]
      by_cases h2 : r ≤ 122
      · rw [if_pos h2, if_pos (by simpa using h2), if_pos (by omega)]
      · rw [if_neg h2, if_neg (by simp; omega), if_neg (by omega)]
    · rw [if_neg h]
      by_cases h3 : r = 95
      · rw [if_pos (by simpa using h3), if_pos (by omega)]
      · rw [if_neg (by simpa using h3), if_neg (by omega)]
theorem class_eq (k : Nat) (r : Int) : runes_Class.f (k + 5) r = some (classP r) := by
  unfold runes_Class.f classP
  rw [c_j0, c_j0]
  by_cases h : 65 ≤ r
  · rw [if_pos h]
    by_cases h2 : r ≤ 90
    · rw [if_pos (by simpa using h2), if_pos (by omega)]
    · rw [if_neg (by simpa using h2)]
      by_cases h3 : (97 ≤ r ∧ r ≤ 122) ∨ r = 95
      · rw [if_pos h3, if_pos (by omega)]
      · rw [if_neg h3, if_neg (by omega)]
  · rw [if_neg h, if_neg (by decide)]
    by_cases h3 : (97 ≤ r ∧ r ≤ 122) ∨ r = 95
    · rw [if_pos h3, if_pos (by omega)]
    · rw [if_neg h3, if_neg (by omega)]

theorem r_j2 (k : Nat) (r : Int) (b : Bool) : marquetryref01_Class.j2 (k + 1) r b = some (if b = true then 3 else high r) := by
  cases b with
  | true => simp only [marquetryref01_Class.j2, if_true]
  | false =>
    simp only [marquetryref01_Class.j2, Bool.false_eq_true, if_false]
    unfold high
    by_cases h : 128 ≤ r
    · rw [if_pos h]
      by_cases h1 : r ≤ 1114111
      · rw [if_pos h1]
        by_cases h2 : r = 65533
        · rw [if_pos h2, if_neg (by omega)]
        · rw [if_neg h2]
          by_cases h3 : r < 55296
          · rw [if_pos h3, if_pos (by omega)]
          · rw [if_neg h3]
            by_cases h4 : 57343 < r
            · rw [if_pos h4, if_pos (by omega)]
            · rw [if_neg (by omega), if_neg (by omega)]
      · rw [if_neg h1, if_neg (by omega)]
    · rw [if_neg h, if_neg (by omega)]
theorem r_j1 (k : Nat) (r : Int) (b : Bool) : marquetryref01_Class.j1 (k + 2) r b = some (if b = true then 2 else blank r) := by
  cases b with
  | true => simp only [marquetryref01_Class.j1, if_true]
  | false =>
    simp only [marquetryref01_Class.j1, Bool.false_eq_true, if_false, r_j2, if_true]
    unfold blank
    by_cases h : r = 32
    · rw [if_pos h, if_pos (by omega)]
    · rw [if_neg h]
      by_cases h2 : r = 9
      · rw [if_pos h2, if_pos (by omega)]
      · rw [if_neg h2]
        by_cases h3 : r = 10
        · rw [if_pos (by simpa using h3), if_pos (by omega)]
        · rw [if_neg (by simpa using h3), if_neg (by omega)]
theorem r_j0 (k : Nat) (r : Int) (b : Bool) : marquetryref01_Class.j0 (k + 3) r b = some (if b = true then 1 else digit r) := by
  cases b with
  | true => simp only [marquetryref01_Class.j0, if_true]
  | false =>
    simp only [marquetryref01_Class.j0, Bool.false_eq_true, if_false, r_j1]
    unfold digit
    by_cases h : 48 ≤ r
    · rw [if_pos h]
      by_cases h2 : r ≤ 57
      · rw [if_pos (by simpa using h2), if_pos ⟨h, h2⟩]
      · rw [if_neg (by simpa using h2), if_neg (by omega)]
    · rw [if_neg h, if_neg (by omega)]
theorem refclass_eq (k : Nat) (r : Int) : marquetryref01_Class.f (k + 3) r = some (classP r) := by
  unfold marquetryref01_Class.f classP
  simp only [r_j0, if_true, beq_iff_eq]
  by_cases h : (65 ≤ r ∧ r ≤ 90) ∨ (97 ≤ r ∧ r ≤ 122) ∨ r = 95
  · rw [if_pos h]
    by_cases h1 : 65 ≤ r
    · rw [if_pos h1]
      by_cases h2 : r ≤ 90
      · rw [if_pos h2]
      · rw [if_neg h2]
        by_cases h3 : 97 ≤ r
        · rw [if_pos h3, if_pos (by omega)]
        · rw [if_neg h3, if_pos (by omega)]
    · omega
  · rw [if_neg h]
    by_cases h1 : 65 ≤ r
    · rw [if_pos h1, if_neg (by omega)]
      by_cases h3 : 97 ≤ r
      · rw [if_pos h3, if_neg (by omega), if_neg (by omega)]
      · rw [if_neg h3, if_neg (by omega)]
    · rw [if_neg h1, if_neg (by omega), if_neg (by omega)]
theorem class_blank (r : Int) : classP r = 3 ↔ r = 32 ∨ r = 9 ∨ r = 10 := by
  unfold classP digit blank high
  repeat' split
  all_goals omega

/-! ### Check -/
/-- May a rune not stand in a text? -/
def badR (r : Int) : Prop := r = 65533 ∨ (r < 32 ∧ ¬ classP r = 3) ∨ r = 127
instance (r : Int) : Decidable (badR r) := by unfold badR; infer_instance
/-- runes.Check's loop. -/
def ck (s : ByteArray) : Nat → Nat → Int × Int
  | 0, _ => (0, 0)
  | f + 1, pos => if pos < s.size then (if badR (Utf8.decode s pos).1 then ((pos : Int), 4) else ck s f (pos + (Utf8.decode s pos).2)) else (0, 0)
def checkP (s : ByteArray) : Int × Int := if 16384 < (s.size : Int) then (0, 3) else ck s s.size 0
theorem ck_bad {s : ByteArray} {f pos : Nat} (hp : pos < s.size) (h : badR (Utf8.decode s pos).1) : ck s (f + 1) pos = ((pos : Int), 4) := by simp [ck, hp, h]
theorem ck_on {s : ByteArray} {f pos : Nat} (hp : pos < s.size) (h : ¬ badR (Utf8.decode s pos).1) : ck s (f + 1) pos = ck s f (pos + (Utf8.decode s pos).2) := by simp [ck, hp, h]
theorem ck_end {s : ByteArray} {f pos : Nat} (hp : ¬ pos < s.size) : ck s f pos = (0, 0) := by cases f <;> simp [ck, hp]
theorem check_l0 (s : ByteArray) (hs : s.size ≤ 1000000) : ∀ (d pos : Nat) (k : Nat), pos ≤ s.size → s.size - pos ≤ d → d + 10 ≤ k → marquetryref01_Check.l0 k s (pos : Int) = some (ck s d pos) := by
  intro d
  induction d with
  | zero =>
    intro pos k h1 h2 hk
    obtain ⟨k, rfl⟩ : ∃ m, k = m + 1 := ⟨k - 1, by omega⟩
    simp only [marquetryref01_Check.l0]
    rw [if_neg (by omega)]
    rfl
  | succ d ih =>
    intro pos k h1 h2 hk
    obtain ⟨k, rfl⟩ : ∃ m, k = m + 1 := ⟨k - 1, by omega⟩
    simp only [marquetryref01_Check.l0]
    by_cases hp : pos < s.size
    · have hw := w_le s pos hp
      have hw1 := width_pos s pos
      rw [if_pos (by omega), next_at s pos hp hs k (by omega)]
      simp only [Option.bind_some]
      by_cases hc : (Utf8.decode s pos).1 = 65533 ∧ (Utf8.decode s pos).2 = 1
      · have n2 : (nx s pos).2 = 0 := by rw [nx_bad hc]
        rw [n2, if_pos rfl, ck_bad hp (Or.inl (by omega))]
      · have n1 : (nx s pos).1 = ((Utf8.decode s pos).1 : Int) := by rw [nx_good hc]
        have n2 : (nx s pos).2 = ((Utf8.decode s pos).2 : Int) := by rw [nx_good hc]
        rw [n1, n2, if_neg (by omega)]
        have e : wrap64 ((pos : Int) + ((Utf8.decode s pos).2 : Int)) = ((pos + (Utf8.decode s pos).2 : Nat) : Int) := by rw [w64] <;> omega
        rw [e, ih _ k hw (by omega) (by omega)]
        clear e n1 n2 ih
        have hb := class_blank (((Utf8.decode s pos).1 : Nat) : Int)
        by_cases hbad : badR (Utf8.decode s pos).1
        · rw [ck_bad hp hbad]
          unfold badR at hbad
          rw [hb] at hbad
          generalize (((Utf8.decode s pos).1 : Nat) : Int) = r at hbad
          repeat' split
          all_goals first | rfl | (exfalso; omega)
        · rw [ck_on hp hbad]
          unfold badR at hbad
          rw [hb] at hbad
          generalize (((Utf8.decode s pos).1 : Nat) : Int) = r at hbad
          repeat' split
          all_goals first | rfl | (exfalso; omega)
    · rw [if_neg (by omega), ck_end hp]
theorem check_eq (s : ByteArray) (hs : s.size ≤ 1000000) : marquetryref01_Check.f (s.size + 10) s = some (checkP s) := by
  unfold marquetryref01_Check.f checkP
  by_cases h : 16384 < (s.size : Int)
  · rw [if_pos h, if_pos h]
  · rw [if_neg (by omega), if_neg h]
    exact check_l0 s hs s.size 0 _ (by omega) (by omega) (by omega)

/-! ### Decode as a whole; Same; Count -/
/-- runes.Decode, as a function. -/
def decodeP (s : ByteArray) : List Int × Int := if validD s.data.toList = true then (rl s s.size 0, 0) else ([], 4)
theorem decodeR_eq (s : ByteArray) (hs : s.size ≤ 1000000) (k : Nat) (hk : s.size + 10 ≤ k) : marquetryref01_Decode.f k s = some (decodeP s) := by
  rw [decode_eq s hs k hk, vf_zero]
  rfl
theorem count_eq (s : ByteArray) (hs : s.size ≤ 1000000) : marquetryref01_Count.f (s.size + 10) s = some ((decodeP s).1.length : Int) := by
  unfold marquetryref01_Count.f
  rw [decodeR_eq s hs _ (by omega)]
  rfl
theorem same_l0 (l : List Int) (hl : l.length ≤ 1000000) : ∀ (d i k : Nat), i ≤ l.length → l.length - i ≤ d → d + 1 ≤ k → marquetryref01_Same.l0 k l l (i : Int) = some true := by
  intro d
  induction d with
  | zero =>
    intro i k h1 h2 hk
    obtain ⟨k, rfl⟩ : ∃ m, k = m + 1 := ⟨k - 1, by omega⟩
    simp only [marquetryref01_Same.l0]
    rw [if_neg (by omega)]
  | succ d ih =>
    intro i k h1 h2 hk
    obtain ⟨k, rfl⟩ : ∃ m, k = m + 1 := ⟨k - 1, by omega⟩
    simp only [marquetryref01_Same.l0]
    by_cases hi : i < l.length
    · have e : wrap64 ((i : Int) + 1) = ((i + 1 : Nat) : Int) := by rw [w64] <;> omega
      rw [if_pos (by omega), if_pos (by omega), if_pos (by omega), if_true, e]
      exact ih (i + 1) k (by omega) (by omega) (by omega)
    · rw [if_neg (by omega)]
/-- A list is like itself. -/
theorem same_eq (l : List Int) (hl : l.length ≤ 1000000) : marquetryref01_Same.f (l.length + 1) l l = some true := by
  unfold marquetryref01_Same.f
  rw [if_pos rfl]
  exact same_l0 l hl l.length 0 _ (by omega) (by omega) (by omega)
theorem rl_len (s : ByteArray) : ∀ (d pos : Nat), (rl s d pos).length ≤ d
  | 0, _ => Nat.le_refl _
  | d + 1, pos => by
    unfold rl
    split
    · have := rl_len s d (pos + (Utf8.decode s pos).2)
      rw [List.length_cons]
      omega
    · simp
theorem decodeP_len (s : ByteArray) : (decodeP s).1.length ≤ s.size := by
  unfold decodeP
  split
  · exact rl_len s s.size 0
  · simp
/-! ### Name -/
/-- Is a rune right within a name (first: at its begin)? -/
def okR (first : Bool) (r : Int) : Bool := decide (classP r = 1) || (!first && (decide (classP r = 2) || decide (r = 39)))
/-- runes.Name's loop. -/
def nm (s : ByteArray) : Nat → Nat → Bool
  | 0, _ => true
  | f + 1, pos => if pos < s.size then (if okR (decide (pos = 0)) (Utf8.decode s pos).1 = true then nm s f (pos + (Utf8.decode s pos).2) else false) else true
def nameP (s : ByteArray) : Bool := decide (1 ≤ s.size ∧ s.size ≤ 32) && validD s.data.toList && nm s s.size 0
theorem nm_on {s : ByteArray} {f pos : Nat} (hp : pos < s.size) (h : okR (decide (pos = 0)) (Utf8.decode s pos).1 = true) : nm s (f + 1) pos = nm s f (pos + (Utf8.decode s pos).2) := by simp [nm, hp, h]
theorem nm_bad {s : ByteArray} {f pos : Nat} (hp : pos < s.size) (h : okR (decide (pos = 0)) (Utf8.decode s pos).1 = false) : nm s (f + 1) pos = false := by simp [nm, hp, h]
theorem nm_end {s : ByteArray} {f pos : Nat} (hp : ¬ pos < s.size) : nm s f pos = true := by cases f <;> simp [nm, hp]
/-- The reference's loop over a list of runes. -/
def nl : Bool → List Int → Bool
  | _, [] => true
  | b, r :: t => if okR b r = true then nl false t else false
theorem nl_cons (b : Bool) (r : Int) (t : List Int) : nl b (r :: t) = if okR b r = true then nl false t else false := rfl
theorem nl_rl (s : ByteArray) : ∀ (d pos : Nat), nl (decide (pos = 0)) (rl s d pos) = nm s d pos
  | 0, _ => rfl
  | d + 1, pos => by
    unfold rl nm
    by_cases hp : pos < s.size
    · rw [if_pos hp, if_pos hp]
      unfold nl
      have hw := width_pos s pos
      have e : (false : Bool) = decide (pos + (Utf8.decode s pos).2 = 0) := by rw [decide_eq_false (by omega)]
      rw [e, nl_rl s d (pos + (Utf8.decode s pos).2)]
    · rw [if_neg hp, if_neg hp]
      unfold nl
      rfl
theorem refclass_at (k : Nat) (r : Int) (hk : 3 ≤ k) : marquetryref01_Class.f k r = some (classP r) := by
  obtain ⟨j, rfl⟩ : ∃ j, k = j + 3 := ⟨k - 3, by omega⟩
  exact refclass_eq j r
theorem name_l0 (l : List Int) (hl : l.length ≤ 1000000) : ∀ (d i k : Nat), i ≤ l.length → l.length - i ≤ d → d + 5 ≤ k → marquetryref01_Name.l0 k l (i : Int) = some (nl (decide (i = 0)) (l.drop i)) := by
  intro d
  induction d with
  | zero =>
    intro i k h1 h2 hk
    obtain ⟨k, rfl⟩ : ∃ m, k = m + 1 := ⟨k - 1, by omega⟩
    simp only [marquetryref01_Name.l0]
    rw [if_neg (by omega), List.drop_eq_nil_of_le (by omega)]
    simp [nl]
  | succ d ih =>
    intro i k h1 h2 hk
    obtain ⟨k, rfl⟩ : ∃ m, k = m + 1 := ⟨k - 1, by omega⟩
    simp only [marquetryref01_Name.l0]
    by_cases hi : i < l.length
    · have hd : l.drop i = rd l (i : Int) :: l.drop (i + 1) := by
        rw [List.drop_eq_getElem_cons hi]
        simp [rd, List.getD, hi]
      rw [if_pos (by omega), if_pos (by omega), refclass_at k _ (by omega), hd]
      simp only [Option.bind_some]
      rw [w64s i (by omega), ih (i + 1) k (by omega) (by omega) (by omega)]
      clear ih hd
      generalize rd l (i : Int) = r
      rw [nl_cons, decide_eq_false (show ¬ (i + 1 = 0) by omega)]
      unfold okR
      by_cases c1 : classP r = 1
      · simp [c1]
      · by_cases h0 : i = 0
        · subst h0
          simp [c1]
        · by_cases c2 : classP r = 2
          · have : ¬ (i : Int) = 0 := by omega
            simp [c1, c2, h0]
          · have : ¬ (i : Int) = 0 := by omega
            by_cases c3 : r = 39
            · simp [c1, c2, c3, h0]
            · simp [c1, c2, c3, h0]
    · rw [if_neg (by omega), List.drop_eq_nil_of_le (by omega)]
      simp [nl]
theorem name_eq (s : ByteArray) (hs : s.size ≤ 1000000) : marquetryref01_Name.f (s.size + 12) s = some (nameP s) := by
  unfold marquetryref01_Name.f nameP
  rw [decodeR_eq s hs _ (by omega)]
  simp only [Option.bind_some]
  cases hv : validD s.data.toList with
  | false =>
    have h2 : (decodeP s).2 = 4 := by unfold decodeP; rw [hv]; rfl
    rw [h2, if_neg (by decide)]
    simp [marquetryref01_Name.j0]
  | true =>
    have h1 : (decodeP s).1 = rl s s.size 0 := by unfold decodeP; rw [hv]; rfl
    have h2 : (decodeP s).2 = 0 := by unfold decodeP; rw [hv]; rfl
    rw [h1, h2, if_pos rfl]
    by_cases h0 : (s.size : Int) < 1
    · rw [if_pos h0, decide_eq_false (by omega)]
      simp [marquetryref01_Name.j0]
    · rw [if_neg h0]
      by_cases h3 : (s.size : Int) > 32
      · rw [decide_eq_true h3, decide_eq_false (by omega)]
        simp [marquetryref01_Name.j0]
      · rw [decide_eq_false h3, decide_eq_true (by omega)]
        simp only [marquetryref01_Name.j0, Bool.false_eq_true, if_false, Bool.true_and]
        have hn := name_l0 (rl s s.size 0) (by have := rl_len s s.size 0; omega) s.size 0 (s.size + 11) (by omega) (by have := rl_len s s.size 0; omega) (by omega)
        have e : ((0 : Nat) : Int) = 0 := rfl
        rw [e] at hn
        rw [hn, List.drop_zero, nl_rl s s.size 0]

/-! ### Cut -/
/-- The place behind at most n runes. -/
def cp (s : ByteArray) : Nat → Nat → Int → Int → Nat
  | 0, pos, _, _ => pos
  | f + 1, pos, k, n => if pos < s.size then (if k ≥ n then pos else cp s f (pos + (Utf8.decode s pos).2) (k + 1) n) else pos
def cutP (s : ByteArray) (n : Int) : ByteArray := if validD s.data.toList = true then s.extract 0 (cp s s.size 0 0 n) else ⟨#[]⟩
theorem cp_stop {s : ByteArray} {f pos : Nat} {k n : Int} (hp : pos < s.size) (h : n ≤ k) : cp s (f + 1) pos k n = pos := by simp [cp, hp, h]
theorem cp_on {s : ByteArray} {f pos : Nat} {k n : Int} (hp : pos < s.size) (h : k < n) : cp s (f + 1) pos k n = cp s f (pos + (Utf8.decode s pos).2) (k + 1) n := by simp only [cp]; rw [if_pos hp, if_neg (by omega)]
theorem cp_end {s : ByteArray} {f pos : Nat} {k n : Int} (hp : ¬ pos < s.size) : cp s f pos k n = pos := by cases f <;> simp [cp, hp]
theorem cp_le (s : ByteArray) (n : Int) : ∀ (d pos : Nat) (k : Int), pos ≤ s.size → cp s d pos k n ≤ s.size
  | 0, pos, _, h => h
  | d + 1, pos, k, h => by
    unfold cp
    split
    · split
      · exact h
      · exact cp_le s n d _ _ (w_le s pos ‹_›)
    · exact h
theorem cut_l0 (s : ByteArray) (hs : s.size ≤ 1000000) (n : Int) : ∀ (d pos k : Nat) (j : Nat), pos ≤ s.size → s.size - pos ≤ d → vf s pos = true → k ≤ pos → d + 12 ≤ j →
    marquetryref01_Cut.l0 j s n (pos : Int) (k : Int) = some (s.extract 0 (cp s d pos k n)) := by
  intro d
  induction d with
  | zero =>
    intro pos k j h1 h2 h3 h4 hk
    obtain ⟨j, rfl⟩ : ∃ m, j = m + 1 := ⟨j - 1, by omega⟩
    simp only [marquetryref01_Cut.l0]
    have e : ((pos : Int)).toNat = pos := by omega
    by_cases hk : (k : Int) < n
    · rw [if_pos hk, if_neg (by omega), if_pos (by omega), if_pos (by omega), e]
      rfl
    · rw [if_neg hk, if_pos (by omega), if_pos (by omega), e]
      rfl
  | succ d ih =>
    intro pos k j h1 h2 h3 h4 hk
    obtain ⟨j, rfl⟩ : ∃ m, j = m + 1 := ⟨j - 1, by omega⟩
    simp only [marquetryref01_Cut.l0]
    have e0 : ((pos : Int)).toNat = pos := by omega
    by_cases hp : pos < s.size
    · by_cases hk : (k : Int) < n
      · obtain ⟨hc, hv2⟩ := vf_at hp h3
        have hw := w_le s pos hp
        have hw1 := width_pos s pos
        have n2 : (nx s pos).2 = ((Utf8.decode s pos).2 : Int) := by rw [nx_good hc]
        rw [if_pos hk, if_pos (by omega), next_at s pos hp hs j (by omega), cp_on hp hk]
        simp only [Option.bind_some]
        rw [n2, w64n pos _ (by omega), w64s k (by omega)]
        exact ih (pos + (Utf8.decode s pos).2) (k + 1) j hw (by omega) hv2 (by omega) (by omega)
      · rw [if_neg hk, if_pos (by omega), if_pos (by omega), cp_stop hp (by omega), e0]
    · rw [cp_end hp]
      by_cases hk : (k : Int) < n
      · rw [if_pos hk, if_neg (by omega), if_pos (by omega), if_pos (by omega), e0]
      · rw [if_neg hk, if_pos (by omega), if_pos (by omega), e0]
theorem cut_eq (s : ByteArray) (hs : s.size ≤ 1000000) (n : Int) : marquetryref01_Cut.f (s.size + 12) s n = some (cutP s n) := by
  unfold marquetryref01_Cut.f cutP
  rw [decodeR_eq s hs _ (by omega)]
  simp only [Option.bind_some]
  cases hv : validD s.data.toList with
  | false =>
    have h2 : (decodeP s).2 = 4 := by unfold decodeP; rw [hv]; rfl
    rw [h2, if_neg (by decide), if_neg (by decide)]
  | true =>
    have h2 : (decodeP s).2 = 0 := by unfold decodeP; rw [hv]; rfl
    rw [h2, if_pos rfl, if_pos rfl]
    exact cut_l0 s hs n s.size 0 0 _ (by omega) (by omega) (by rw [vf_zero]; exact hv) (by omega) (by omega)
/-! ### a rune written again -/
theorem decodeN_valid (n b0 b1 b2 b3 : Nat) : (decodeN n b0 b1 b2 b3).1 < 55296 ∨ 57343 < (decodeN n b0 b1 b2 b3).1 := by
  unfold decodeN
  repeat' split
  all_goals (simp only; omega)
theorem decode_valid (s : ByteArray) (pos : Nat) : (Utf8.decode s pos).1 < 55296 ∨ 57343 < (Utf8.decode s pos).1 := by
  rw [decode_at]
  exact decodeN_valid _ _ _ _ _
theorem valid_true (r : Nat) (h : r ≤ 1114111) (hv : r < 55296 ∨ 57343 < r) : Utf8.valid (r : Int) = true := by
  unfold Utf8.valid
  simp
  omega
theorem encode_bytes (r : Nat) (h : r ≤ 1114111) (hv : r < 55296 ∨ 57343 < r) : (Utf8.encode (r : Int)).data.toList = encodeRune (r : Int) := by
  unfold Utf8.encode encodeRune encodeRuneZ
  have e0 : ((r : Int)).toNat = r := by omega
  simp only [e0, valid_true r h hv, if_true]
  by_cases h1 : r < 128
  · rw [if_pos h1, if_pos (by omega)]
    rfl
  · by_cases h2 : r < 2048
    · rw [if_neg h1, if_pos h2, if_neg (by omega), if_pos (by omega)]
      have a : (192 + (r : Int) / 64).toNat = 192 + r / 64 := by omega
      have b : (128 + (r : Int) % 64).toNat = 128 + r % 64 := by omega
      simp only [List.map_cons, List.map_nil, a, b]
    · rw [if_neg h1, if_neg h2]
      by_cases h4 : r < 65536
      · rw [if_pos h4, if_neg (by omega), if_neg (by omega), if_pos (by omega)]
        have a : (224 + (r : Int) / 4096).toNat = 224 + r / 4096 := by omega
        have b : (128 + (r : Int) / 64 % 64).toNat = 128 + r / 64 % 64 := by omega
        have c : (128 + (r : Int) % 64).toNat = 128 + r % 64 := by omega
        simp only [List.map_cons, List.map_nil, a, b, c]
      · rw [if_neg h4, if_neg (by omega), if_neg (by omega), if_neg (by omega), if_pos (by omega)]
        have a : (240 + (r : Int) / 262144).toNat = 240 + r / 262144 := by omega
        have b : (128 + (r : Int) / 4096 % 64).toNat = 128 + r / 4096 % 64 := by omega
        have c : (128 + (r : Int) / 64 % 64).toNat = 128 + r / 64 % 64 := by omega
        have d : (128 + (r : Int) % 64).toNat = 128 + r % 64 := by omega
        simp only [List.map_cons, List.map_nil, a, b, c, d]
theorem ext_list (s : ByteArray) (a b : Nat) : (s.extract a b).data.toList = (s.data.toList.drop a).take (b - a) := by
  simp [ByteArray.data_extract, Array.toList_extract, List.extract_eq_take_drop]
/-- What is read at a valid place, written again behind what stands ahead of it. -/
theorem ext_encode (s : ByteArray) (pos : Nat) (hp : pos < s.size) (hv : ¬ ((Utf8.decode s pos).1 = 65533 ∧ (Utf8.decode s pos).2 = 1)) :
    s.extract 0 pos ++ Utf8.encode ((Utf8.decode s pos).1 : Int) = s.extract 0 (pos + (Utf8.decode s pos).2) := by
  have hd := decodeL_drop s pos
  have he := encode_decode (s.data.toList.drop pos) (drop_ne s pos hp) (by rw [hd]; exact hv)
  rw [hd] at he
  have hb := encode_bytes (Utf8.decode s pos).1 (rune_le s pos) (decode_valid s pos)
  apply ByteArray.ext
  apply Array.ext'
  rw [ByteArray.data_append, Array.toList_append, hb, he, ext_list, ext_list, List.drop_zero, Nat.sub_zero, Nat.sub_zero, List.take_add]
theorem rl_len_le {s : ByteArray} {f pos : Nat} (h : rl s f pos = []) (hz : s.size ≤ pos + f) : s.size ≤ pos := by
  cases f with
  | zero => omega
  | succ f =>
    unfold rl at h
    by_cases hp : pos < s.size
    · rw [if_pos hp] at h; cases h
    · omega
theorem rl_drop {s : ByteArray} {f pos k : Nat} {l : List Int} (h : l.drop k = rl s f pos) (hk : k < l.length) (hz : s.size ≤ pos + f) :
    ∃ f', f = f' + 1 ∧ pos < s.size ∧ rd l (k : Int) = ((Utf8.decode s pos).1 : Int) ∧ l.drop (k + 1) = rl s f' (pos + (Utf8.decode s pos).2) := by
  have hc : l.drop k = rd l (k : Int) :: l.drop (k + 1) := by
    rw [List.drop_eq_getElem_cons hk]
    simp [rd, List.getD, hk]
  rw [hc] at h
  cases f with
  | zero => cases h
  | succ f =>
    unfold rl at h
    by_cases hp : pos < s.size
    · rw [if_pos hp] at h
      injection h with h1 h2
      exact ⟨f, rfl, hp, h1, h2⟩
    · rw [if_neg hp] at h; cases h
/-! ### lines -/
theorem decodeN_ten (n b0 b1 b2 b3 : Nat) (h : ¬ ((decodeN n b0 b1 b2 b3).1 = 65533 ∧ (decodeN n b0 b1 b2 b3).2 = 1)) :
    (decodeN n b0 b1 b2 b3).2 ≤ 4 ∧ ((decodeN n b0 b1 b2 b3).1 = 10 → b0 = 10 ∧ (decodeN n b0 b1 b2 b3).2 = 1) ∧
      ((decodeN n b0 b1 b2 b3).1 ≠ 10 → b0 ≠ 10 ∧ (1 < (decodeN n b0 b1 b2 b3).2 → b1 ≠ 10) ∧ (2 < (decodeN n b0 b1 b2 b3).2 → b2 ≠ 10) ∧ (3 < (decodeN n b0 b1 b2 b3).2 → b3 ≠ 10)) := by
  revert h
  unfold decodeN
  repeat' split
  all_goals intro h
  all_goals first
    | exact absurd ⟨rfl, rfl⟩ h
    | (refine ⟨?_, fun e => ?_, fun e => ⟨?_, fun g => ?_, fun g => ?_, fun g => ?_⟩⟩ <;> dsimp only at * <;> omega)
/-- A byte of a valid rune is an end of line just if the rune is. -/
theorem ten_at {s : ByteArray} {pos i : Nat} (hv : ¬ ((Utf8.decode s pos).1 = 65533 ∧ (Utf8.decode s pos).2 = 1)) (h1 : pos ≤ i) (h2 : i < pos + (Utf8.decode s pos).2) :
    ((Utf8.decode s pos).1 = 10 → (s.get! i).toNat = 10 ∧ (Utf8.decode s pos).2 = 1) ∧ ((Utf8.decode s pos).1 ≠ 10 → (s.get! i).toNat ≠ 10) := by
  have hd := decode_at s pos
  have := decodeN_ten (s.size - pos) (s.get! pos).toNat (s.get! (pos + 1)).toNat (s.get! (pos + 2)).toNat (s.get! (pos + 3)).toNat (by rw [← hd]; exact hv)
  rw [← hd] at this
  obtain ⟨hw, ha, hb⟩ := this
  refine ⟨fun h => ?_, fun h => ?_⟩
  · obtain ⟨h3, h4⟩ := ha h
    obtain rfl : i = pos := by omega
    exact ⟨h3, h4⟩
  · obtain ⟨g0, g1, g2, g3⟩ := hb h
    by_cases e0 : i = pos
    · subst e0; exact g0
    · by_cases e1 : i = pos + 1
      · subst e1; exact g1 (by omega)
      · by_cases e2 : i = pos + 2
        · subst e2; exact g2 (by omega)
        · obtain rfl : i = pos + 3 := by omega
          exact g3 (by omega)
/-- The ends of lines ahead of a place. -/
def cnt (s : ByteArray) : Nat → Nat
  | 0 => 0
  | i + 1 => cnt s i + if (s.get! i).toNat = 10 then 1 else 0
theorem cnt_le (s : ByteArray) : ∀ i, cnt s i ≤ i
  | 0 => Nat.le_refl _
  | i + 1 => by have := cnt_le s i; unfold cnt; split <;> omega
/-- What holds at the head of the law's loop. -/
def LinesAt (s : ByteArray) (i : Nat) (line col : Int) : Prop :=
  ∃ (pos f l c : Nat), (∀ at_ : Int, (pos : Int) ≤ at_ → pl s at_ s.size 0 1 1 = pl s at_ f pos l c) ∧ s.size ≤ pos + f ∧ vf s pos = true ∧ pos ≤ i ∧ i ≤ s.size ∧ (pos < s.size → i < pos + (Utf8.decode s pos).2) ∧ l = 1 + cnt s i ∧ 1 ≤ c ∧ c ≤ pos + 1 ∧
    line ≤ l ∧ ((l : Int) = line → col ≤ c) ∧ (line < l → c = 1)
theorem lines_start (s : ByteArray) (hs : s.size ≤ 1000000) (hv : vf s 0 = true) : LinesAt s 0 1 1 :=
  ⟨0, s.size, 1, 1, fun _ _ => rfl, by omega, hv, by omega, by omega, fun h => by have := width_pos s 0; omega, rfl, by omega, by omega, by omega, fun _ => by omega, fun h => by omega⟩
/-- What Place tells at the place, and how it lies to what was told ahead of it. -/
theorem lines_tell {s : ByteArray} {i : Nat} {line col : Int} (hs : s.size ≤ 1000000) (h : LinesAt s i line col) :
    ∃ l c : Nat, pl s (i : Int) s.size 0 1 1 = ((l : Int), (c : Int)) ∧ l = 1 + cnt s i ∧ line ≤ l ∧ ((l : Int) = line → col ≤ c) ∧ (line < l → c = 1) ∧ (i < s.size → LinesAt s (i + 1) l c) := by
  obtain ⟨pos, f, l, c, hp, hz, hv, h1, h2, h3, h4, h5, h6, h7, h8, h9⟩ := h
  refine ⟨l, c, ?_, h4, h7, h8, h9, fun hi => ?_⟩
  · rw [hp i (by omega)]
    by_cases hps : pos < s.size
    · obtain ⟨f, rfl⟩ : ∃ f', f = f' + 1 := ⟨f - 1, by omega⟩
      have hc := (vf_at hps hv).1
      have hw := h3 hps
      have hwl := w_le s pos hps
      simp only [pl]
      rw [if_pos hps, runeLen_w s pos hps hc, w64n pos _ (by omega), if_pos (by omega)]
    · cases f <;> simp [pl, hps]
  · have hps : pos < s.size := by omega
    have hw := h3 hps
    have hwl := w_le s pos hps
    obtain ⟨hc, hv2⟩ := vf_at hps hv
    have ht := ten_at hc h1 hw
    have hle := cnt_le s i
    by_cases hin : i + 1 < pos + (Utf8.decode s pos).2
    · have hne : (s.get! i).toNat ≠ 10 := by
        intro e
        by_cases h10 : (Utf8.decode s pos).1 = 10
        · have := (ht.1 h10).2; omega
        · exact ht.2 h10 e
      refine ⟨pos, f, l, c, hp, hz, hv, by omega, by omega, fun _ => hin, ?_, h5, h6, by omega, fun _ => by omega, fun h => by omega⟩
      unfold cnt
      rw [if_neg hne]
      exact h4
    · obtain ⟨f, rfl⟩ : ∃ f', f = f' + 1 := ⟨f - 1, by omega⟩
      have hstep : ∀ at_ : Int, ((pos + (Utf8.decode s pos).2 : Nat) : Int) ≤ at_ → pl s at_ s.size 0 1 1 =
          if (Utf8.decode s pos).1 = 10 then pl s at_ f (pos + (Utf8.decode s pos).2) ((l + 1 : Nat) : Int) ((1 : Nat) : Int) else pl s at_ f (pos + (Utf8.decode s pos).2) (l : Int) ((c + 1 : Nat) : Int) := by
        intro at_ ha
        rw [hp at_ (by omega)]
        simp only [pl]
        rw [if_pos hps, runeLen_w s pos hps hc, w64n pos _ (by omega), if_neg (by omega), w64s l (by omega), w64s c (by omega)]
        by_cases h10 : (Utf8.decode s pos).1 = 10
        · rw [if_pos (by omega), if_pos h10]; rfl
        · rw [if_neg (by omega), if_neg h10]
      have hwin : pos + (Utf8.decode s pos).2 < s.size → i + 1 < pos + (Utf8.decode s pos).2 + (Utf8.decode s (pos + (Utf8.decode s pos).2)).2 := fun _ => by
        have := width_pos s (pos + (Utf8.decode s pos).2); omega
      by_cases h10 : (Utf8.decode s pos).1 = 10
      · refine ⟨pos + (Utf8.decode s pos).2, f, l + 1, 1, fun at_ ha => by rw [hstep at_ ha, if_pos h10], by have := width_pos s pos; omega, hv2, by omega, by omega, hwin, ?_, by omega, by omega, by omega, fun h => by omega, fun _ => rfl⟩
        unfold cnt
        rw [if_pos (ht.1 h10).1]
        omega
      · refine ⟨pos + (Utf8.decode s pos).2, f, l, c + 1, fun at_ ha => by rw [hstep at_ ha, if_neg h10], by have := width_pos s pos; omega, hv2, by omega, by omega, hwin, ?_, by omega, by have := width_pos s pos; omega, by omega, fun h => by omega, fun h => by omega⟩
        unfold cnt
        rw [if_neg (ht.2 h10)]
        exact h4
/-! ### both parts of a text that was cut -/
theorem decodeN_less (n m b0 b1 b2 b3 c1 c2 c3 : Nat) (hv : ¬ ((decodeN n b0 b1 b2 b3).1 = 65533 ∧ (decodeN n b0 b1 b2 b3).2 = 1)) (hm : (decodeN n b0 b1 b2 b3).2 ≤ m)
    (e1 : 1 < (decodeN n b0 b1 b2 b3).2 → c1 = b1) (e2 : 2 < (decodeN n b0 b1 b2 b3).2 → c2 = b2) (e3 : 3 < (decodeN n b0 b1 b2 b3).2 → c3 = b3) (hn : (decodeN n b0 b1 b2 b3).2 ≤ n) :
    decodeN m b0 c1 c2 c3 = decodeN n b0 b1 b2 b3 := by
  by_cases h0 : b0 < 128
  · simp only [decodeN, if_pos h0]
  · by_cases h2 : b0 / 32 = 6 ∧ (1 < n ∧ b1 / 64 = 2)
    · have hd : decodeN n b0 b1 b2 b3 = (if b0 % 32 * 64 + b1 % 64 ≥ 128 then (b0 % 32 * 64 + b1 % 64, 2) else (65533, 1)) := by unfold decodeN; rw [if_neg h0, if_pos h2]
      rw [hd] at hv hm e1 ⊢
      by_cases h3 : b0 % 32 * 64 + b1 % 64 ≥ 128
      · rw [if_pos h3] at hm e1 ⊢
        obtain rfl := e1 (by simp)
        unfold decodeN
        rw [if_neg h0, if_pos ⟨h2.1, by simp only at hm; omega, h2.2.2⟩, if_pos h3]
      · rw [if_neg h3] at hv; exact absurd ⟨rfl, rfl⟩ hv
    · by_cases h3 : b0 / 16 = 14 ∧ (1 < n ∧ b1 / 64 = 2) ∧ (2 < n ∧ b2 / 64 = 2)
      · have hd : decodeN n b0 b1 b2 b3 = (if b0 % 16 * 4096 + b1 % 64 * 64 + b2 % 64 ≥ 2048 ∧ (b0 % 16 * 4096 + b1 % 64 * 64 + b2 % 64 < 55296 ∨ (57344 ≤ b0 % 16 * 4096 + b1 % 64 * 64 + b2 % 64 ∧ b0 % 16 * 4096 + b1 % 64 * 64 + b2 % 64 ≤ 1114111)) then (b0 % 16 * 4096 + b1 % 64 * 64 + b2 % 64, 3) else (65533, 1)) := by
          unfold decodeN; rw [if_neg h0, if_neg h2, if_pos h3]
        rw [hd] at hv hm e1 e2 ⊢
        by_cases h4 : b0 % 16 * 4096 + b1 % 64 * 64 + b2 % 64 ≥ 2048 ∧ (b0 % 16 * 4096 + b1 % 64 * 64 + b2 % 64 < 55296 ∨ (57344 ≤ b0 % 16 * 4096 + b1 % 64 * 64 + b2 % 64 ∧ b0 % 16 * 4096 + b1 % 64 * 64 + b2 % 64 ≤ 1114111))
        · rw [if_pos h4] at hm e1 e2 ⊢
          obtain rfl := e1 (by simp)
          obtain rfl := e2 (by simp)
          unfold decodeN
          rw [if_neg h0, if_neg (by omega), if_pos ⟨h3.1, ⟨by simp only at hm; omega, h3.2.1.2⟩, by simp only at hm; omega, h3.2.2.2⟩, if_pos h4]
        · rw [if_neg h4] at hv; exact absurd ⟨rfl, rfl⟩ hv
      · by_cases h5 : b0 / 8 = 30 ∧ (1 < n ∧ b1 / 64 = 2) ∧ (2 < n ∧ b2 / 64 = 2) ∧ (3 < n ∧ b3 / 64 = 2)
        · have hd : decodeN n b0 b1 b2 b3 = (if b0 % 8 * 262144 + b1 % 64 * 4096 + b2 % 64 * 64 + b3 % 64 ≥ 65536 ∧ (b0 % 8 * 262144 + b1 % 64 * 4096 + b2 % 64 * 64 + b3 % 64 < 55296 ∨ (57344 ≤ b0 % 8 * 262144 + b1 % 64 * 4096 + b2 % 64 * 64 + b3 % 64 ∧ b0 % 8 * 262144 + b1 % 64 * 4096 + b2 % 64 * 64 + b3 % 64 ≤ 1114111)) then (b0 % 8 * 262144 + b1 % 64 * 4096 + b2 % 64 * 64 + b3 % 64, 4) else (65533, 1)) := by
            unfold decodeN; rw [if_neg h0, if_neg h2, if_neg h3, if_pos h5]
          rw [hd] at hv hm e1 e2 e3 ⊢
          by_cases h4 : b0 % 8 * 262144 + b1 % 64 * 4096 + b2 % 64 * 64 + b3 % 64 ≥ 65536 ∧ (b0 % 8 * 262144 + b1 % 64 * 4096 + b2 % 64 * 64 + b3 % 64 < 55296 ∨ (57344 ≤ b0 % 8 * 262144 + b1 % 64 * 4096 + b2 % 64 * 64 + b3 % 64 ∧ b0 % 8 * 262144 + b1 % 64 * 4096 + b2 % 64 * 64 + b3 % 64 ≤ 1114111))
          · rw [if_pos h4] at hm e1 e2 e3 ⊢
            obtain rfl := e1 (by simp)
            obtain rfl := e2 (by simp)
            obtain rfl := e3 (by simp)
            unfold decodeN
            rw [if_neg h0, if_neg (by omega), if_neg (by omega), if_pos ⟨h5.1, ⟨by simp only at hm; omega, h5.2.1.2⟩, ⟨by simp only at hm; omega, h5.2.2.1.2⟩, by simp only at hm; omega, h5.2.2.2.2⟩, if_pos h4]
          · rw [if_neg h4] at hv; exact absurd ⟨rfl, rfl⟩ hv
        · have hd : decodeN n b0 b1 b2 b3 = (65533, 1) := by unfold decodeN; rw [if_neg h0, if_neg h2, if_neg h3, if_neg h5]
          rw [hd] at hv; exact absurd ⟨rfl, rfl⟩ hv
theorem get_eq (s : ByteArray) (i : Nat) (h : i < s.size) : s.get! i = s[i]'h := by
  simp [ByteArray.get!, getElem!_pos, h]
  rfl
theorem get_ext (s : ByteArray) (P i : Nat) (h : i < P) (hP : P ≤ s.size) : (s.extract 0 P).get! i = s.get! i := by
  have hz : (s.extract 0 P).size = P := by rw [ByteArray.size_extract]; omega
  rw [get_eq (s.extract 0 P) i (by omega), get_eq s i (by omega), ByteArray.getElem_extract]
  simp
/-- A rune of the first part is the text's. -/
theorem decode_head (s : ByteArray) (P pos : Nat) (hP : P ≤ s.size) (hp : pos < s.size) (hv : ¬ ((Utf8.decode s pos).1 = 65533 ∧ (Utf8.decode s pos).2 = 1)) (hw : pos + (Utf8.decode s pos).2 ≤ P) :
    Utf8.decode (s.extract 0 P) pos = Utf8.decode s pos := by
  have hz : (s.extract 0 P).size = P := by rw [ByteArray.size_extract]; omega
  have hwl := w_le s pos hp
  have hw1 := width_pos s pos
  rw [decode_at] at hv hw hwl hw1
  rw [decode_at, decode_at s, hz, get_ext s P pos (by omega) hP]
  exact decodeN_less _ _ _ _ _ _ _ _ _ hv (by omega) (fun h => by rw [get_ext s P _ (by omega) hP]) (fun h => by rw [get_ext s P _ (by omega) hP]) (fun h => by rw [get_ext s P _ (by omega) hP]) (by omega)
theorem rl_succ (s : ByteArray) (f pos : Nat) : rl s (f + 1) pos = if pos < s.size then ((Utf8.decode s pos).1 : Int) :: rl s f (pos + (Utf8.decode s pos).2) else [] := rfl
theorem rl_fuel (s : ByteArray) : ∀ (f pos : Nat), s.size ≤ pos + f → rl s (f + 1) pos = rl s f pos
  | 0, pos, h => by simp [rl, show ¬ pos < s.size by omega]
  | f + 1, pos, h => by
    rw [rl_succ s (f + 1) pos, rl_succ s f pos]
    by_cases hp : pos < s.size
    · have := width_pos s pos
      rw [if_pos hp, if_pos hp, rl_fuel s f _ (by omega)]
    · rw [if_neg hp, if_neg hp]
theorem rl_enough (s : ByteArray) (f pos : Nat) (h : s.size ≤ pos + f) : ∀ d, rl s (f + d) pos = rl s f pos
  | 0 => rfl
  | d + 1 => by rw [← Nat.add_assoc, rl_fuel s (f + d) pos (by omega), rl_enough s f pos h d]
theorem cut_parts (s : ByteArray) (n : Nat) : ∀ (f pos k : Nat), pos ≤ s.size → s.size ≤ pos + f → vf s pos = true → k ≤ n →
    pos ≤ cp s f pos k n ∧ cp s f pos k n ≤ s.size ∧ vf s (cp s f pos k n) = true ∧ vf (s.extract 0 (cp s f pos k n)) pos = true ∧ rl (s.extract 0 (cp s f pos k n)) f pos = (rl s f pos).take (n - k) ∧
      rl s f (cp s f pos k n) = (rl s f pos).drop (n - k)
  | 0, pos, k, h1, h2, h3, h4 => by
    have hP : cp s 0 pos k n = pos := rfl
    have hz : (s.extract 0 pos).size = pos := by rw [ByteArray.size_extract]; omega
    rw [hP]
    exact ⟨Nat.le_refl _, h1, h3, vf_end _ _ (by omega), by simp [rl], by simp [rl]⟩
  | f + 1, pos, k, h1, h2, h3, h4 => by
    have hz : (s.extract 0 pos).size = pos := by rw [ByteArray.size_extract]; omega
    by_cases hp : pos < s.size
    · by_cases hk : (n : Int) ≤ k
      · obtain rfl : n = k := by omega
        rw [cp_stop hp hk, Nat.sub_self, List.take_zero, List.drop_zero]
        exact ⟨Nat.le_refl _, h1, h3, vf_end _ _ (by omega), by simp [rl, hz], rfl⟩
      · obtain ⟨hc, hv2⟩ := vf_at hp h3
        have hwl := w_le s pos hp
        have hw1 := width_pos s pos
        rw [cp_on hp (by omega)]
        have e : (k : Int) + 1 = ((k + 1 : Nat) : Int) := rfl
        rw [e]
        obtain ⟨g1, g2, g3, g4, g5, g6⟩ := cut_parts s n f (pos + (Utf8.decode s pos).2) (k + 1) hwl (by omega) hv2 (by omega)
        generalize cp s f (pos + (Utf8.decode s pos).2) ((k + 1 : Nat) : Int) (n : Int) = P at g1 g2 g3 g4 g5 g6 ⊢
        have hzP : (s.extract 0 P).size = P := by rw [ByteArray.size_extract]; omega
        have hdh := decode_head s P pos g2 hp hc g1
        have hnk : n - k = (n - (k + 1)) + 1 := by omega
        refine ⟨by omega, g2, g3, ?_, ?_, ?_⟩
        · rw [vf_step _ pos (by omega), hdh, if_neg hc]
          exact g4
        · rw [rl_succ, rl_succ, if_pos (by omega), if_pos hp, hdh, g5, hnk, List.take_succ_cons]
        · rw [rl_fuel s f P (by omega), g6, rl_succ, if_pos hp, hnk, List.drop_succ_cons]
    · rw [cp_end hp]
      refine ⟨Nat.le_refl _, h1, h3, vf_end _ _ (by omega), ?_, ?_⟩
      · simp [rl, hz, hp]
      · simp [rl, hp]
theorem tail_list (s : ByteArray) (P : Nat) : (s.extract P s.size).data.toList = s.data.toList.drop P := by
  rw [ext_list]
  have h2 : s.data.toList.length = s.size := Array.length_toList
  rw [List.take_of_length_le (by rw [List.length_drop]; omega)]
theorem decode_tail (s : ByteArray) (P pos : Nat) : Utf8.decode (s.extract P s.size) pos = Utf8.decode s (P + pos) := by
  rw [← decodeL_drop, tail_list, List.drop_drop, decodeL_drop]
theorem rl_tail (s : ByteArray) (P : Nat) (hP : P ≤ s.size) : ∀ (f pos : Nat), rl (s.extract P s.size) f pos = rl s f (P + pos)
  | 0, _ => rfl
  | f + 1, pos => by
    have hz : (s.extract P s.size).size = s.size - P := by rw [ByteArray.size_extract]; omega
    rw [rl_succ, rl_succ, decode_tail, hz]
    by_cases hp : P + pos < s.size
    · rw [if_pos (by omega), if_pos hp, rl_tail s P hP f _, Nat.add_assoc]
    · rw [if_neg (by omega), if_neg hp]
theorem vf_tail (s : ByteArray) (P : Nat) : vf (s.extract P s.size) 0 = vf s P := by
  unfold vf
  rw [ext_list, List.drop_zero]
  have h2 : s.data.toList.length = s.size := Array.length_toList
  rw [List.take_of_length_le (by rw [List.length_drop]; omega)]
/-- A valid text, cut behind n runes. -/
theorem cut_two (s : ByteArray) (hv : validD s.data.toList = true) (n : Nat) (hn : n ≤ (rl s s.size 0).length) :
    ∃ P, P ≤ s.size ∧ cutP s n = s.extract 0 P ∧ validD (s.extract 0 P).data.toList = true ∧ rl (s.extract 0 P) (s.extract 0 P).size 0 = (rl s s.size 0).take n ∧
      validD (s.extract P s.size).data.toList = true ∧ rl (s.extract P s.size) (s.extract P s.size).size 0 = (rl s s.size 0).drop n := by
  obtain ⟨g1, g2, g3, g4, g5, g6⟩ := cut_parts s n s.size 0 0 (by omega) (by omega) (by rw [vf_zero]; exact hv) (by omega)
  have e : (((0 : Nat) : Int)) = 0 := rfl
  rw [e] at g1 g2 g3 g4 g5 g6
  refine ⟨cp s s.size 0 0 n, g2, by unfold cutP; rw [if_pos hv], by rw [← vf_zero]; exact g4, ?_, by rw [← vf_zero, vf_tail]; exact g3, ?_⟩
  · generalize cp s s.size 0 0 (n : Int) = P at g2 g5 ⊢
    have hz : (s.extract 0 P).size = P := by rw [ByteArray.size_extract]; omega
    have := rl_enough (s.extract 0 P) P 0 (by omega) (s.size - P)
    rw [show P + (s.size - P) = s.size by omega, g5, Nat.sub_zero] at this
    rw [hz]
    exact this.symm
  · generalize cp s s.size 0 0 (n : Int) = P at g2 g6 ⊢
    have hz : (s.extract P s.size).size = s.size - P := by rw [ByteArray.size_extract]; omega
    have := rl_enough s (s.size - P) P (by omega) P
    rw [show s.size - P + P = s.size by omega, g6, Nat.sub_zero] at this
    rw [hz, rl_tail s P g2, Nat.add_zero]
    exact this.symm
end Go.Proofs.YtcnmelpnbfdgeaaDoor.RP
