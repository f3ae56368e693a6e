/- Words, walks and laws under the claim's statement: what it uses of them. No condition of its own. -/
import Derived.Test.YtlbemgokilhdnaaGreatDoorSgP0
import Derived.Lib.ValidLaws
import Derived.Lib.MapLaws
import Derived.Lib.DecodeN
import Derived.Test.YtlbemgokilhdnaaGreatDoorSgS0
import Derived.WalkKit
import Derived.WalkMore
import Derived.WalkSpells
import Derived.Below
import Derived.Outline
import Derived.Deep.LoopGhost
import Derived.Deep.DeepCutAuto
import Derived.Laws.RangeAny
import Derived.Lib.OthersKept
import Derived.Lib.Hide
import Derived.Deep.QuietTactic
import Derived.BigQuiet
import Derived.Lib.SlicesS
import Derived.WalkLawsBesides
import Derived.OneCell
import Derived.Lib.SplitLaws
import Derived.Lib.CutLaws
import Derived.Lib.IndexLaws
import Derived.Test.YtlbemgokilhdnaaGreatDoorSgAb1
import Derived.Test.YtlbemgokilhdnaaGreatDoorSgAb0
import Derived.Test.YtlbemgokilhdnaaGreatDoorSgL1
import Derived.Test.YtlbemgokilhdnaaGreatDoorSgL0
namespace Go.Proofs.YtlbemgokilhdnaaGreatDoor.RP
set_option linter.unusedVariables false
set_option linter.unusedSimpArgs false
open Go.RowKit Go.Lib Go.Proofs.YtlbemgokilhdnaaGreatDoorW.PrintWords Go.Proofs.YtlbemgokilhdnaaGreatDoorW.PrintLast Go.Proofs.YtlbemgokilhdnaaGreatDoorW.PrintMore Go.Proofs.YtlbemgokilhdnaaGreatDoor.PAll
theorem w64 {x : Int} (h0 : -9223372036854775808 ≤ x) (h1 : x ≤ 9223372036854775807) : wrap64 x = x := by unfold wrap64; omega
theorem w32 {x : Int} (h0 : -2147483648 ≤ x) (h1 : x ≤ 2147483647) : wrap32 x = x := by unfold wrap32; omega
theorem w64s (a : Nat) (h : a ≤ 9000000) : wrap64 ((a : Int) + 1) = ((a + 1 : Nat) : Int) := by rw [w64] <;> omega
theorem zW (s : ByteArray) (i : Nat) (h : i < s.size) : bt s (i : Int) = ((s.get! i).toNat : Int) := by
  have e : s.get! i = s[i]'h := by simp [ByteArray.get!, getElem!_pos, h]; rfl
  rw [e]
  simp [bt, h]
/-- What the reference's 'next' tells at a place within the text. -/
def nx (s : ByteArray) (i : Nat) : Int × Int := if (Utf8.decode s i).1 = 65533 ∧ (Utf8.decode s i).2 = 1 then (0, 0) else ((Utf8.decode s i).1, (Utf8.decode s i).2)
def nn (d : Nat × Nat) : Int × Int := if d.1 = 65533 ∧ d.2 = 1 then (0, 0) else (d.1, d.2)
theorem qO (s : ByteArray) (i n x m : Int) (k : Nat) :
    marquetryref01_next.l0 (k + 1) s i n x m n = some (if x < m ∨ x > 1114111 ∨ (55296 ≤ x ∧ x ≤ 57343) then (0, 0) else (wrap32 x, n)) := by
  simp only [marquetryref01_next.l0]
  rw [if_neg (Int.lt_irrefl n)]
  by_cases h1 : x < m
  · rw [if_pos h1, if_pos (Or.inl h1)]
  · rw [if_neg h1]
    by_cases h2 : x > 1114111
    · rw [if_pos h2, if_pos (Or.inr (Or.inl h2))]
    · rw [if_neg h2]
      by_cases h3 : x ≥ 55296
      · rw [if_pos h3]
        by_cases h4 : x ≤ 57343
        · rw [if_pos h4, if_pos (Or.inr (Or.inr ⟨h3, h4⟩))]
        · rw [if_neg h4, if_neg (by omega)]
      · rw [if_neg h3, if_neg (by omega)]
theorem pF (s : ByteArray) (i j : Nat) (n x m : Int) (c : Nat) (k : Nat) (hj : (j : Int) < n) (hi : i + j < s.size) (hs : s.size ≤ 140737488351232) (hc : (s.get! (i + j)).toNat = c)
    (hx0 : 0 ≤ x) (hx1 : x ≤ 1000000) :
    marquetryref01_next.l0 (k + 1) s (i : Int) n x m (j : Int) = if c < 128 ∨ 191 < c then some (0, 0) else marquetryref01_next.l0 k s (i : Int) n (64 * x + c - 128) m ((j + 1 : Nat) : Int) := by
  have hlt : c < 256 := by rw [← hc]; exact UInt8.toNat_lt _
  have e1 : wrap64 ((i : Int) + (j : Int)) = ((i + j : Nat) : Int) := by rw [w64] <;> omega
  have e2 : wrap64 (bt s ((i + j : Nat) : Int)) = (c : Int) := by rw [zW s _ hi, hc, w64] <;> omega
  have e3 : wrap64 (64 * x) = 64 * x := by rw [w64] <;> omega
  have e4 : wrap64 (64 * x + (c : Int)) = 64 * x + (c : Int) := by clear e1 e2 e3; rw [w64] <;> omega
  have e5 : wrap64 (64 * x + (c : Int) - 128) = 64 * x + (c : Int) - 128 := by clear e1 e2 e3 e4; rw [w64] <;> omega
  have e6 : wrap64 ((j : Int) + 1) = ((j + 1 : Nat) : Int) := by clear e1 e2 e3 e4 e5; rw [w64] <;> omega
  simp only [marquetryref01_next.l0]
  rw [e1, e2, e3, e4, e5, e6]
  clear e1 e2 e3 e4 e5 e6 hc
  rw [if_pos hj, if_pos (by omega), if_pos (by omega)]
  by_cases h1 : c < 128
  · rw [if_pos (by omega), if_pos (Or.inl h1)]
  · rw [if_neg (by omega)]
    by_cases h2 : 191 < c
    · rw [if_pos (by omega), if_pos (Or.inr h2)]
    · rw [if_neg (by omega), if_neg (by omega)]
/-- 'next' behind the lead byte. -/
theorem vZ (s : ByteArray) (i x m : Int) (k : Nat) : marquetryref01_next.j2 (k + 2) s i 0 x m = some (0, 0) := by
  simp only [marquetryref01_next.j2, marquetryref01_next.j3, if_true]
theorem nU (s : ByteArray) (i : Nat) (n x m : Int) (k : Nat) (hn : n ≠ 0) (hs : s.size ≤ 140737488351232) (hi : i < s.size) (h : (s.size : Int) - (i : Int) < n) :
    marquetryref01_next.j2 (k + 2) s (i : Int) n x m = some (0, 0) := by
  have e : wrap64 ((s.size : Int) - (i : Int)) = (s.size : Int) - (i : Int) := by rw [w64] <;> omega
  simp only [marquetryref01_next.j2, marquetryref01_next.j3]
  rw [if_neg hn, e, decide_eq_true h]
  simp
theorem qP (s : ByteArray) (i : Nat) (n x m : Int) (k : Nat) (hn : n ≠ 0) (hs : s.size ≤ 140737488351232) (hi : i < s.size) (h : ¬ (s.size : Int) - (i : Int) < n) :
    marquetryref01_next.j2 (k + 2) s (i : Int) n x m = marquetryref01_next.l0 k s (i : Int) n x m 1 := by
  have e : wrap64 ((s.size : Int) - (i : Int)) = (s.size : Int) - (i : Int) := by rw [w64] <;> omega
  simp only [marquetryref01_next.j2, marquetryref01_next.j3]
  rw [if_neg hn, e, decide_eq_false h]
  simp
theorem two (s : ByteArray) (i : Nat) (b0 b1 b2 b3 : Nat) (k : Nat) (hi : i < s.size) (hs : s.size ≤ 140737488351232) (h1 : (s.get! (i + 1)).toNat = b1) (ha : 194 ≤ b0) (hb : b0 < 224) :
    marquetryref01_next.j2 (k + 4) s (i : Int) 2 ((b0 : Int) - 192) 128 = some (nn (decodeN (s.size - i) b0 b1 b2 b3)) := by
  have hd : decodeN (s.size - i) b0 b1 b2 b3 = if 1 < s.size - i ∧ b1 / 64 = 2 then (b0 % 32 * 64 + b1 % 64, 2) else (65533, 1) := by
    unfold decodeN
    rw [if_neg (by omega)]
    by_cases hc : 1 < s.size - i ∧ b1 / 64 = 2
    · rw [if_pos ⟨by omega, hc⟩, if_pos (by omega), if_pos hc]
    · rw [if_neg (fun h => hc h.2), if_neg (by omega), if_neg (by omega), if_neg hc]
  rw [hd]
  have l1 : b1 < 256 := by rw [← h1]; exact UInt8.toNat_lt _
  by_cases hl : (s.size : Int) - (i : Int) < 2
  · rw [nU s i 2 _ _ (k + 2) (by omega) hs hi hl, if_neg (by omega)]
    rfl
  · rw [qP s i 2 _ _ (k + 2) (by omega) hs hi hl]
    have g := pF s i 1 2 ((b0 : Int) - 192) 128 b1 (k + 1) (by omega) (by omega) hs h1 (by omega) (by omega)
    have g' : marquetryref01_next.l0 (k + 2) s (i : Int) 2 ((b0 : Int) - 192) 128 1 = _ := g
    rw [g']
    by_cases hc : b1 < 128 ∨ 191 < b1
    · rw [if_pos hc, if_neg (by omega)]
      rfl
    · rw [if_neg hc, if_pos (by omega)]
      have g2 := qO s (i : Int) 2 (64 * ((b0 : Int) - 192) + b1 - 128) 128 k
      have g2' : marquetryref01_next.l0 (k + 1) s (i : Int) 2 (64 * ((b0 : Int) - 192) + b1 - 128) 128 ((1 + 1 : Nat) : Int) = _ := g2
      rw [g2', if_neg (by omega), w32 (by omega) (by omega)]
      unfold nn
      rw [if_neg (by simp only; omega)]
      simp only [Option.some.injEq, Prod.mk.injEq]
      omega
theorem three (s : ByteArray) (i : Nat) (b0 b1 b2 b3 : Nat) (k : Nat) (hi : i < s.size) (hs : s.size ≤ 140737488351232) (h1 : (s.get! (i + 1)).toNat = b1) (h2 : (s.get! (i + 2)).toNat = b2) (ha : 224 ≤ b0) (hb : b0 < 240) :
    marquetryref01_next.j2 (k + 5) s (i : Int) 3 ((b0 : Int) - 224) 2048 = some (nn (decodeN (s.size - i) b0 b1 b2 b3)) := by
  have hd : decodeN (s.size - i) b0 b1 b2 b3 = if (1 < s.size - i ∧ b1 / 64 = 2) ∧ (2 < s.size - i ∧ b2 / 64 = 2) then
      (if b0 % 16 * 4096 + b1 % 64 * 64 + b2 % 64 ≥ 2048 ∧ (b0 % 16 * 4096 + b1 % 64 * 64 + b2 % 64 < 55296 ∨ (57344 ≤ b0 % 16 * 4096 + b1 % 64 * 64 + b2 % 64 ∧ b0 % 16 * 4096 + b1 % 64 * 64 + b2 % 64 ≤ 1114111)) then (b0 % 16 * 4096 + b1 % 64 * 64 + b2 % 64, 3) else (65533, 1)) else (65533, 1) := by
    unfold decodeN
    rw [if_neg (by omega), if_neg (by omega)]
    by_cases hc : (1 < s.size - i ∧ b1 / 64 = 2) ∧ (2 < s.size - i ∧ b2 / 64 = 2)
    · rw [if_pos ⟨by omega, hc⟩, if_pos hc]
    · rw [if_neg (fun h => hc h.2), if_neg (by omega), if_neg hc]
  rw [hd]
  clear hd
  have l1 : b1 < 256 := by rw [← h1]; exact UInt8.toNat_lt _
  have l2 : b2 < 256 := by rw [← h2]; exact UInt8.toNat_lt _
  by_cases hl : (s.size : Int) - (i : Int) < 3
  · rw [nU s i 3 _ _ (k + 3) (by omega) hs hi hl, if_neg (by omega)]
    rfl
  · rw [qP s i 3 _ _ (k + 3) (by omega) hs hi hl]
    have g' : marquetryref01_next.l0 (k + 3) s (i : Int) 3 ((b0 : Int) - 224) 2048 1 = _ := pF s i 1 3 ((b0 : Int) - 224) 2048 b1 (k + 2) (by omega) (by omega) hs h1 (by omega) (by omega)
    rw [g']
    by_cases hc : b1 < 128 ∨ 191 < b1
    · rw [if_pos hc, if_neg (by omega)]
      rfl
    · rw [if_neg hc]
      have g2' := pF s i 2 3 (64 * ((b0 : Int) - 224) + b1 - 128) 2048 b2 (k + 1) (by omega) (by omega) hs h2 (by omega) (by omega)
      have g2 : marquetryref01_next.l0 (k + 2) s (i : Int) 3 (64 * ((b0 : Int) - 224) + b1 - 128) 2048 ((1 + 1 : Nat) : Int) = _ := g2'
      rw [g2]
      by_cases hc2 : b2 < 128 ∨ 191 < b2
      · rw [if_pos hc2, if_neg (by omega)]
        rfl
      · rw [if_neg hc2, if_pos (by omega)]
        have g3 : marquetryref01_next.l0 (k + 1) s (i : Int) 3 (64 * (64 * ((b0 : Int) - 224) + b1 - 128) + b2 - 128) 2048 ((2 + 1 : Nat) : Int) = _ := qO s (i : Int) 3 (64 * (64 * ((b0 : Int) - 224) + b1 - 128) + b2 - 128) 2048 k
        rw [g3]
        clear g' g2 g2' g3
        by_cases hv : b0 % 16 * 4096 + b1 % 64 * 64 + b2 % 64 ≥ 2048 ∧ (b0 % 16 * 4096 + b1 % 64 * 64 + b2 % 64 < 55296 ∨ (57344 ≤ b0 % 16 * 4096 + b1 % 64 * 64 + b2 % 64 ∧ b0 % 16 * 4096 + b1 % 64 * 64 + b2 % 64 ≤ 1114111))
        · rw [if_pos hv, if_neg (by omega), w32 (by omega) (by omega)]
          unfold nn
          rw [if_neg (by simp only; omega)]
          simp only [Option.some.injEq, Prod.mk.injEq]
          omega
        · rw [if_neg hv, if_pos (by omega)]
          rfl
theorem four (s : ByteArray) (i : Nat) (b0 b1 b2 b3 : Nat) (k : Nat) (hi : i < s.size) (hs : s.size ≤ 140737488351232) (h1 : (s.get! (i + 1)).toNat = b1) (h2 : (s.get! (i + 2)).toNat = b2) (h3 : (s.get! (i + 3)).toNat = b3)
    (ha : 240 ≤ b0) (hb : b0 < 245) :
    marquetryref01_next.j2 (k + 6) s (i : Int) 4 ((b0 : Int) - 240) 65536 = some (nn (decodeN (s.size - i) b0 b1 b2 b3)) := by
  have hd : decodeN (s.size - i) b0 b1 b2 b3 = if (1 < s.size - i ∧ b1 / 64 = 2) ∧ (2 < s.size - i ∧ b2 / 64 = 2) ∧ (3 < s.size - i ∧ b3 / 64 = 2) then
      (if b0 % 8 * 262144 + b1 % 64 * 4096 + b2 % 64 * 64 + b3 % 64 ≥ 65536 ∧ (b0 % 8 * 262144 + b1 % 64 * 4096 + b2 % 64 * 64 + b3 % 64 < 55296 ∨ (57344 ≤ b0 % 8 * 262144 + b1 % 64 * 4096 + b2 % 64 * 64 + b3 % 64 ∧ b0 % 8 * 262144 + b1 % 64 * 4096 + b2 % 64 * 64 + b3 % 64 ≤ 1114111)) then (b0 % 8 * 262144 + b1 % 64 * 4096 + b2 % 64 * 64 + b3 % 64, 4) else (65533, 1)) else (65533, 1) := by
    unfold decodeN
    rw [if_neg (by omega), if_neg (by omega), if_neg (by omega)]
    by_cases hc : (1 < s.size - i ∧ b1 / 64 = 2) ∧ (2 < s.size - i ∧ b2 / 64 = 2) ∧ (3 < s.size - i ∧ b3 / 64 = 2)
    · rw [if_pos ⟨by omega, hc⟩, if_pos hc]
    · rw [if_neg (fun h => hc h.2), if_neg hc]
  rw [hd]
  clear hd
  have l1 : b1 < 256 := by rw [← h1]; exact UInt8.toNat_lt _
  have l2 : b2 < 256 := by rw [← h2]; exact UInt8.toNat_lt _
  have l3 : b3 < 256 := by rw [← h3]; exact UInt8.toNat_lt _
  by_cases hl : (s.size : Int) - (i : Int) < 4
  · rw [nU s i 4 _ _ (k + 4) (by omega) hs hi hl, if_neg (by omega)]
    rfl
  · rw [qP s i 4 _ _ (k + 4) (by omega) hs hi hl]
    have g' : marquetryref01_next.l0 (k + 4) s (i : Int) 4 ((b0 : Int) - 240) 65536 1 = _ := pF s i 1 4 ((b0 : Int) - 240) 65536 b1 (k + 3) (by omega) (by omega) hs h1 (by omega) (by omega)
    rw [g']
    by_cases hc : b1 < 128 ∨ 191 < b1
    · rw [if_pos hc, if_neg (by omega)]
      rfl
    · rw [if_neg hc]
      have g2 : marquetryref01_next.l0 (k + 3) s (i : Int) 4 (64 * ((b0 : Int) - 240) + b1 - 128) 65536 ((1 + 1 : Nat) : Int) = _ := pF s i 2 4 (64 * ((b0 : Int) - 240) + b1 - 128) 65536 b2 (k + 2) (by omega) (by omega) hs h2 (by omega) (by omega)
      rw [g2]
      by_cases hc2 : b2 < 128 ∨ 191 < b2
      · rw [if_pos hc2, if_neg (by omega)]
        rfl
      · rw [if_neg hc2]
        have g3 : marquetryref01_next.l0 (k + 2) s (i : Int) 4 (64 * (64 * ((b0 : Int) - 240) + b1 - 128) + b2 - 128) 65536 ((2 + 1 : Nat) : Int) = _ := pF s i 3 4 (64 * (64 * ((b0 : Int) - 240) + b1 - 128) + b2 - 128) 65536 b3 (k + 1) (by omega) (by omega) hs h3 (by omega) (by omega)
        rw [g3]
        by_cases hc3 : b3 < 128 ∨ 191 < b3
        · rw [if_pos hc3, if_neg (by omega)]
          rfl
        · rw [if_neg hc3, if_pos (by omega)]
          have g4 : marquetryref01_next.l0 (k + 1) s (i : Int) 4 (64 * (64 * (64 * ((b0 : Int) - 240) + b1 - 128) + b2 - 128) + b3 - 128) 65536 ((3 + 1 : Nat) : Int) = _ := qO s (i : Int) 4 (64 * (64 * (64 * ((b0 : Int) - 240) + b1 - 128) + b2 - 128) + b3 - 128) 65536 k
          rw [g4]
          clear g' g2 g3 g4
          by_cases hv : b0 % 8 * 262144 + b1 % 64 * 4096 + b2 % 64 * 64 + b3 % 64 ≥ 65536 ∧ (b0 % 8 * 262144 + b1 % 64 * 4096 + b2 % 64 * 64 + b3 % 64 < 55296 ∨ (57344 ≤ b0 % 8 * 262144 + b1 % 64 * 4096 + b2 % 64 * 64 + b3 % 64 ∧ b0 % 8 * 262144 + b1 % 64 * 4096 + b2 % 64 * 64 + b3 % 64 ≤ 1114111))
          · rw [if_pos hv, if_neg (by omega), w32 (by omega) (by omega)]
            unfold nn
            rw [if_neg (by simp only; omega)]
            simp only [Option.some.injEq, Prod.mk.injEq]
            omega
          · rw [if_neg hv, if_pos (by omega)]
            rfl
theorem none_ (n b0 b1 b2 b3 : Nat) (h : 128 ≤ b0 ∧ b0 < 194 ∨ 245 ≤ b0) : decodeN n b0 b1 b2 b3 = (65533, 1) := by
  unfold decodeN
  repeat' split
  all_goals first | rfl | (exfalso; omega)
theorem aAQ (s : ByteArray) (i : Nat) (hi : i < s.size) (hs : s.size ≤ 140737488351232) (k : Nat) : marquetryref01_next.f (k + 9) s (i : Int) = some (nx s i) := by
  have hb0 := zW s i hi
  have l0 := UInt8.toNat_lt (s.get! i)
  have l1 := UInt8.toNat_lt (s.get! (i + 1))
  have l2 := UInt8.toNat_lt (s.get! (i + 2))
  have l3 := UInt8.toNat_lt (s.get! (i + 3))
  show _ = some (nn (Utf8.decode s i))
  rw [decode_at]
  have g1 := two s i (s.get! i).toNat (s.get! (i + 1)).toNat (s.get! (i + 2)).toNat (s.get! (i + 3)).toNat (k + 4) hi hs rfl
  have g2 := three s i (s.get! i).toNat (s.get! (i + 1)).toNat (s.get! (i + 2)).toNat (s.get! (i + 3)).toNat (k + 2) hi hs rfl rfl
  have g3 := four s i (s.get! i).toNat (s.get! (i + 1)).toNat (s.get! (i + 2)).toNat (s.get! (i + 3)).toNat (k + 1) hi hs rfl rfl rfl
  have g4 := none_ (s.size - i) (s.get! i).toNat (s.get! (i + 1)).toNat (s.get! (i + 2)).toNat (s.get! (i + 3)).toNat
  unfold marquetryref01_next.f
  rw [hb0]
  clear hb0
  generalize (s.get! i).toNat = b0 at *
  generalize (s.get! (i + 1)).toNat = b1 at *
  generalize (s.get! (i + 2)).toNat = b2 at *
  generalize (s.get! (i + 3)).toNat = b3 at *
  have eb : wrap64 (b0 : Int) = (b0 : Int) := w64 (by omega) (by omega)
  rw [eb, if_pos (by omega), if_pos (by omega)]
  clear eb
  by_cases h1 : b0 < 128
  · rw [if_pos (by omega)]
    have : decodeN (s.size - i) b0 b1 b2 b3 = (b0, 1) := by unfold decodeN; rw [if_pos h1]
    rw [this, w32 (by omega) (by omega)]
    unfold nn
    rw [if_neg (by simp only; omega)]
    rfl
  · rw [if_neg (by omega)]
    by_cases h2 : b0 < 194
    · rw [if_neg (by omega), g4 (by omega)]
      simp only [marquetryref01_next.j0, Bool.false_eq_true, if_false]
      rw [if_neg (by omega)]
      simp only [marquetryref01_next.j1, Bool.false_eq_true, if_false]
      rw [if_neg (by omega)]
      exact vZ s (i : Int) _ _ (k + 5)
    · rw [if_pos (by omega)]
      by_cases h3 : b0 < 224
      · rw [decide_eq_true (by omega)]
        have e : wrap64 ((b0 : Int) - 192) = (b0 : Int) - 192 := w64 (by omega) (by omega)
        simp only [marquetryref01_next.j0, if_true]
        rw [e]
        exact g1 (by omega) h3
      · rw [decide_eq_false (by omega)]
        simp only [marquetryref01_next.j0, Bool.false_eq_true, if_false]
        rw [if_pos (by omega)]
        by_cases h4 : b0 < 240
        · rw [decide_eq_true (by omega)]
          have e : wrap64 ((b0 : Int) - 224) = (b0 : Int) - 224 := w64 (by omega) (by omega)
          simp only [marquetryref01_next.j1, if_true]
          rw [e]
          exact g2 (by omega) h4
        · rw [decide_eq_false (by omega)]
          simp only [marquetryref01_next.j1, Bool.false_eq_true, if_false]
          rw [if_pos (by omega)]
          by_cases h5 : b0 < 245
          · have e : wrap64 ((b0 : Int) - 240) = (b0 : Int) - 240 := w64 (by omega) (by omega)
            rw [if_pos (by omega), e]
            exact g3 (by omega) h5
          · rw [if_neg (by omega), g4 (by omega)]
            exact vZ s (i : Int) _ _ (k + 5)
/-- Is the text valid from a place on? -/
def vf (s : ByteArray) (pos : Nat) : Bool := validD (s.data.toList.drop pos)
/-- The runes from a place on, at most so many. -/
def rl (s : ByteArray) : Nat → Nat → List Int
  | 0, _ => []
  | f + 1, pos => if pos < s.size then ((Utf8.decode s pos).1 : Int) :: rl s f (pos + (Utf8.decode s pos).2) else []
theorem wA (s : ByteArray) (pos : Nat) (h : pos < s.size) : s.data.toList.drop pos ≠ [] := by
  intro e
  have := congrArg List.length e
  rw [List.length_drop] at this
  have h2 : s.data.toList.length = s.size := Array.length_toList
  simp only [List.length_nil] at this
  omega
theorem aAR (s : ByteArray) (pos : Nat) (h : pos < s.size) : vf s pos = if (Utf8.decode s pos).1 = 65533 ∧ (Utf8.decode s pos).2 = 1 then false else vf s (pos + (Utf8.decode s pos).2) := by
  unfold vf
  rw [validD_step _ (wA s pos h), decodeL_drop, List.drop_drop]
theorem zX (s : ByteArray) (pos : Nat) (h : ¬ pos < s.size) : vf s pos = true := by
  unfold vf
  rw [List.drop_eq_nil_of_le (by have h2 : s.data.toList.length = s.size := Array.length_toList
                                 omega)]
  rfl
theorem aAS (s : ByteArray) : vf s 0 = validD s.data.toList := by unfold vf; rw [List.drop_zero]
theorem w_le (s : ByteArray) (pos : Nat) (h : pos < s.size) : pos + (Utf8.decode s pos).2 ≤ s.size := by
  have := decodeL_le (s.data.toList.drop pos) (wA s pos h)
  rw [decodeL_drop, List.length_drop] at this
  have h2 : s.data.toList.length = s.size := Array.length_toList
  omega
theorem aBr {s : ByteArray} {pos : Nat} (h : (Utf8.decode s pos).1 = 65533 ∧ (Utf8.decode s pos).2 = 1) : nx s pos = (0, 0) := by unfold nx; rw [if_pos h]
theorem aAT {s : ByteArray} {pos : Nat} (h : ¬ ((Utf8.decode s pos).1 = 65533 ∧ (Utf8.decode s pos).2 = 1)) : nx s pos = (((Utf8.decode s pos).1 : Int), ((Utf8.decode s pos).2 : Int)) := by unfold nx; rw [if_neg h]
theorem aAU (s : ByteArray) (i : Nat) (hi : i < s.size) (hs : s.size ≤ 1000000) (k : Nat) (hk : 9 ≤ k) : marquetryref01_next.f k s (i : Int) = some (nx s i) := by
  obtain ⟨j, rfl⟩ : ∃ j, k = j + 9 := ⟨k - 9, by omega⟩
  exact aAQ s i hi (by omega) j
theorem xO (s : ByteArray) (hs : s.size ≤ 1000000) : ∀ (d pos : Nat) (acc : List Int) (k : Nat), pos ≤ s.size → s.size - pos ≤ d → acc.length ≤ pos → d + 10 ≤ k →
    marquetryref01_Decode.l0 k s acc (pos : Int) = some (if vf s pos = true then (acc ++ rl s d pos, 0) else ([], 4)) := by
  intro d
  induction d with
  | zero =>
    intro pos acc k h1 h2 h3 hk
    obtain ⟨k, rfl⟩ : ∃ m, k = m + 1 := ⟨k - 1, by omega⟩
    simp only [marquetryref01_Decode.l0]
    rw [if_neg (by omega), zX s pos (by omega), if_pos rfl]
    simp [rl]
  | succ d ih =>
    intro pos acc k h1 h2 h3 hk
    obtain ⟨k, rfl⟩ : ∃ m, k = m + 1 := ⟨k - 1, by omega⟩
    simp only [marquetryref01_Decode.l0]
    by_cases hp : pos < s.size
    · have hw := w_le s pos hp
      have hw1 := width_pos s pos
      rw [if_pos (by omega), aAU s pos hp hs k (by omega), aAR s pos hp]
      simp only [Option.bind_some]
      by_cases hc : (Utf8.decode s pos).1 = 65533 ∧ (Utf8.decode s pos).2 = 1
      · rw [aBr hc, if_pos hc]
        simp
      · rw [aAT hc, if_neg hc]
        simp only
        rw [if_neg (by omega), if_pos (by omega)]
        have e : wrap64 ((pos : Int) + ((Utf8.decode s pos).2 : Int)) = ((pos + (Utf8.decode s pos).2 : Nat) : Int) := by rw [w64] <;> omega
        rw [e, ih (pos + (Utf8.decode s pos).2) (acc ++ [((Utf8.decode s pos).1 : Int)]) k hw (by omega) (by simp; omega) (by omega)]
        simp [rl, hp]
    · rw [if_neg (by omega), zX s pos hp, if_pos rfl]
      simp [rl, hp]
theorem xP (s : ByteArray) (hs : s.size ≤ 1000000) (k : Nat) (hk : s.size + 10 ≤ k) : marquetryref01_Decode.f k s = some (if vf s 0 = true then (rl s s.size 0, 0) else ([], 4)) := by
  unfold marquetryref01_Decode.f
  have := xO s hs s.size 0 [] k (by omega) (by omega) (by simp) hk
  simpa using this
def high (r : Int) : Int := if 128 ≤ r ∧ r ≤ 1114111 ∧ r ≠ 65533 ∧ (r < 55296 ∨ 57343 < r) then 1 else 0
def blank (r : Int) : Int := if r = 32 ∨ r = 9 ∨ r = 10 then 3 else high r
def digit (r : Int) : Int := if 48 ≤ r ∧ r ≤ 57 then 2 else blank r
/-- A rune's class. -/
def classP (r : Int) : Int := if (65 ≤ r ∧ r ≤ 90) ∨ (97 ≤ r ∧ r ≤ 122) ∨ r = 95 then 1 else digit r
theorem aBI (k : Nat) (r : Int) : utf8_ValidRune.f (k + 1) r = some (decide ((0 ≤ r ∧ r < 55296) ∨ (57343 < r ∧ r ≤ 1114111))) := by
  unfold utf8_ValidRune.f
  by_cases h : 0 ≤ r
  · rw [if_pos h]
    by_cases h2 : r < 55296
    · rw [decide_eq_true h2, decide_eq_true (Or.inl ⟨h, h2⟩)]
      simp only [utf8_ValidRune.j0, if_true]
    · rw [decide_eq_false h2]
      simp only [utf8_ValidRune.j0, Bool.false_eq_true, if_false]
      by_cases h3 : 57343 < r
      · rw [if_pos h3]
        by_cases h4 : r ≤ 1114111
        · rw [if_pos h4, decide_eq_true (Or.inr ⟨h3, h4⟩)]
        · rw [if_neg h4, decide_eq_false (by omega)]
      · rw [if_neg h3, decide_eq_false (by omega)]
  · rw [if_neg h, decide_eq_false (by omega)]
    simp only [utf8_ValidRune.j0, Bool.false_eq_true, if_false]
    rw [if_neg (by omega)]
theorem c_j3 (k : Nat) (r : Int) (b : Bool) : runes_Class.j3 (k + 2) r b = some (if b = true then 3 else high r) := by
  cases b with
  | true => simp only [runes_Class.j3, if_true]
  | false =>
    simp only [runes_Class.j3, Bool.false_eq_true, if_false]
    unfold high
    by_cases h : 128 ≤ r
    · rw [if_pos h]
      by_cases h2 : r = 65533
      · rw [if_pos h2, if_neg (by omega)]
      · rw [if_neg h2, aBI]
        simp only [Option.bind_some]
        by_cases h3 : (0 ≤ r ∧ r < 55296) ∨ (57343 < r ∧ r ≤ 1114111)
        · rw [decide_eq_true h3, if_pos rfl, if_pos (by omega)]
        · rw [decide_eq_false h3, if_neg (by decide), if_neg (by omega)]
    · rw [if_neg h, if_neg (by omega)]
theorem c_j2 (k : Nat) (r : Int) (b : Bool) : runes_Class.j2 (k + 3) r b = some (if b = true then 2 else blank r) := by
  cases b with
  | true => simp only [runes_Class.j2, if_true]
  | false =>
    simp only [runes_Class.j2, Bool.false_eq_true, if_false, c_j3]
    unfold blank
    by_cases h : r = 32
    · rw [if_pos h, if_pos (by simpa using h), if_pos (by omega)]
    · rw [if_neg h]
      by_cases h2 : r = 9
      · rw [if_pos h2, if_pos (by simpa using h2), if_pos (by omega)]
      · rw [if_neg h2]
        by_cases h3 : r = 10
        · rw [if_pos (by simpa using h3), if_pos (by omega)]
        · rw [if_neg (by simpa using h3), if_neg (by omega)]
theorem c_j1 (k : Nat) (r : Int) (b : Bool) : runes_Class.j1 (k + 4) r b = some (if b = true then 1 else digit r) := by
  cases b with
  | true => simp only [runes_Class.j1, if_true]
  | false =>
    simp only [runes_Class.j1, Bool.false_eq_true, if_false, c_j2]
    unfold digit
    by_cases h : 48 ≤ r
    · rw [if_pos h]
      by_cases h2 : r ≤ 57
      · rw [if_pos (by simpa using h2), if_pos ⟨h, h2⟩]
      · rw [if_neg (by simpa using h2), if_neg (by omega)]
    · rw [if_neg h, if_neg (by omega)]
theorem c_j0 (k : Nat) (r : Int) (b : Bool) : runes_Class.j0 (k + 5) r b = some (if b = true then 1 else if (97 ≤ r ∧ r ≤ 122) ∨ r = 95 then 1 else digit r) := by
  cases b with
  | true => simp only [runes_Class.j0, if_true, c_j1]
  | false =>
    simp only [runes_Class.j0, Bool.false_eq_true, if_false, c_j1]
    by_cases h : 97 ≤ r
    · rw [if_pos h]
      by_cases h2 : r ≤ 122
      · rw [if_pos h2, if_pos (by simpa using h2), if_pos (by omega)]
      · rw [if_neg h2, if_neg (by simp; omega), if_neg (by omega)]
    · rw [if_neg h]
      by_cases h3 : r = 95
      · rw [if_pos (by simpa using h3), if_pos (by omega)]
      · rw [if_neg (by simpa using h3), if_neg (by omega)]
theorem zY (k : Nat) (r : Int) : runes_Class.f (k + 5) r = some (classP r) := by
  unfold runes_Class.f classP
  rw [c_j0, c_j0]
  by_cases h : 65 ≤ r
  · rw [if_pos h]
    by_cases h2 : r ≤ 90
    · rw [if_pos (by simpa using h2), if_pos (by omega)]
    · rw [if_neg (by simpa using h2)]
      by_cases h3 : (97 ≤ r ∧ r ≤ 122) ∨ r = 95
      · rw [if_pos h3, if_pos (by omega)]
      · rw [if_neg h3, if_neg (by omega)]
  · rw [if_neg h, if_neg (by decide)]
    by_cases h3 : (97 ≤ r ∧ r ≤ 122) ∨ r = 95
    · rw [if_pos h3, if_pos (by omega)]
    · rw [if_neg h3, if_neg (by omega)]
theorem r_j2 (k : Nat) (r : Int) (b : Bool) : marquetryref01_Class.j2 (k + 1) r b = some (if b = true then 3 else high r) := by
  cases b with
  | true => simp only [marquetryref01_Class.j2, if_true]
  | false =>
    simp only [marquetryref01_Class.j2, Bool.false_eq_true, if_false]
    unfold high
    by_cases h : 128 ≤ r
    · rw [if_pos h]
      by_cases h1 : r ≤ 1114111
      · rw [if_pos h1]
        by_cases h2 : r = 65533
        · rw [if_pos h2, if_neg (by omega)]
        · rw [if_neg h2]
          by_cases h3 : r < 55296
          · rw [if_pos h3, if_pos (by omega)]
          · rw [if_neg h3]
            by_cases h4 : 57343 < r
            · rw [if_pos h4, if_pos (by omega)]
            · rw [if_neg (by omega), if_neg (by omega)]
      · rw [if_neg h1, if_neg (by omega)]
    · rw [if_neg h, if_neg (by omega)]
theorem r_j1 (k : Nat) (r : Int) (b : Bool) : marquetryref01_Class.j1 (k + 2) r b = some (if b = true then 2 else blank r) := by
  cases b with
  | true => simp only [marquetryref01_Class.j1, if_true]
  | false =>
    simp only [marquetryref01_Class.j1, Bool.false_eq_true, if_false, r_j2, if_true]
    unfold blank
    by_cases h : r = 32
    · rw [if_pos h, if_pos (by omega)]
    · rw [if_neg h]
      by_cases h2 : r = 9
      · rw [if_pos h2, if_pos (by omega)]
      · rw [if_neg h2]
        by_cases h3 : r = 10
        · rw [if_pos (by simpa using h3), if_pos (by omega)]
        · rw [if_neg (by simpa using h3), if_neg (by omega)]
theorem r_j0 (k : Nat) (r : Int) (b : Bool) : marquetryref01_Class.j0 (k + 3) r b = some (if b = true then 1 else digit r) := by
  cases b with
  | true => simp only [marquetryref01_Class.j0, if_true]
  | false =>
    simp only [marquetryref01_Class.j0, Bool.false_eq_true, if_false, r_j1]
    unfold digit
    by_cases h : 48 ≤ r
    · rw [if_pos h]
      by_cases h2 : r ≤ 57
      · rw [if_pos (by simpa using h2), if_pos ⟨h, h2⟩]
      · rw [if_neg (by simpa using h2), if_neg (by omega)]
    · rw [if_neg h, if_neg (by omega)]
theorem tA (k : Nat) (r : Int) : marquetryref01_Class.f (k + 3) r = some (classP r) := by
  unfold marquetryref01_Class.f classP
  simp only [r_j0, if_true, beq_iff_eq]
  by_cases h : (65 ≤ r ∧ r ≤ 90) ∨ (97 ≤ r ∧ r ≤ 122) ∨ r = 95
  · rw [if_pos h]
    by_cases h1 : 65 ≤ r
    · rw [if_pos h1]
      by_cases h2 : r ≤ 90
      · rw [if_pos h2]
      · rw [if_neg h2]
        by_cases h3 : 97 ≤ r
        · rw [if_pos h3, if_pos (by omega)]
        · rw [if_neg h3, if_pos (by omega)]
    · omega
  · rw [if_neg h]
    by_cases h1 : 65 ≤ r
    · rw [if_pos h1, if_neg (by omega)]
      by_cases h3 : 97 ≤ r
      · rw [if_pos h3, if_neg (by omega), if_neg (by omega)]
      · rw [if_neg h3, if_neg (by omega)]
    · rw [if_neg h1, if_neg (by omega), if_neg (by omega)]
/-- May a rune not stand in a text? -/
def badR (r : Int) : Prop := r = 65533 ∨ (r < 32 ∧ ¬ classP r = 3) ∨ r = 127
instance (r : Int) : Decidable (badR r) := by unfold badR; infer_instance
/-- runes.Decode, as a function. -/
def decodeP (s : ByteArray) : List Int × Int := if validD s.data.toList = true then (rl s s.size 0, 0) else ([], 4)
theorem vC (s : ByteArray) (hs : s.size ≤ 1000000) (k : Nat) (hk : s.size + 10 ≤ k) : marquetryref01_Decode.f k s = some (decodeP s) := by
  rw [xP s hs k hk, aAS]
  rfl
theorem vD (s : ByteArray) : ∀ (d pos : Nat), (rl s d pos).length ≤ d
  | 0, _ => Nat.le_refl _
  | d + 1, pos => by
    unfold rl
    split
    · have := vD s d (pos + (Utf8.decode s pos).2)
      rw [List.length_cons]
      omega
    · simp
/-- Is a rune right within a name (first: at its begin)? -/
def okR (first : Bool) (r : Int) : Bool := decide (classP r = 1) || (!first && (decide (classP r = 2) || decide (r = 39)))
/-- runes.Name's loop. -/
def nm (s : ByteArray) : Nat → Nat → Bool
  | 0, _ => true
  | f + 1, pos => if pos < s.size then (if okR (decide (pos = 0)) (Utf8.decode s pos).1 = true then nm s f (pos + (Utf8.decode s pos).2) else false) else true
def nameP (s : ByteArray) : Bool := decide (1 ≤ s.size ∧ s.size ≤ 32) && validD s.data.toList && nm s s.size 0
theorem aBJ {s : ByteArray} {f pos : Nat} (hp : pos < s.size) (h : okR (decide (pos = 0)) (Utf8.decode s pos).1 = true) : nm s (f + 1) pos = nm s f (pos + (Utf8.decode s pos).2) := by simp [nm, hp, h]
theorem aBs {s : ByteArray} {f pos : Nat} (hp : pos < s.size) (h : okR (decide (pos = 0)) (Utf8.decode s pos).1 = false) : nm s (f + 1) pos = false := by simp [nm, hp, h]
theorem aBt {s : ByteArray} {f pos : Nat} (hp : ¬ pos < s.size) : nm s f pos = true := by cases f <;> simp [nm, hp]
/-- The reference's loop over a list of runes. -/
def nl : Bool → List Int → Bool
  | _, [] => true
  | b, r :: t => if okR b r = true then nl false t else false
theorem aAV (b : Bool) (r : Int) (t : List Int) : nl b (r :: t) = if okR b r = true then nl false t else false := rfl
theorem aBl (s : ByteArray) : ∀ (d pos : Nat), nl (decide (pos = 0)) (rl s d pos) = nm s d pos
  | 0, _ => rfl
  | d + 1, pos => by
    unfold rl nm
    by_cases hp : pos < s.size
    · rw [if_pos hp, if_pos hp]
      unfold nl
      have hw := width_pos s pos
      have e : (false : Bool) = decide (pos + (Utf8.decode s pos).2 = 0) := by rw [decide_eq_false (by omega)]
      rw [e, aBl s d (pos + (Utf8.decode s pos).2)]
    · rw [if_neg hp, if_neg hp]
      unfold nl
      rfl
theorem tB (k : Nat) (r : Int) (hk : 3 ≤ k) : marquetryref01_Class.f k r = some (classP r) := by
  obtain ⟨j, rfl⟩ : ∃ j, k = j + 3 := ⟨k - 3, by omega⟩
  exact tA j r
theorem aAW (l : List Int) (hl : l.length ≤ 1000000) : ∀ (d i k : Nat), i ≤ l.length → l.length - i ≤ d → d + 5 ≤ k → marquetryref01_Name.l0 k l (i : Int) = some (nl (decide (i = 0)) (l.drop i)) := by
  intro d
  induction d with
  | zero =>
    intro i k h1 h2 hk
    obtain ⟨k, rfl⟩ : ∃ m, k = m + 1 := ⟨k - 1, by omega⟩
    simp only [marquetryref01_Name.l0]
    rw [if_neg (by omega), List.drop_eq_nil_of_le (by omega)]
    simp [nl]
  | succ d ih =>
    intro i k h1 h2 hk
    obtain ⟨k, rfl⟩ : ∃ m, k = m + 1 := ⟨k - 1, by omega⟩
    simp only [marquetryref01_Name.l0]
    by_cases hi : i < l.length
    · have hd : l.drop i = rd l (i : Int) :: l.drop (i + 1) := by
        rw [List.drop_eq_getElem_cons hi]
        simp [rd, List.getD, hi]
      rw [if_pos (by omega), if_pos (by omega), tB k _ (by omega), hd]
      simp only [Option.bind_some]
      rw [w64s i (by omega), ih (i + 1) k (by omega) (by omega) (by omega)]
      clear ih hd
      generalize rd l (i : Int) = r
      rw [aAV, decide_eq_false (show ¬ (i + 1 = 0) by omega)]
      unfold okR
      by_cases c1 : classP r = 1
      · simp [c1]
      · by_cases h0 : i = 0
        · subst h0
          simp [c1]
        · by_cases c2 : classP r = 2
          · have : ¬ (i : Int) = 0 := by omega
            simp [c1, c2, h0]
          · have : ¬ (i : Int) = 0 := by omega
            by_cases c3 : r = 39
            · simp [c1, c2, c3, h0]
            · simp [c1, c2, c3, h0]
    · rw [if_neg (by omega), List.drop_eq_nil_of_le (by omega)]
      simp [nl]
theorem aAX (s : ByteArray) (hs : s.size ≤ 1000000) : marquetryref01_Name.f (s.size + 12) s = some (nameP s) := by
  unfold marquetryref01_Name.f nameP
  rw [vC s hs _ (by omega)]
  simp only [Option.bind_some]
  cases hv : validD s.data.toList with
  | false =>
    have h2 : (decodeP s).2 = 4 := by unfold decodeP; rw [hv]; rfl
    rw [h2, if_neg (by decide)]
    simp [marquetryref01_Name.j0]
  | true =>
    have h1 : (decodeP s).1 = rl s s.size 0 := by unfold decodeP; rw [hv]; rfl
    have h2 : (decodeP s).2 = 0 := by unfold decodeP; rw [hv]; rfl
    rw [h1, h2, if_pos rfl]
    by_cases h0 : (s.size : Int) < 1
    · rw [if_pos h0, decide_eq_false (by omega)]
      simp [marquetryref01_Name.j0]
    · rw [if_neg h0]
      by_cases h3 : (s.size : Int) > 32
      · rw [decide_eq_true h3, decide_eq_false (by omega)]
        simp [marquetryref01_Name.j0]
      · rw [decide_eq_false h3, decide_eq_true (by omega)]
        simp only [marquetryref01_Name.j0, Bool.false_eq_true, if_false, Bool.true_and]
        have hn := aAW (rl s s.size 0) (by have := vD s s.size 0; omega) s.size 0 (s.size + 11) (by omega) (by have := vD s s.size 0; omega) (by omega)
        have e : ((0 : Nat) : Int) = 0 := rfl
        rw [e] at hn
        rw [hn, List.drop_zero, aBl s s.size 0]
theorem ext_list (s : ByteArray) (a b : Nat) : (s.extract a b).data.toList = (s.data.toList.drop a).take (b - a) := by
  simp [ByteArray.data_extract, Array.toList_extract, List.extract_eq_take_drop]
theorem xQ (s : ByteArray) (P : Nat) : (s.extract P s.size).data.toList = s.data.toList.drop P := by
  rw [ext_list]
  have h2 : s.data.toList.length = s.size := Array.length_toList
  rw [List.take_of_length_le (by rw [List.length_drop]; omega)]
end Go.Proofs.YtlbemgokilhdnaaGreatDoor.RP
namespace Go.Proofs.YtlbemgokilhdnaaGreatDoor.RW
set_option linter.unusedVariables false
set_option linter.unusedSimpArgs false
open Go.RowKit Go.Lib Go.Proofs.YtlbemgokilhdnaaGreatDoorW.PrintWords Go.Proofs.YtlbemgokilhdnaaGreatDoorW.PrintLast Go.Proofs.YtlbemgokilhdnaaGreatDoorW.PrintMore Go.Proofs.YtlbemgokilhdnaaGreatDoor.RP Go.Proofs.YtlbemgokilhdnaaGreatDoor.PAll
def Tabs (w : World) : Prop := Lib.Utf8Tabs (Tryz.laysValid_ren.g 3) (Tryz.laysValid_ren.g 4) w
theorem tC {a b : Bool} (h : a = b) : Ending.returned (.bool a) = .returned (.bool b) := by rw [h]
theorem ext_all (s : ByteArray) : s.extract 0 s.size = s := by
  apply ByteArray.ext
  simp
theorem vE {w w1 : World} (hb : Below w.heap.size w w1) (s : ByteArray) (p : Nat) : Below w.heap.size w (w1.iter s p) := hb.alloc hb.size _
/-- One step of the iterator in block k: a world that is as it was, but for that block. -/
theorem xR {P : Program} {w wr : World} {k : Nat} {s : ByteArray} {pos : Nat} (hk : wr.heap[k]? = some (.stringIter s pos)) (hp : pos < s.size) (hw : w.heap.size ≤ k) (hb : Below w.heap.size w wr) :
    ∃ W2 : World, (∀ ty, (Instr.next (.pointer (some ⟨k, 0, none⟩)) true ty).run P wr = .ok (.tuple #[.bool true, .int .i64 pos, .int .i32 (Utf8.decode s pos).1]) W2) ∧
      (∀ j, j ≠ k → W2.heap[j]? = wr.heap[j]?) ∧ W2.heap[k]? = some (.stringIter s (pos + (Utf8.decode s pos).2)) ∧ W2.heap.size = wr.heap.size ∧ Below w.heap.size w W2 :=
  ⟨wr.iterAt k s (pos + (Utf8.decode s pos).2), fun ty => run_next_any_at wr k s pos ty hk hp, fun j hj => iterAt_other wr k j s _ hj, iterAt_heap wr k s pos _ hk, iterAt_size wr k s _, below_iterAt hb hw s _⟩
theorem zZ {w1 : World} (s : ByteArray) (p : Nat) : (w1.iter s p).heap[w1.heap.size]? = some (.stringIter s p) := by simp [World.iter_heap]
theorem xS (r : Int) (w : World) : Calls Tryz.prog 97 #[.int .i32 r] w fun e w' => e = .returned (.int .i64 (classP r)) ∧ Drawn0 w w' :=
  runes_Class.calls 5 r _ w (zY 0 r)
theorem vF (s : ByteArray) (w : World) (h : s.toList = []) :
    Calls Tryz.prog 86 #[.string s] w fun e w' => e = .returned (.bool false) ∧ Below w.heap.size w w' := by
  have h2 : s.toList.isEmpty = true := by rw [h]; rfl
  go_enter Tryz.func86, Tryz.ntmps86
  go_wp2
  go_ret
  exact ⟨rfl, Below.refl _ _⟩
theorem xT (s : ByteArray) (w : World) (hs : s.size ≤ 1000000) (h : s.toList.isEmpty = false) (h2 : 32 < (s.size : Int)) :
    Calls Tryz.prog 86 #[.string s] w fun e w' => e = .returned (.bool false) ∧ Below w.heap.size w w' := by
  go_enter Tryz.func86, Tryz.ntmps86
  go_wp2
  go_ret
  exact ⟨rfl, Below.refl _ _⟩
theorem xU (s : ByteArray) (w : World) (hs : s.size ≤ 1000000) (hT : Tabs w) (h : s.toList.isEmpty = false) (h2 : (s.size : Int) ≤ 32) (hv : validD s.data.toList = false) :
    Calls Tryz.prog 86 #[.string s] w fun e w' => e = .returned (.bool false) ∧ Below w.heap.size w w' := by
  have cV := Any.utf8_ValidString Tryz.laysValid s w (by omega) hT
  rw [hv] at cV
  clear hv hT
  go_enter Tryz.func86, Tryz.ntmps86
  go_wp2_with (go_at_call 96; refine cV.mono ?_; rintro e w1 ⟨rfl, hb⟩)
  go_ret
  exact ⟨rfl, hb⟩
theorem ok1 {r : Int} {b : Bool} (h : (classP r == 1) = true) : okR b r = true := by
  unfold okR; simp only [beq_iff_eq] at h; simp [h]
theorem ok2 {r : Int} {pos : Nat} (h : (classP r == 2) = true) (h0 : ((pos : Int) == 0) = false) : okR (decide (pos = 0)) r = true := by
  have : ¬ pos = 0 := by simp only [beq_eq_false_iff_ne] at h0; omega
  unfold okR; simp only [beq_iff_eq] at h; simp [h, this]
theorem ok3 {r : Int} {pos : Nat} (h : ((pos : Int) == 0) = false ∧ (r != 39) = false) : okR (decide (pos = 0)) r = true := by
  have : ¬ pos = 0 := by have h0 := h.1; simp only [beq_eq_false_iff_ne] at h0; omega
  have h2 := h.2
  simp only [bne_eq_false_iff_eq] at h2
  unfold okR; simp [h2, this]
theorem no1 {r : Int} {pos : Nat} (c1 : (classP r == 1) = false) (c2 : (classP r == 2) = true) (h0 : ((pos : Int) == 0) = true) : okR (decide (pos = 0)) r = false := by
  have : pos = 0 := by simp only [beq_iff_eq] at h0; omega
  simp only [beq_eq_false_iff_ne] at c1
  unfold okR; simp [c1, this]
theorem no2 {r : Int} {pos : Nat} (c1 : (classP r == 1) = false) (c2 : (classP r == 2) = false) (h0 : pos = 0) : okR (decide (pos = 0)) r = false := by
  simp only [beq_eq_false_iff_ne] at c1
  unfold okR; simp [c1, h0]
theorem no3 {r : Int} {pos : Nat} (c1 : (classP r == 1) = false) (c2 : (classP r == 2) = false) (h : ((pos : Int) == 0) = true ∨ (r != 39) = true) : okR (decide (pos = 0)) r = false := by
  simp only [beq_eq_false_iff_ne] at c1 c2
  rcases h with h | h
  · have : pos = 0 := by simp only [beq_iff_eq] at h; omega
    unfold okR; simp [c1, this]
  · simp only [bne_iff_ne] at h
    unfold okR; simp [c1, c2, h]
theorem toList_eq (s : ByteArray) : s.toList = s.data.toList := by
  have h := ByteArray.toList_mk s.data.toList
  have e : (ByteArray.mk s.data.toList.toArray) = s := by cases s; simp
  rw [e] at h
  exact h
theorem tD (s : ByteArray) : s.toList.length = s.size := by
  rw [toList_eq]
  exact Array.length_toList
theorem aAY (s : ByteArray) (w : World) (hs : s.size ≤ 1000000) (hT : Tabs w) (h : s.toList.isEmpty = false) (h2 : (s.size : Int) ≤ 32) (hv : validD s.data.toList = true) :
    Calls Tryz.prog 86 #[.string s] w fun e w' => e = .returned (.bool (nm s s.size 0)) ∧ Below w.heap.size w w' := by
  have cV := Any.utf8_ValidString Tryz.laysValid s w (by omega) hT
  rw [hv] at cV
  clear hv hT
  go_enter Tryz.func86, Tryz.ntmps86
  go_wp2_with (go_at_call 96; refine cV.mono ?_; rintro e w1 ⟨rfl, hb⟩)
  have HBs := Aside0.mk hb.size
  go_loopg [3] (s.size + 1) (fun gk v3 wr => ∃ (f pos : Nat), gk = f + 1 ∧ Aside0 (Below w.heap.size w wr) ∧ Aside0 (wr.heap[w1.heap.size]? = some (.stringIter s pos)) ∧ Aside0 (nm s f pos = nm s s.size 0 ∧ s.size ≤ pos + f))
  case atStart => exact ⟨s.size, 0, rfl, ⟨vE hb _ _⟩, ⟨zZ s 0⟩, ⟨rfl, by omega⟩⟩
  case round =>
    obtain ⟨f, pos, rfl, HB, HI, HA⟩ := hrel
    by_cases hp : pos < s.size
    · obtain ⟨W2, hnx, hm, hi, hz, hb2⟩ := xR (P := Tryz.prog) HI.out hp HBs.out HB.out
      have HB2 := Aside0.mk hb2
      have HI2 := Aside0.mk hi
      clear hm hi hz hb2 HI HB
      have hwd := width_pos s pos
      obtain ⟨f, rfl⟩ : ∃ f', f = f' + 1 := ⟨f - 1, by have := HA.out.2; omega⟩
      go_wp2_with (go_at_call 97; refine (xS _ _).mono ?_; rintro e w3 ⟨rfl, ⟨nd, rfl⟩⟩)
      all_goals first
        | (go_ret; exact ⟨tC ((aBs hp (by first | exact no1 ‹_› ‹_› ‹_› | exact no2 ‹_› ‹_› ‹_› | exact no3 ‹_› ‹_› ‹_›)).symm.trans HA.out.1), by repeat (first | exact HB2.out | apply bL)⟩)
        | (go_roundg (f + 1)
           case measure => omega
           case rel => exact ⟨f, pos + (Utf8.decode s pos).2, rfl, ⟨by repeat (first | exact HB2.out | apply bL)⟩, ⟨HI2.out⟩, ⟨(aBJ hp (by first | exact ok1 ‹_› | exact ok2 ‹_› ‹_› | exact ok3 ‹_›)).symm.trans HA.out.1, by have := HA.out.2; omega⟩⟩)
    · have hnx : ∀ ty, (Instr.next (.pointer (some ⟨w1.heap.size, 0, none⟩)) true ty).run Tryz.prog wr = _ := fun ty => run_next_end_at wr _ s pos ty HI.out hp
      go_wp2
      go_ret
      exact ⟨tC ((aBt hp).symm.trans HA.out.1), HB.out⟩
theorem aAa (s : ByteArray) (w : World) (hs : s.size ≤ 1000000) (hT : Tabs w) :
    Calls Tryz.prog 86 #[.string s] w fun e w' => e = .returned (.bool (nameP s)) ∧ Below w.heap.size w w' := by
  have hz := tD s
  unfold nameP
  by_cases h0 : s.toList = []
  · rw [h0] at hz
    simp only [List.length_nil] at hz
    rw [decide_eq_false (by omega), Bool.false_and, Bool.false_and]
    exact vF s w h0
  · have he : s.toList.isEmpty = false := by simpa using h0
    have h1 : 0 < s.toList.length := List.length_pos_iff.2 h0
    by_cases h2 : 32 < (s.size : Int)
    · rw [decide_eq_false (by omega), Bool.false_and, Bool.false_and]
      exact xT s w hs he h2
    · rw [decide_eq_true (by omega), Bool.true_and]
      cases hv : validD s.data.toList with
      | false => exact xU s w hs hT he (by omega) hv
      | true => exact aAY s w hs hT he (by omega) hv
end Go.Proofs.YtlbemgokilhdnaaGreatDoor.RW
namespace Go.Proofs.YtlbemgokilhdnaaGreatDoor.RP
set_option linter.unusedVariables false
set_option linter.unusedSimpArgs false
open Go.RowKit Go.Lib Go.Proofs.YtlbemgokilhdnaaGreatDoorW.PrintWords Go.Proofs.YtlbemgokilhdnaaGreatDoorW.PrintLast Go.Proofs.YtlbemgokilhdnaaGreatDoorW.PrintMore
/-- A rune that may be written. -/
def goodR (r : Int) : Prop := 0 ≤ r ∧ r ≤ 1114111 ∧ (r < 55296 ∨ 57343 < r)
def Good (l : List Int) : Prop := ∀ r, r ∈ l → goodR r
/-- Runes of a text that may be read. -/
def TextL (l : List Int) : Prop := ∀ r, r ∈ l → goodR r ∧ ¬ badR r
theorem TextL.drop {l : List Int} (h : TextL l) (n : Nat) : TextL (l.drop n) := fun x hx => h x (List.mem_of_mem_drop hx)
theorem TextL.take {l : List Int} (h : TextL l) (n : Nat) : TextL (l.take n) := fun x hx => h x (List.mem_of_mem_take hx)
theorem Good.drop {l : List Int} (h : Good l) (n : Nat) : Good (l.drop n) := fun x hx => h x (List.mem_of_mem_drop hx)
theorem Good.take {l : List Int} (h : Good l) (n : Nat) : Good (l.take n) := fun x hx => h x (List.mem_of_mem_take hx)
theorem TextL.append {a b : List Int} (h : TextL a) (k : TextL b) : TextL (a ++ b) := fun x hx => by
  rcases List.mem_append.1 hx with hx | hx
  · exact h x hx
  · exact k x hx
theorem qQ {a b : ByteArray} (h : a.data.toList = b.data.toList) : a = b := by
  apply ByteArray.ext
  apply Array.ext'
  exact h
theorem eH (a : ByteArray) : a.data.toList.length = a.size := Array.length_toList
instance : DecidableEq ByteArray := fun a b => decidable_of_iff (a.data.toList = b.data.toList) ⟨qQ, fun h => by rw [h]⟩
instance (a : ByteArray) (l : List ByteArray) : Decidable (a ∈ l) := decidable_of_iff (l.any (fun x => decide (x = a)) = true) (by
  rw [List.any_eq_true]
  exact ⟨fun ⟨x, h, e⟩ => by rw [← of_decide_eq_true e]; exact h, fun h => ⟨a, h, decide_eq_true rfl⟩⟩)
end Go.Proofs.YtlbemgokilhdnaaGreatDoor.RP
namespace Go.Proofs.YtlbemgokilhdnaaGreatDoor.RP
set_option linter.unusedVariables false
set_option linter.unusedSimpArgs false
open Go.RowKit Go.Lib Go.Proofs.YtlbemgokilhdnaaGreatDoorW.PrintWords Go.Proofs.YtlbemgokilhdnaaGreatDoorW.PrintLast Go.Proofs.YtlbemgokilhdnaaGreatDoorW.PrintMore Go.Proofs.YtlbemgokilhdnaaGreatDoor.PAll
theorem toListB (s : ByteArray) : s.toList = s.data.toList := by
  have h := ByteArray.toList_mk s.data.toList
  have e : (ByteArray.mk s.data.toList.toArray) = s := by cases s; simp
  rw [e] at h
  exact h
theorem fN {a b : ByteArray} : a.toList = b.toList ↔ a = b := by
  rw [toListB, toListB]
  exact ⟨qQ, fun h => by rw [h]⟩
def wordsL : List ByteArray := (lexer_words.f).getD []
theorem xV : lexer_words.f = some wordsL := rfl
def wordB (s : ByteArray) : Bool := decide (s ∈ wordsL)
theorem aAb (l : List ByteArray) (a : ByteArray) (hl : l.length ≤ 1000000) : ∀ (d i k : Nat), i ≤ l.length → l.length - i ≤ d → d + 1 ≤ k →
    ∃ z, slices_Index_string_string.l0 k l a (l.length : Int) (i : Int) = some z ∧ (0 ≤ z ↔ a ∈ l.drop i) := by
  intro d
  induction d with
  | zero =>
    intro i k h1 h2 hk
    obtain ⟨k, rfl⟩ : ∃ m, k = m + 1 := ⟨k - 1, by omega⟩
    simp only [slices_Index_string_string.l0]
    rw [if_neg (by omega), List.drop_eq_nil_of_le (by omega)]
    exact ⟨-1, rfl, by simp⟩
  | succ d ih =>
    intro i k h1 h2 hk
    obtain ⟨k, rfl⟩ : ∃ m, k = m + 1 := ⟨k - 1, by omega⟩
    simp only [slices_Index_string_string.l0]
    by_cases hi : i < l.length
    · have hd : l.drop i = rdOf ByteArray.empty l (i : Int) :: l.drop (i + 1) := by
        rw [List.drop_eq_getElem_cons hi]
        simp [rdOf, List.getD, hi]
      rw [if_pos (by omega), if_pos (by omega), if_pos (by omega), hd]
      by_cases he : a = rdOf ByteArray.empty l (i : Int)
      · rw [if_pos (fN.2 he)]
        exact ⟨_, rfl, ⟨fun _ => by rw [← he]; exact List.mem_cons_self, fun _ => by omega⟩⟩
      · rw [if_neg (fun h => he (fN.1 h)), w64s i (by omega)]
        obtain ⟨z, hz, hm⟩ := ih (i + 1) k (by omega) (by omega) (by omega)
        exact ⟨z, hz, hm.trans ⟨fun h => List.mem_cons_of_mem _ h, fun h => (List.mem_cons.1 h).resolve_left he⟩⟩
    · rw [if_neg (by omega), List.drop_eq_nil_of_le (by omega)]
      exact ⟨-1, rfl, by simp⟩
theorem tE (l : List ByteArray) (a : ByteArray) (hl : l.length ≤ 1000000) : slices_Contains_string_string.f (l.length + 1) l a = some (decide (a ∈ l)) := by
  unfold slices_Contains_string_string.f slices_Index_string_string.f
  obtain ⟨z, hz, hm⟩ := aAb l a hl l.length 0 (l.length + 1) (by omega) (by omega) (by omega)
  have e : (((0 : Nat)) : Int) = 0 := rfl
  rw [e] at hz
  rw [hz]
  simp only [Option.bind_some, List.drop_zero] at hm ⊢
  rw [decide_eq_decide.2 hm]
theorem aAZ (s : ByteArray) : lexer_Word.f (wordsL.length + 1) s = some (wordB s) := by
  unfold lexer_Word.f
  rw [xV]
  simp only [Option.bind_some]
  rw [tE wordsL s (by decide)]
  rfl
theorem tF : marquetryref02_Words.f = some wordsL := rfl
theorem vG (l : List ByteArray) (a : ByteArray) (hl : l.length ≤ 1000000) : ∀ (d i k : Nat), i ≤ l.length → l.length - i ≤ d → d + 1 ≤ k →
    marquetryref02_Word.l0 k a l (i : Int) = some (decide (a ∈ l.drop i)) := by
  intro d
  induction d with
  | zero =>
    intro i k h1 h2 hk
    obtain ⟨k, rfl⟩ : ∃ m, k = m + 1 := ⟨k - 1, by omega⟩
    simp only [marquetryref02_Word.l0]
    rw [if_neg (by omega), List.drop_eq_nil_of_le (by omega)]
    simp
  | succ d ih =>
    intro i k h1 h2 hk
    obtain ⟨k, rfl⟩ : ∃ m, k = m + 1 := ⟨k - 1, by omega⟩
    simp only [marquetryref02_Word.l0]
    by_cases hi : i < l.length
    · have hd : l.drop i = rdOf ByteArray.empty l (i : Int) :: l.drop (i + 1) := by
        rw [List.drop_eq_getElem_cons hi]
        simp [rdOf, List.getD, hi]
      rw [if_pos (by omega), if_pos (by omega), hd]
      by_cases he : rdOf ByteArray.empty l (i : Int) = a
      · rw [if_pos (fN.2 he), decide_eq_true (by rw [he]; exact List.mem_cons_self)]
      · rw [if_neg (fun h => he (fN.1 h)), w64s i (by omega), ih (i + 1) k (by omega) (by omega) (by omega)]
        congr 1
        exact decide_eq_decide.2 ⟨fun h => List.mem_cons_of_mem _ h, fun h => (List.mem_cons.1 h).resolve_left (fun h => he h.symm)⟩
    · rw [if_neg (by omega), List.drop_eq_nil_of_le (by omega)]
      simp
theorem vH (s : ByteArray) : marquetryref02_Word.f (wordsL.length + 1) s = some (wordB s) := by
  unfold marquetryref02_Word.f
  rw [tF]
  simp only [Option.bind_some]
  have := vG wordsL s (by decide) wordsL.length 0 (wordsL.length + 1) (by omega) (by omega) (by omega)
  rw [List.drop_zero] at this
  exact this
def nameB (w : ByteArray) : Bool := nameP w && !wordB w
end Go.Proofs.YtlbemgokilhdnaaGreatDoor.RP
namespace Go.Proofs.YtlbemgokilhdnaaGreatDoor.RP
set_option linter.unusedVariables false
set_option linter.unusedSimpArgs false
open Go.RowKit Go.Lib Go.Proofs.YtlbemgokilhdnaaGreatDoorW.PrintWords Go.Proofs.YtlbemgokilhdnaaGreatDoorW.PrintLast Go.Proofs.YtlbemgokilhdnaaGreatDoorW.PrintMore Go.Proofs.YtlbemgokilhdnaaGreatDoor.RP Go.Proofs.YtlbemgokilhdnaaGreatDoor.RW Go.Proofs.YtlbemgokilhdnaaGreatDoor.PAll
def consHead (b : UInt8) : List (List UInt8) → List (List UInt8)
  | [] => [[b]]
  | p :: r => (b :: p) :: r
def pcs : List UInt8 → List (List UInt8)
  | [] => [[]]
  | b :: t => if b = 46 then [] :: pcs t else consHead b (pcs t)
theorem vI (l : List UInt8) : pcs l ≠ [] := by
  cases l with
  | nil => simp [pcs]
  | cons b t =>
    rw [pcs]
    split
    · simp
    · cases pcs t <;> simp [consHead]
theorem qR : ∀ (a c : List UInt8), pcs (a ++ 46 :: c) = pcs a ++ pcs c
  | [], c => rfl
  | b :: a, c => by
    rw [List.cons_append, pcs, pcs, qR a c]
    split
    · rfl
    · cases hp : pcs a with
      | nil => exact absurd hp (vI a)
      | cons x r => rfl
theorem gI : ∀ (a : List UInt8), (46 : UInt8) ∉ a → pcs a = [a]
  | [], _ => rfl
  | b :: a, h => by
    rw [pcs, if_neg (fun e => h (by rw [e]; exact List.mem_cons_self)), gI a (fun hm => h (List.mem_cons_of_mem _ hm))]
    rfl
def mkB (l : List UInt8) : ByteArray := ⟨l.toArray⟩
theorem kP (s : ByteArray) : mkB s.data.toList = s := by cases s; simp [mkB]
theorem aAc (l : List UInt8) : (mkB l).size = l.length := by rw [← eH]; rfl
def pcsB (s : ByteArray) : List ByteArray := (pcs s.data.toList).map mkB
abbrev dotB : ByteArray := ⟨#[46]⟩
theorem lD (s : ByteArray) : indexB s dotB = indexByte s.data.toList 46 := by
  have := one s dotB rfl
  exact this
theorem tG : ∀ (n : Nat) (s : ByteArray), s.size ≤ n → Lib.splitB dotB 0 (Lib.countB s dotB) s = pcsB s := by
  intro n
  induction n with
  | zero =>
    intro s hs
    rcases indexB_cases s dotB with h | ⟨i, h1, h2⟩
    · rw [splitB_miss _ _ _ _ h]
      have hn : (46 : UInt8) ∉ s.data.toList := fun hm => by
        obtain ⟨k, hk⟩ := List.getElem?_of_mem hm
        exact indexByte_none (by rw [← lD]; exact h) k hk
      unfold pcsB
      rw [gI _ hn]; simp [kP]
    · exfalso
      have : dotB.size = 1 := rfl
      omega
  | succ n ih =>
    intro s hs
    rcases indexB_cases s dotB with h | ⟨i, h1, h2⟩
    · rw [splitB_miss _ _ _ _ h]
      have hn : (46 : UInt8) ∉ s.data.toList := fun hm => by
        obtain ⟨k, hk⟩ := List.getElem?_of_mem hm
        exact indexByte_none (by rw [← lD]; exact h) k hk
      unfold pcsB
      rw [gI _ hn]; simp [kP]
    · have hd : dotB.size = 1 := rfl
      rw [countB_hit s dotB i (by omega) h1, show 1 + Lib.countB (s.extract (i + dotB.size) s.size) dotB = Lib.countB (s.extract (i + dotB.size) s.size) dotB + 1 by omega, splitB_hit _ _ _ _ i h1, hd]
      rw [ih (s.extract (i + 1) s.size) (by rw [ByteArray.size_extract]; omega)]
      obtain ⟨g1, g2⟩ := indexByte_some (l := s.data.toList) (c := 46) (o := i) (by rw [← lD]; exact h1)
      have hlt : i < s.data.toList.length := (List.getElem?_eq_some_iff.1 g1).1
      have e : s.data.toList = s.data.toList.take i ++ 46 :: s.data.toList.drop (i + 1) := by
        conv => lhs; rw [← List.take_append_drop i s.data.toList]
        rw [List.drop_eq_getElem_cons hlt]
        have : s.data.toList[i] = 46 := by rw [List.getElem?_eq_getElem hlt] at g1; exact Option.some.inj g1
        rw [this]
      have hn : (46 : UInt8) ∉ s.data.toList.take i := fun hm => by
        obtain ⟨k, hk⟩ := List.getElem?_of_mem hm
        have hki : k < i := by have := (List.getElem?_eq_some_iff.1 hk).1; rw [List.length_take] at this; omega
        rw [List.getElem?_take_of_lt hki] at hk
        exact g2 k hki hk
      unfold pcsB
      conv => rhs; rw [e, qR, gI _ hn]
      rw [List.map_append, List.map_singleton, List.singleton_append, Nat.add_zero]
      congr 1
      · apply qQ; rw [ext_list]; simp [mkB]
      · rw [xQ]
def longP (s : ByteArray) : Bool := decide (s.size ≤ 128) && (pcsB s).all nameB
def splitP (s : ByteArray) : List ByteArray := if longP s = true then pcsB s else []
theorem pG (s : ByteArray) : longP s = true ↔ s.size ≤ 128 ∧ ∀ p ∈ pcsB s, nameB p = true := by
  unfold longP; simp [List.all_eq_true]
end Go.Proofs.YtlbemgokilhdnaaGreatDoor.RP
namespace Go.Proofs.YtlbemgokilhdnaaGreatDoor.Ab
set_option linter.unusedVariables false
set_option linter.unusedSimpArgs false
open Go.RowKit Go.Lib Go.Proofs.YtlbemgokilhdnaaGreatDoorW.PrintWords Go.Proofs.YtlbemgokilhdnaaGreatDoorW.PrintLast Go.Proofs.YtlbemgokilhdnaaGreatDoorW.PrintMore Go.Proofs.YtlbemgokilhdnaaGreatDoor.RP Go.Proofs.YtlbemgokilhdnaaGreatDoor.RW Go.Proofs.YtlbemgokilhdnaaGreatDoor.PAll
theorem fO {P : Program} {f : FuncId} {l : List Value} {r : Value} (he : Enters P f) (h1 : r.oneCell' = true)
    (h : ∀ w M, Amb w M → Calls P f l.toArray w fun e w' => e = .returned r ∧ Below w.heap.size w w') : ACalls P f (l.map fun v => .imm (.lit v)) [] (.imm (.lit r)) [] := by
  have := kW (P := P) (f := f) (args := l.map .lit) (r := .lit r) he (fun w M vs ha hv => by
    rw [gS hv]
    exact (h w M ha).mono fun e w' ⟨h2, h3⟩ => ⟨r, h2, h3, gR h1⟩)
  rw [List.map_map] at this
  exact this
theorem aAd {w : World} {M : Nat → Prop} (h : Amb w M) : Tabs w := h.tabs
theorem aBu (s : ByteArray) : ACalls Tryz.prog 87 [.imm (.lit (.string s))] [] (.imm (.lit (.bool (wordB s)))) [] :=
  fO (l := [.string s]) ⟨_, Tryz.func87, rfl, rfl⟩ rfl (fun w M ha => lexer_Word.calls _ s _ w (aAZ s))
theorem xW (s : ByteArray) : ACalls Tryz.prog 104 [.imm (.lit (.string s))] [] (.imm (.lit (.bool (wordB s)))) [] :=
  fO (l := [.string s]) ⟨_, Tryz.func104, rfl, rfl⟩ rfl (fun w M ha => marquetryref02_Word.calls _ s _ w (vH s))
end Go.Proofs.YtlbemgokilhdnaaGreatDoor.Ab
namespace Go.Proofs.YtlbemgokilhdnaaGreatDoor.Ab
set_option linter.unusedVariables false
set_option linter.unusedSimpArgs false
open Go.RowKit Go.Lib Go.Proofs.YtlbemgokilhdnaaGreatDoorW.PrintWords Go.Proofs.YtlbemgokilhdnaaGreatDoorW.PrintLast Go.Proofs.YtlbemgokilhdnaaGreatDoorW.PrintMore Go.Proofs.YtlbemgokilhdnaaGreatDoor.RP Go.Proofs.YtlbemgokilhdnaaGreatDoor.RW Go.Proofs.YtlbemgokilhdnaaGreatDoor.PAll
attribute [local irreducible] AWP AOps AExit AThen ABlock ANoGoto FeetOk
theorem gJ (l : List ByteArray) (j : Nat) (h : j < l.length) : (strs l)[j * 1]? = some (.lit (.string l[j])) := by unfold strs; simp [h]
end Go.Proofs.YtlbemgokilhdnaaGreatDoor.Ab
namespace Go.Proofs.YtlbemgokilhdnaaGreatDoor.Ab
set_option linter.unusedVariables false
set_option linter.unusedSimpArgs false
open Go.RowKit Go.Lib Go.Proofs.YtlbemgokilhdnaaGreatDoorW.PrintWords Go.Proofs.YtlbemgokilhdnaaGreatDoorW.PrintLast Go.Proofs.YtlbemgokilhdnaaGreatDoorW.PrintMore Go.Proofs.YtlbemgokilhdnaaGreatDoor.RP Go.Proofs.YtlbemgokilhdnaaGreatDoor.RW Go.Proofs.YtlbemgokilhdnaaGreatDoor.PAll
theorem tH (s : ByteArray) (hs : s.size ≤ 1000000) : ACalls Tryz.prog 86 [.imm (.lit (.string s))] [] (.imm (.lit (.bool (nameP s)))) [] :=
  fO (l := [.string s]) ⟨_, Tryz.func86, rfl, rfl⟩ rfl (fun w M ha => aAa s w hs (aAd ha))
theorem xX (s : ByteArray) (hs : s.size ≤ 1000000) : ACalls Tryz.prog 103 [.imm (.lit (.string s))] [] (.imm (.lit (.bool (nameP s)))) [] :=
  fO (l := [.string s]) ⟨_, Tryz.func103, rfl, rfl⟩ rfl (fun w M ha => marquetryref01_Name.calls _ s _ w (aAX s hs))
theorem wB : ∀ l : List UInt8, (pcs l).length ≤ l.length + 1
  | [] => Nat.le_refl _
  | b :: t => by
    have := wB t
    rw [pcs]
    split
    · simp only [List.length_cons]; omega
    · cases hp : pcs t with
      | nil => simp [consHead]
      | cons x r => rw [hp] at this; simp only [consHead, List.length_cons] at this ⊢; omega
theorem iM (s : ByteArray) : (pcsB s).length ≤ s.size + 1 := by
  unfold pcsB; rw [List.length_map, ← eH]; exact wB _
theorem wC (s : ByteArray) (hs : s.size ≤ 1000000) : ACalls Tryz.prog 66 [.imm (.lit (.string s)), .imm (.lit (.string dotB))] [] (.imm (.sl false (pcsB s).length (strs (pcsB s)))) [] :=
  kW (args := [.lit (.string s), .lit (.string dotB)]) (r := .sl false (pcsB s).length (strs (pcsB s))) ⟨_, Tryz.func66, rfl, rfl⟩ (fun w M vs ha hv => by
    obtain ⟨v, us, rfl, h1, h2⟩ := gA hv
    obtain ⟨v2, us, rfl, h3, h4⟩ := gA h2
    rw [mB h1, mB h3, mY h4]
    obtain ⟨m, hm⟩ := ha.most
    have hl := iM s
    have hc : Lib.countB s dotB + 1 = (pcsB s).length := by
      rw [← tG s.size s (Nat.le_refl _), splitB_all dotB (by decide) 0 _ s rfl]
    refine (Tryz.strings_Split s dotB m w (by omega) hm (by decide)).mono fun e w' ⟨he, hw⟩ => ⟨_, he, ?_, ?_⟩
    · rw [hw]; exact below_alloc _
    · rw [hc, tG s.size s (Nat.le_refl _)] at *
      subst hw
      exact pW (cells := ((pcsB s).map Value.string).toArray) (T := 9) (fz := (0, 0)) (by show (w.heap.push _)[w.heap.size]? = _; simp) (Nat.le_refl _) (by rw [List.take_of_length_le (by simp)]) (Nat.le_refl _) (by unfold slMax; omega))
end Go.Proofs.YtlbemgokilhdnaaGreatDoor.Ab
namespace Go.Proofs.YtlbemgokilhdnaaGreatDoor.Ab
set_option linter.unusedVariables false
set_option linter.unusedSimpArgs false
open Go.RowKit Go.Lib Go.Proofs.YtlbemgokilhdnaaGreatDoorW.PrintWords Go.Proofs.YtlbemgokilhdnaaGreatDoorW.PrintLast Go.Proofs.YtlbemgokilhdnaaGreatDoorW.PrintMore Go.Proofs.YtlbemgokilhdnaaGreatDoor.RP Go.Proofs.YtlbemgokilhdnaaGreatDoor.RW Go.Proofs.YtlbemgokilhdnaaGreatDoor.PAll
attribute [local irreducible] AWP AOps AExit AThen ABlock ANoGoto FeetOk
set_option maxHeartbeats 4000000 in
set_option maxRecDepth 10000 in
theorem aAe (s : ByteArray) (hs : s.size ≤ 1000000) : ACalls Tryz.prog 64 [.imm (.lit (.string s))] [] (.imm (.lit (.bool (nameB s)))) [] := by
  have c1 := tH s hs
  have c2 := aBu s
  unfold nameB
  refine aM Tryz.func64 rfl rfl (nb rfl) rfl ?_
  repeat' (first | refine aE ?_ | (refine aH ?_; first | refine aC tabOk rfl rfl rfl (nb rfl) rfl ?_ | refine bD rfl rfl (nb rfl) ?_ | (refine aK rfl rfl rfl (nb rfl) rfl rfl rfl (fun hq => ?_) (fun hq => ?_) <;> (first | (simp only [sD, sE, sB, sC, sN, sM, sT, sF] at hq; try (exfalso; omega)) | skip))| (refine bP rfl rfl rfl (nb rfl) rfl rfl rfl (c1) (fun hq => ?_) (fun hq => ?_)) | (refine bP rfl rfl rfl (nb rfl) rfl rfl rfl (c2) (fun hq => ?_) (fun hq => ?_)) | refine bK rfl rfl rfl (nb rfl) rfl rfl (by omega) ?_ | refine cI rfl rfl rfl (nb rfl) rfl rfl rfl (by omega) (by omega) ?_ | refine bZ rfl rfl rfl (nb rfl) rfl rfl rfl (by omega) (by omega) ?_ | refine bV tabOk rfl rfl rfl (nb rfl) rfl rfl rfl rfl rfl rfl rfl rfl rfl ?_ | refine aU tabOk rfl rfl (nb rfl) rfl ?_ | refine cD tabOk rfl rfl rfl (nb rfl) rfl rfl rfl rfl rfl rfl ?_ | refine bT tabOk rfl rfl rfl (nb rfl) rfl rfl rfl rfl ?_ | refine bN tabOk rfl rfl rfl rfl rfl rfl rfl rfl rfl rfl rfl ?_ | refine bF tabOk rfl rfl rfl (nb rfl) rfl rfl rfl rfl (by first | assumption | omega) ?_ | refine bI tabOk rfl rfl rfl (nb rfl) rfl rfl rfl rfl (by first | rfl | omega) (by first | omega | simp) ?_ | refine aY tabOk rfl rfl rfl (nb rfl) rfl rfl rfl (by assumption) ?_ | refine aY tabOk rfl rfl rfl (nb rfl) rfl rfl rfl (cA _ _ (by first | assumption | omega)) ?_ | refine bK rfl rfl rfl (nb rfl) rfl rfl (by omega) ?_ | ((fail_if_success (refine bX (b := true) rfl rfl rfl ?_)); (fail_if_success (refine bX (b := false) rfl rfl rfl ?_)); refine cJ rfl rfl rfl (fun hq => ?_) (fun hq => ?_) <;> first | subst hq | (first | (simp only [sD, sE, sB, sC, sN, sM, sT, sF] at hq; try (exfalso; omega)) | skip)) | fail) | (refine aN ?_; first | refine aG ?_ | refine aQ ?_ | refine bE ?_ | refine aZ ?_ | refine aT ?_ | refine bS ?_ | refine aW ?_ | refine aA (b := true) rfl (fun _ => ?_) nTf | refine aA (b := false) rfl nFt (fun _ => ?_) | refine cO ?_ | refine cN ?_ | refine cP mixed (by kernel_rfl) ?_ | refine bC mixed (by kernel_rfl) ?_ | (refine aA rfl (fun hq => ?_) (fun hq => ?_) <;> first | subst hq | (first | (simp only [sD, sE, sB, sC, sN, sM, sT, sF] at hq; try (exfalso; omega)) | skip)) | fail) | (refine aJ ?_; first | refine bB ?_ | refine bJ ?_ | refine aR ?_ | fail) | (refine bA ?_; first | refine bR ?_ | refine bH ?_ | refine cC (by decide) ?_ | refine bG ?_ | fail) | refine bU (bQ (by kernel_rfl)) ?_ | fail)
  all_goals (refine aX (by first | exact .inl rfl | exact .inr rfl) (aV rfl (aD rfl)) rfl ?_; refine cH ?_; simp_all)
set_option maxHeartbeats 4000000 in
set_option maxRecDepth 10000 in
theorem aBv (s : ByteArray) (hs : s.size ≤ 1000000) : ACalls Tryz.prog 63 [.imm (.lit (.string s))] [] (.imm (.lit (.bool (!nameB s)))) [] := by
  have c1 := aAe s hs
  refine aM Tryz.func63 rfl rfl (nb rfl) rfl ?_
  repeat' (first | refine aE ?_ | (refine aH ?_; first | refine aC tabOk rfl rfl rfl (nb rfl) rfl ?_ | refine bD rfl rfl (nb rfl) ?_ | (refine aK rfl rfl rfl (nb rfl) rfl rfl rfl (fun hq => ?_) (fun hq => ?_) <;> (first | (simp only [sD, sE, sB, sC, sN, sM, sT, sF] at hq; try (exfalso; omega)) | skip))| (refine bP rfl rfl rfl (nb rfl) rfl rfl rfl (c1) (fun hq => ?_) (fun hq => ?_)) | refine bK rfl rfl rfl (nb rfl) rfl rfl (by omega) ?_ | refine cI rfl rfl rfl (nb rfl) rfl rfl rfl (by omega) (by omega) ?_ | refine bZ rfl rfl rfl (nb rfl) rfl rfl rfl (by omega) (by omega) ?_ | refine bV tabOk rfl rfl rfl (nb rfl) rfl rfl rfl rfl rfl rfl rfl rfl rfl ?_ | refine aU tabOk rfl rfl (nb rfl) rfl ?_ | refine cD tabOk rfl rfl rfl (nb rfl) rfl rfl rfl rfl rfl rfl ?_ | refine bT tabOk rfl rfl rfl (nb rfl) rfl rfl rfl rfl ?_ | refine bN tabOk rfl rfl rfl rfl rfl rfl rfl rfl rfl rfl rfl ?_ | refine bF tabOk rfl rfl rfl (nb rfl) rfl rfl rfl rfl (by first | assumption | omega) ?_ | refine bI tabOk rfl rfl rfl (nb rfl) rfl rfl rfl rfl (by first | rfl | omega) (by first | omega | simp) ?_ | refine aY tabOk rfl rfl rfl (nb rfl) rfl rfl rfl (by assumption) ?_ | refine aY tabOk rfl rfl rfl (nb rfl) rfl rfl rfl (cA _ _ (by first | assumption | omega)) ?_ | refine bK rfl rfl rfl (nb rfl) rfl rfl (by omega) ?_ | ((fail_if_success (refine bX (b := true) rfl rfl rfl ?_)); (fail_if_success (refine bX (b := false) rfl rfl rfl ?_)); refine cJ rfl rfl rfl (fun hq => ?_) (fun hq => ?_) <;> first | subst hq | (first | (simp only [sD, sE, sB, sC, sN, sM, sT, sF] at hq; try (exfalso; omega)) | skip)) | fail) | (refine aN ?_; first | refine aG ?_ | refine aQ ?_ | refine bE ?_ | refine aZ ?_ | refine aT ?_ | refine bS ?_ | refine aW ?_ | refine aA (b := true) rfl (fun _ => ?_) nTf | refine aA (b := false) rfl nFt (fun _ => ?_) | refine cO ?_ | refine cN ?_ | refine cP mixed (by kernel_rfl) ?_ | refine bC mixed (by kernel_rfl) ?_ | (refine aA rfl (fun hq => ?_) (fun hq => ?_) <;> first | subst hq | (first | (simp only [sD, sE, sB, sC, sN, sM, sT, sF] at hq; try (exfalso; omega)) | skip)) | fail) | (refine aJ ?_; first | refine bB ?_ | refine bJ ?_ | refine aR ?_ | fail) | (refine bA ?_; first | refine bR ?_ | refine bH ?_ | refine cC (by decide) ?_ | refine bG ?_ | fail) | refine bU (bQ (by kernel_rfl)) ?_ | fail)
  all_goals (refine aX (by first | exact .inl rfl | exact .inr rfl) (aV rfl (aD rfl)) rfl ?_; refine cH ?_; simp_all)
set_option maxHeartbeats 4000000 in
set_option maxRecDepth 10000 in
theorem tI (b : Bool) (l : List ByteArray) (f : FuncId) (R : ByteArray → Bool) (hl : l.length ≤ 1000000)
    (hf : ∀ i (hi : i < l.length), ACalls Tryz.prog f [.imm (.lit (.string l[i]))] [] (.imm (.lit (.bool (R l[i])))) []) :
    ∃ r : Int, (0 ≤ r ↔ l.any R = true) ∧ ACalls Tryz.prog 88 [.imm (.sl b l.length (strs l)), .imm (.func f [] [])] [] (.imm (.lit (.int .i64 r))) [] := by
  have hex : (∃ j, ∃ hj : j < l.length, R l[j] = true ∧ ∀ i (hi : i < l.length), i < j → R l[i] = false) ∨ (∀ i (hi : i < l.length), R l[i] = false) := by
    clear hf
    induction l with
    | nil => exact .inr (fun i hi => by simp at hi)
    | cons x l ih =>
      cases hx : R x with
      | true => exact .inl ⟨0, by simp, hx, fun i hi h => by omega⟩
      | false =>
        rcases ih (by simp at hl; omega) with ⟨j, hj, h1, h2⟩ | h
        · refine .inl ⟨j + 1, by simp; omega, by simpa using h1, fun i hi h => ?_⟩
          cases i with
          | zero => simpa using hx
          | succ i => simpa using h2 i (by simpa using hi) (by omega)
        · refine .inr fun i hi => ?_
          cases i with
          | zero => simpa using hx
          | succ i => simpa using h i (by simpa using hi)
  have walk : ∀ (z : Nat), z ≤ l.length → (∀ i (hi : i < l.length), i < z → R l[i] = false) → (∀ hz : z < l.length, R l[z] = true) →
      ACalls Tryz.prog 88 [.imm (.sl b l.length (strs l)), .imm (.func f [] [])] [] (.imm (.lit (.int .i64 (if z < l.length then (z : Int) else -1)))) [] := by
    intro z hz hno hyes
    refine aM Tryz.func88 rfl rfl (nb rfl) rfl ?_
    repeat' (first | refine aE ?_ | (refine aH ?_; first | refine aC tabOk rfl rfl rfl (nb rfl) rfl ?_ | refine bD rfl rfl (nb rfl) ?_ | (refine aK rfl rfl rfl (nb rfl) rfl rfl rfl (fun hq => ?_) (fun hq => ?_) <;> (first | (simp only [sD, sE, sB, sC, sN, sM, sT, sF] at hq; try (exfalso; omega)) | skip)) | refine bK rfl rfl rfl (nb rfl) rfl rfl (by omega) ?_ | refine cI rfl rfl rfl (nb rfl) rfl rfl rfl (by omega) (by omega) ?_ | refine bZ rfl rfl rfl (nb rfl) rfl rfl rfl (by omega) (by omega) ?_ | refine bV tabOk rfl rfl rfl (nb rfl) rfl rfl rfl rfl rfl rfl rfl rfl rfl ?_ | refine aU tabOk rfl rfl (nb rfl) rfl ?_ | refine cD tabOk rfl rfl rfl (nb rfl) rfl rfl rfl rfl rfl rfl ?_ | refine bT tabOk rfl rfl rfl (nb rfl) rfl rfl rfl rfl ?_ | refine bN tabOk rfl rfl rfl rfl rfl rfl rfl rfl rfl rfl rfl ?_ | refine bF tabOk rfl rfl rfl (nb rfl) rfl rfl rfl rfl (by first | assumption | omega) ?_ | refine bI tabOk rfl rfl rfl (nb rfl) rfl rfl rfl rfl (by first | rfl | omega) (by first | omega | simp) ?_ | refine aY tabOk rfl rfl rfl (nb rfl) rfl rfl rfl (by assumption) ?_ | refine aY tabOk rfl rfl rfl (nb rfl) rfl rfl rfl (cA _ _ (by first | assumption | omega)) ?_ | refine bK rfl rfl rfl (nb rfl) rfl rfl (by omega) ?_ | ((fail_if_success (refine bX (b := true) rfl rfl rfl ?_)); (fail_if_success (refine bX (b := false) rfl rfl rfl ?_)); refine cJ rfl rfl rfl (fun hq => ?_) (fun hq => ?_) <;> first | subst hq | (first | (simp only [sD, sE, sB, sC, sN, sM, sT, sF] at hq; try (exfalso; omega)) | skip)) | fail) | (refine aN ?_; first | refine aG ?_ | refine aQ ?_ | refine bE ?_ | refine aZ ?_ | refine aT ?_ | refine bS ?_ | refine aW ?_ | refine aA (b := true) rfl (fun _ => ?_) nTf | refine aA (b := false) rfl nFt (fun _ => ?_) | refine cO ?_ | refine cN ?_ | refine cP mixed (by kernel_rfl) ?_ | refine bC mixed (by kernel_rfl) ?_ | (refine aA rfl (fun hq => ?_) (fun hq => ?_) <;> first | subst hq | (first | (simp only [sD, sE, sB, sC, sN, sM, sT, sF] at hq; try (exfalso; omega)) | skip)) | fail) | (refine aJ ?_; first | refine bB ?_ | refine bJ ?_ | refine aR ?_ | fail) | (refine bA ?_; first | refine bR ?_ | refine bH ?_ | refine cC (by decide) ?_ | refine bG ?_ | fail) | refine bU (bQ (by kernel_rfl)) ?_ | fail)
    refine cB (ι := {j : Nat // j ≤ z}) (fun j => S.f ⟨[(8, .imm (.lit (.int .i64 (j.1 : Int)))), (7, .imm (.lit (.int .i64 (l.length : Int)))), (0, .imm (.sl b l.length (strs l))), (1, .imm (.func f [] []))], []⟩) (fun j => l.length - j.1) ⟨0, Nat.zero_le _⟩ (bY (by repeat' first | exact trivial | refine ⟨rfl, ?_⟩) (by repeat' first | exact trivial | refine ⟨rfl, ?_⟩)) ?_
    rintro ⟨j, hj⟩
    dsimp only
    by_cases hlt : j < l.length
    · have c := hf j hlt
      by_cases hjz : j < z
      · rw [hno j hlt hjz] at c
        repeat' (first | refine aE ?_ | (refine aH ?_; first | refine aC tabOk rfl rfl rfl (nb rfl) rfl ?_ | refine bD rfl rfl (nb rfl) ?_ | (refine aK rfl rfl rfl (nb rfl) rfl rfl rfl (fun hq => ?_) (fun hq => ?_) <;> (first | (simp only [sD, sE, sB, sC, sN, sM, sT, sF] at hq; try (exfalso; omega)) | skip))| refine aY tabOk rfl rfl rfl (nb rfl) rfl rfl rfl (gJ l j hlt) ?_ | refine aI rfl rfl (nb rfl) rfl rfl rfl rfl (c) ?_ | refine bK rfl rfl rfl (nb rfl) rfl rfl (by omega) ?_ | refine cI rfl rfl rfl (nb rfl) rfl rfl rfl (by omega) (by omega) ?_ | refine bZ rfl rfl rfl (nb rfl) rfl rfl rfl (by omega) (by omega) ?_ | refine bV tabOk rfl rfl rfl (nb rfl) rfl rfl rfl rfl rfl rfl rfl rfl rfl ?_ | refine aU tabOk rfl rfl (nb rfl) rfl ?_ | refine cD tabOk rfl rfl rfl (nb rfl) rfl rfl rfl rfl rfl rfl ?_ | refine bT tabOk rfl rfl rfl (nb rfl) rfl rfl rfl rfl ?_ | refine bN tabOk rfl rfl rfl rfl rfl rfl rfl rfl rfl rfl rfl ?_ | refine bF tabOk rfl rfl rfl (nb rfl) rfl rfl rfl rfl (by first | assumption | omega) ?_ | refine bI tabOk rfl rfl rfl (nb rfl) rfl rfl rfl rfl (by first | rfl | omega) (by first | omega | simp) ?_ | refine aY tabOk rfl rfl rfl (nb rfl) rfl rfl rfl (by assumption) ?_ | refine aY tabOk rfl rfl rfl (nb rfl) rfl rfl rfl (cA _ _ (by first | assumption | omega)) ?_ | refine bK rfl rfl rfl (nb rfl) rfl rfl (by omega) ?_ | ((fail_if_success (refine bX (b := true) rfl rfl rfl ?_)); (fail_if_success (refine bX (b := false) rfl rfl rfl ?_)); refine cJ rfl rfl rfl (fun hq => ?_) (fun hq => ?_) <;> first | subst hq | (first | (simp only [sD, sE, sB, sC, sN, sM, sT, sF] at hq; try (exfalso; omega)) | skip)) | fail) | (refine aN ?_; first | refine aG ?_ | refine aQ ?_ | refine bE ?_ | refine aZ ?_ | refine aT ?_ | refine bS ?_ | refine aW ?_ | refine aA (b := true) rfl (fun _ => ?_) nTf | refine aA (b := false) rfl nFt (fun _ => ?_) | refine cO ?_ | refine cN ?_ | refine cP mixed (by kernel_rfl) ?_ | refine bC mixed (by kernel_rfl) ?_ | (refine aA rfl (fun hq => ?_) (fun hq => ?_) <;> first | subst hq | (first | (simp only [sD, sE, sB, sC, sN, sM, sT, sF] at hq; try (exfalso; omega)) | skip)) | fail) | (refine aJ ?_; first | refine bB ?_ | refine bJ ?_ | refine aR ?_ | fail) | (refine bA ?_; first | refine bR ?_ | refine bH ?_ | refine cC (by decide) ?_ | refine bG ?_ | fail) | refine bU (bQ (by kernel_rfl)) ?_ | fail)
        all_goals exact ⟨⟨j + 1, hjz⟩, (by show l.length - (j + 1) < l.length - j; omega), (bY (by repeat' first | exact trivial | refine ⟨rfl, ?_⟩) (by repeat' first | exact trivial | refine ⟨rfl, ?_⟩))⟩
      · have e : j = z := by omega
        subst e
        rw [hyes hlt] at c
        repeat' (first | refine aE ?_ | (refine aH ?_; first | refine aC tabOk rfl rfl rfl (nb rfl) rfl ?_ | refine bD rfl rfl (nb rfl) ?_ | (refine aK rfl rfl rfl (nb rfl) rfl rfl rfl (fun hq => ?_) (fun hq => ?_) <;> (first | (simp only [sD, sE, sB, sC, sN, sM, sT, sF] at hq; try (exfalso; omega)) | skip))| refine aY tabOk rfl rfl rfl (nb rfl) rfl rfl rfl (gJ l j hlt) ?_ | refine aI rfl rfl (nb rfl) rfl rfl rfl rfl (c) ?_ | refine bK rfl rfl rfl (nb rfl) rfl rfl (by omega) ?_ | refine cI rfl rfl rfl (nb rfl) rfl rfl rfl (by omega) (by omega) ?_ | refine bZ rfl rfl rfl (nb rfl) rfl rfl rfl (by omega) (by omega) ?_ | refine bV tabOk rfl rfl rfl (nb rfl) rfl rfl rfl rfl rfl rfl rfl rfl rfl ?_ | refine aU tabOk rfl rfl (nb rfl) rfl ?_ | refine cD tabOk rfl rfl rfl (nb rfl) rfl rfl rfl rfl rfl rfl ?_ | refine bT tabOk rfl rfl rfl (nb rfl) rfl rfl rfl rfl ?_ | refine bN tabOk rfl rfl rfl rfl rfl rfl rfl rfl rfl rfl rfl ?_ | refine bF tabOk rfl rfl rfl (nb rfl) rfl rfl rfl rfl (by first | assumption | omega) ?_ | refine bI tabOk rfl rfl rfl (nb rfl) rfl rfl rfl rfl (by first | rfl | omega) (by first | omega | simp) ?_ | refine aY tabOk rfl rfl rfl (nb rfl) rfl rfl rfl (by assumption) ?_ | refine aY tabOk rfl rfl rfl (nb rfl) rfl rfl rfl (cA _ _ (by first | assumption | omega)) ?_ | refine bK rfl rfl rfl (nb rfl) rfl rfl (by omega) ?_ | ((fail_if_success (refine bX (b := true) rfl rfl rfl ?_)); (fail_if_success (refine bX (b := false) rfl rfl rfl ?_)); refine cJ rfl rfl rfl (fun hq => ?_) (fun hq => ?_) <;> first | subst hq | (first | (simp only [sD, sE, sB, sC, sN, sM, sT, sF] at hq; try (exfalso; omega)) | skip)) | fail) | (refine aN ?_; first | refine aG ?_ | refine aQ ?_ | refine bE ?_ | refine aZ ?_ | refine aT ?_ | refine bS ?_ | refine aW ?_ | refine aA (b := true) rfl (fun _ => ?_) nTf | refine aA (b := false) rfl nFt (fun _ => ?_) | refine cO ?_ | refine cN ?_ | refine cP mixed (by kernel_rfl) ?_ | refine bC mixed (by kernel_rfl) ?_ | (refine aA rfl (fun hq => ?_) (fun hq => ?_) <;> first | subst hq | (first | (simp only [sD, sE, sB, sC, sN, sM, sT, sF] at hq; try (exfalso; omega)) | skip)) | fail) | (refine aJ ?_; first | refine bB ?_ | refine bJ ?_ | refine aR ?_ | fail) | (refine bA ?_; first | refine bR ?_ | refine bH ?_ | refine cC (by decide) ?_ | refine bG ?_ | fail) | refine bU (bQ (by kernel_rfl)) ?_ | fail)
        all_goals (refine aX (by first | exact .inl rfl | exact .inr rfl) (aV rfl (aD rfl)) rfl ?_; exact fE (by rw [if_pos hlt]))
    · repeat' (first | refine aE ?_ | (refine aH ?_; first | refine aC tabOk rfl rfl rfl (nb rfl) rfl ?_ | refine bD rfl rfl (nb rfl) ?_ | (refine aK rfl rfl rfl (nb rfl) rfl rfl rfl (fun hq => ?_) (fun hq => ?_) <;> (first | (simp only [sD, sE, sB, sC, sN, sM, sT, sF] at hq; try (exfalso; omega)) | skip)) | refine bK rfl rfl rfl (nb rfl) rfl rfl (by omega) ?_ | refine cI rfl rfl rfl (nb rfl) rfl rfl rfl (by omega) (by omega) ?_ | refine bZ rfl rfl rfl (nb rfl) rfl rfl rfl (by omega) (by omega) ?_ | refine bV tabOk rfl rfl rfl (nb rfl) rfl rfl rfl rfl rfl rfl rfl rfl rfl ?_ | refine aU tabOk rfl rfl (nb rfl) rfl ?_ | refine cD tabOk rfl rfl rfl (nb rfl) rfl rfl rfl rfl rfl rfl ?_ | refine bT tabOk rfl rfl rfl (nb rfl) rfl rfl rfl rfl ?_ | refine bN tabOk rfl rfl rfl rfl rfl rfl rfl rfl rfl rfl rfl ?_ | refine bF tabOk rfl rfl rfl (nb rfl) rfl rfl rfl rfl (by first | assumption | omega) ?_ | refine bI tabOk rfl rfl rfl (nb rfl) rfl rfl rfl rfl (by first | rfl | omega) (by first | omega | simp) ?_ | refine aY tabOk rfl rfl rfl (nb rfl) rfl rfl rfl (by assumption) ?_ | refine aY tabOk rfl rfl rfl (nb rfl) rfl rfl rfl (cA _ _ (by first | assumption | omega)) ?_ | refine bK rfl rfl rfl (nb rfl) rfl rfl (by omega) ?_ | ((fail_if_success (refine bX (b := true) rfl rfl rfl ?_)); (fail_if_success (refine bX (b := false) rfl rfl rfl ?_)); refine cJ rfl rfl rfl (fun hq => ?_) (fun hq => ?_) <;> first | subst hq | (first | (simp only [sD, sE, sB, sC, sN, sM, sT, sF] at hq; try (exfalso; omega)) | skip)) | fail) | (refine aN ?_; first | refine aG ?_ | refine aQ ?_ | refine bE ?_ | refine aZ ?_ | refine aT ?_ | refine bS ?_ | refine aW ?_ | refine aA (b := true) rfl (fun _ => ?_) nTf | refine aA (b := false) rfl nFt (fun _ => ?_) | refine cO ?_ | refine cN ?_ | refine cP mixed (by kernel_rfl) ?_ | refine bC mixed (by kernel_rfl) ?_ | (refine aA rfl (fun hq => ?_) (fun hq => ?_) <;> first | subst hq | (first | (simp only [sD, sE, sB, sC, sN, sM, sT, sF] at hq; try (exfalso; omega)) | skip)) | fail) | (refine aJ ?_; first | refine bB ?_ | refine bJ ?_ | refine aR ?_ | fail) | (refine bA ?_; first | refine bR ?_ | refine bH ?_ | refine cC (by decide) ?_ | refine bG ?_ | fail) | refine bU (bQ (by kernel_rfl)) ?_ | fail)
      all_goals (refine aX (by first | exact .inl rfl | exact .inr rfl) (aV rfl (aD rfl)) rfl ?_; exact fE (by rw [if_neg (by omega)]))
  rcases hex with ⟨j, hj, h1, h2⟩ | h
  · refine ⟨_, ?_, walk j (by omega) (fun i hi h => h2 i hi h) (fun _ => h1)⟩
    rw [if_pos hj]
    exact ⟨fun _ => List.any_eq_true.2 ⟨l[j], List.getElem_mem hj, h1⟩, fun _ => by omega⟩
  · refine ⟨_, ?_, walk l.length (Nat.le_refl _) (fun i hi _ => h i hi) (fun hz => absurd hz (Nat.lt_irrefl _))⟩
    rw [if_neg (Nat.lt_irrefl _)]
    refine ⟨fun h => by omega, fun ha => ?_⟩
    obtain ⟨x, hx, hR⟩ := List.any_eq_true.1 ha
    obtain ⟨i, hi, rfl⟩ := List.mem_iff_getElem.1 hx
    rw [h i hi] at hR; cases hR
set_option maxHeartbeats 4000000 in
set_option maxRecDepth 10000 in
theorem nV (b : Bool) (l : List ByteArray) (f : FuncId) (R : ByteArray → Bool) (hl : l.length ≤ 1000000)
    (hf : ∀ i (hi : i < l.length), ACalls Tryz.prog f [.imm (.lit (.string l[i]))] [] (.imm (.lit (.bool (R l[i])))) []) :
    ACalls Tryz.prog 65 [.imm (.sl b l.length (strs l)), .imm (.func f [] [])] [] (.imm (.lit (.bool (l.any R)))) [] := by
  obtain ⟨r, hr, c⟩ := tI b l f R hl hf
  generalize l.any R = q at hr
  refine aM Tryz.func65 rfl rfl (nb rfl) rfl ?_
  repeat' (first | refine aE ?_ | (refine aH ?_; first | refine aC tabOk rfl rfl rfl (nb rfl) rfl ?_ | refine bD rfl rfl (nb rfl) ?_ | (refine aK rfl rfl rfl (nb rfl) rfl rfl rfl (fun hq => ?_) (fun hq => ?_) <;> (first | (simp only [sD, sE, sB, sC, sN, sM, sT, sF] at hq; try (exfalso; omega)) | skip))| refine aI rfl rfl (nb rfl) rfl rfl rfl rfl (c) ?_ | refine bK rfl rfl rfl (nb rfl) rfl rfl (by omega) ?_ | refine cI rfl rfl rfl (nb rfl) rfl rfl rfl (by omega) (by omega) ?_ | refine bZ rfl rfl rfl (nb rfl) rfl rfl rfl (by omega) (by omega) ?_ | refine bV tabOk rfl rfl rfl (nb rfl) rfl rfl rfl rfl rfl rfl rfl rfl rfl ?_ | refine aU tabOk rfl rfl (nb rfl) rfl ?_ | refine cD tabOk rfl rfl rfl (nb rfl) rfl rfl rfl rfl rfl rfl ?_ | refine bT tabOk rfl rfl rfl (nb rfl) rfl rfl rfl rfl ?_ | refine bN tabOk rfl rfl rfl rfl rfl rfl rfl rfl rfl rfl rfl ?_ | refine bF tabOk rfl rfl rfl (nb rfl) rfl rfl rfl rfl (by first | assumption | omega) ?_ | refine bI tabOk rfl rfl rfl (nb rfl) rfl rfl rfl rfl (by first | rfl | omega) (by first | omega | simp) ?_ | refine aY tabOk rfl rfl rfl (nb rfl) rfl rfl rfl (by assumption) ?_ | refine aY tabOk rfl rfl rfl (nb rfl) rfl rfl rfl (cA _ _ (by first | assumption | omega)) ?_ | refine bK rfl rfl rfl (nb rfl) rfl rfl (by omega) ?_ | ((fail_if_success (refine bX (b := true) rfl rfl rfl ?_)); (fail_if_success (refine bX (b := false) rfl rfl rfl ?_)); refine cJ rfl rfl rfl (fun hq => ?_) (fun hq => ?_) <;> first | subst hq | (first | (simp only [sD, sE, sB, sC, sN, sM, sT, sF] at hq; try (exfalso; omega)) | skip)) | fail) | (refine aN ?_; first | refine aG ?_ | refine aQ ?_ | refine bE ?_ | refine aZ ?_ | refine aT ?_ | refine bS ?_ | refine aW ?_ | refine aA (b := true) rfl (fun _ => ?_) nTf | refine aA (b := false) rfl nFt (fun _ => ?_) | refine cO ?_ | refine cN ?_ | refine cP mixed (by kernel_rfl) ?_ | refine bC mixed (by kernel_rfl) ?_ | (refine aA rfl (fun hq => ?_) (fun hq => ?_) <;> first | subst hq | (first | (simp only [sD, sE, sB, sC, sN, sM, sT, sF] at hq; try (exfalso; omega)) | skip)) | fail) | (refine aJ ?_; first | refine bB ?_ | refine bJ ?_ | refine aR ?_ | fail) | (refine bA ?_; first | refine bR ?_ | refine bH ?_ | refine cC (by decide) ?_ | refine bG ?_ | fail) | refine bU (bQ (by kernel_rfl)) ?_ | fail)
  all_goals (refine aX (by first | exact .inl rfl | exact .inr rfl) (aV rfl (aD rfl)) rfl ?_; refine cH ?_; cases q <;> first | rfl | (exfalso; simp at hr; omega))
theorem tJ (l : List ByteArray) (R : ByteArray → Bool) : (l.any fun x => !R x) = !(l.all R) := by
  induction l with
  | nil => rfl
  | cons x l ih => simp [ih, Bool.not_and]
theorem jX (s : ByteArray) : ∀ p ∈ pcsB s, p.size ≤ s.size := by
  have key : ∀ (l : List UInt8), ∀ p ∈ pcs l, p.length ≤ l.length := by
    intro l
    induction l with
    | nil => intro p hp; simp [pcs] at hp; simp [hp]
    | cons b t ih =>
      intro p hp
      rw [pcs] at hp
      split at hp
      · rcases List.mem_cons.1 hp with rfl | hp
        · simp
        · have := ih p hp; simp; omega
      · cases hq : pcs t with
        | nil => exact absurd hq (vI t)
        | cons x r =>
          rw [hq] at hp ih
          simp only [consHead] at hp
          rcases List.mem_cons.1 hp with rfl | hp
          · have := ih x List.mem_cons_self; simp; omega
          · have := ih p (List.mem_cons_of_mem _ hp); simp; omega
  intro p hp
  unfold pcsB at hp
  obtain ⟨q, hq, rfl⟩ := List.mem_map.1 hp
  rw [aAc, ← eH s]
  exact key _ q hq
set_option maxHeartbeats 4000000 in
set_option maxRecDepth 10000 in
theorem wD (s : ByteArray) (hs : s.size ≤ 100000) : ACalls Tryz.prog 34 [.imm (.lit (.string s))] [] (.imm (.lit (.bool (longP s)))) [] := by
  have hl := iM s
  have c1 := wC s (by omega)
  have c2 := nV false (pcsB s) 63 (fun x => !nameB x) (by omega) (fun i hi => aBv _ (Nat.le_trans (jX s _ (List.getElem_mem hi)) (by omega)))
  rw [tJ] at c2
  unfold longP
  generalize (pcsB s).all nameB = q at c2
  refine aM Tryz.func34 rfl rfl (nb rfl) rfl ?_
  repeat' (first | refine aE ?_ | (refine aH ?_; first | refine aC tabOk rfl rfl rfl (nb rfl) rfl ?_ | refine bD rfl rfl (nb rfl) ?_ | (refine aK rfl rfl rfl (nb rfl) rfl rfl rfl (fun hq => ?_) (fun hq => ?_) <;> (first | (simp only [sD, sE, sB, sC, sN, sM, sT, sF] at hq; try (exfalso; omega)) | skip))| refine aI rfl rfl (nb rfl) rfl rfl rfl rfl (c1) ?_ | (refine bP rfl rfl rfl (nb rfl) rfl rfl rfl (c2) (fun hq => ?_) (fun hq => ?_)) | refine bK rfl rfl rfl (nb rfl) rfl rfl (by omega) ?_ | refine cI rfl rfl rfl (nb rfl) rfl rfl rfl (by omega) (by omega) ?_ | refine bZ rfl rfl rfl (nb rfl) rfl rfl rfl (by omega) (by omega) ?_ | refine bV tabOk rfl rfl rfl (nb rfl) rfl rfl rfl rfl rfl rfl rfl rfl rfl ?_ | refine aU tabOk rfl rfl (nb rfl) rfl ?_ | refine cD tabOk rfl rfl rfl (nb rfl) rfl rfl rfl rfl rfl rfl ?_ | refine bT tabOk rfl rfl rfl (nb rfl) rfl rfl rfl rfl ?_ | refine bN tabOk rfl rfl rfl rfl rfl rfl rfl rfl rfl rfl rfl ?_ | refine bF tabOk rfl rfl rfl (nb rfl) rfl rfl rfl rfl (by first | assumption | omega) ?_ | refine bI tabOk rfl rfl rfl (nb rfl) rfl rfl rfl rfl (by first | rfl | omega) (by first | omega | simp) ?_ | refine aY tabOk rfl rfl rfl (nb rfl) rfl rfl rfl (by assumption) ?_ | refine aY tabOk rfl rfl rfl (nb rfl) rfl rfl rfl (cA _ _ (by first | assumption | omega)) ?_ | refine bK rfl rfl rfl (nb rfl) rfl rfl (by omega) ?_ | ((fail_if_success (refine bX (b := true) rfl rfl rfl ?_)); (fail_if_success (refine bX (b := false) rfl rfl rfl ?_)); refine cJ rfl rfl rfl (fun hq => ?_) (fun hq => ?_) <;> first | subst hq | (first | (simp only [sD, sE, sB, sC, sN, sM, sT, sF] at hq; try (exfalso; omega)) | skip)) | fail) | (refine aN ?_; first | refine aG ?_ | refine aQ ?_ | refine bE ?_ | refine aZ ?_ | refine aT ?_ | refine bS ?_ | refine aW ?_ | refine aA (b := true) rfl (fun _ => ?_) nTf | refine aA (b := false) rfl nFt (fun _ => ?_) | refine cO ?_ | refine cN ?_ | refine cP mixed (by kernel_rfl) ?_ | refine bC mixed (by kernel_rfl) ?_ | (refine aA rfl (fun hq => ?_) (fun hq => ?_) <;> first | subst hq | (first | (simp only [sD, sE, sB, sC, sN, sM, sT, sF] at hq; try (exfalso; omega)) | skip)) | fail) | (refine aJ ?_; first | refine bB ?_ | refine bJ ?_ | refine aR ?_ | fail) | (refine bA ?_; first | refine bR ?_ | refine bH ?_ | refine cC (by decide) ?_ | refine bG ?_ | fail) | refine bU (bQ (by kernel_rfl)) ?_ | fail)
  all_goals (refine aX (by first | exact .inl rfl | exact .inr rfl) (aV rfl (aD rfl)) rfl ?_; refine cH ?_; cases q <;> simp_all <;> omega)
set_option maxHeartbeats 4000000 in
set_option maxRecDepth 10000 in
theorem aAf (s : ByteArray) (hs : s.size ≤ 100000) : ACalls Tryz.prog 35 [.imm (.lit (.string s))] [] (.imm (.sl false (splitP s).length (strs (splitP s)))) [] := by
  have c1 := wD s hs
  have c2 := wC s (by omega)
  unfold splitP
  cases h : longP s with
  | true =>
    rw [h] at c1
    rw [if_pos rfl]
    refine aM Tryz.func35 rfl rfl (nb rfl) rfl ?_
    repeat' (first | refine aE ?_ | (refine aH ?_; first | refine aC tabOk rfl rfl rfl (nb rfl) rfl ?_ | refine bD rfl rfl (nb rfl) ?_ | (refine aK rfl rfl rfl (nb rfl) rfl rfl rfl (fun hq => ?_) (fun hq => ?_) <;> (first | (simp only [sD, sE, sB, sC, sN, sM, sT, sF] at hq; try (exfalso; omega)) | skip))| refine aI rfl rfl (nb rfl) rfl rfl rfl rfl (c1) ?_ | refine aI rfl rfl (nb rfl) rfl rfl rfl rfl (c2) ?_ | refine bK rfl rfl rfl (nb rfl) rfl rfl (by omega) ?_ | refine cI rfl rfl rfl (nb rfl) rfl rfl rfl (by omega) (by omega) ?_ | refine bZ rfl rfl rfl (nb rfl) rfl rfl rfl (by omega) (by omega) ?_ | refine bV tabOk rfl rfl rfl (nb rfl) rfl rfl rfl rfl rfl rfl rfl rfl rfl ?_ | refine aU tabOk rfl rfl (nb rfl) rfl ?_ | refine cD tabOk rfl rfl rfl (nb rfl) rfl rfl rfl rfl rfl rfl ?_ | refine bT tabOk rfl rfl rfl (nb rfl) rfl rfl rfl rfl ?_ | refine bN tabOk rfl rfl rfl rfl rfl rfl rfl rfl rfl rfl rfl ?_ | refine bF tabOk rfl rfl rfl (nb rfl) rfl rfl rfl rfl (by first | assumption | omega) ?_ | refine bI tabOk rfl rfl rfl (nb rfl) rfl rfl rfl rfl (by first | rfl | omega) (by first | omega | simp) ?_ | refine aY tabOk rfl rfl rfl (nb rfl) rfl rfl rfl (by assumption) ?_ | refine aY tabOk rfl rfl rfl (nb rfl) rfl rfl rfl (cA _ _ (by first | assumption | omega)) ?_ | refine bK rfl rfl rfl (nb rfl) rfl rfl (by omega) ?_ | ((fail_if_success (refine bX (b := true) rfl rfl rfl ?_)); (fail_if_success (refine bX (b := false) rfl rfl rfl ?_)); refine cJ rfl rfl rfl (fun hq => ?_) (fun hq => ?_) <;> first | subst hq | (first | (simp only [sD, sE, sB, sC, sN, sM, sT, sF] at hq; try (exfalso; omega)) | skip)) | fail) | (refine aN ?_; first | refine aG ?_ | refine aQ ?_ | refine bE ?_ | refine aZ ?_ | refine aT ?_ | refine bS ?_ | refine aW ?_ | refine aA (b := true) rfl (fun _ => ?_) nTf | refine aA (b := false) rfl nFt (fun _ => ?_) | refine cO ?_ | refine cN ?_ | refine cP mixed (by kernel_rfl) ?_ | refine bC mixed (by kernel_rfl) ?_ | (refine aA rfl (fun hq => ?_) (fun hq => ?_) <;> first | subst hq | (first | (simp only [sD, sE, sB, sC, sN, sM, sT, sF] at hq; try (exfalso; omega)) | skip)) | fail) | (refine aJ ?_; first | refine bB ?_ | refine bJ ?_ | refine aR ?_ | fail) | (refine bA ?_; first | refine bR ?_ | refine bH ?_ | refine cC (by decide) ?_ | refine bG ?_ | fail) | refine bU (bQ (by kernel_rfl)) ?_ | fail)
    all_goals (refine aX (by first | exact .inl rfl | exact .inr rfl) (aV rfl (aD rfl)) rfl ?_; rfl)
  | false =>
    rw [h] at c1
    rw [if_neg (by simp)]
    refine aM Tryz.func35 rfl rfl (nb rfl) rfl ?_
    repeat' (first | refine aE ?_ | (refine aH ?_; first | refine aC tabOk rfl rfl rfl (nb rfl) rfl ?_ | refine bD rfl rfl (nb rfl) ?_ | (refine aK rfl rfl rfl (nb rfl) rfl rfl rfl (fun hq => ?_) (fun hq => ?_) <;> (first | (simp only [sD, sE, sB, sC, sN, sM, sT, sF] at hq; try (exfalso; omega)) | skip))| refine aI rfl rfl (nb rfl) rfl rfl rfl rfl (c1) ?_ | refine aI rfl rfl (nb rfl) rfl rfl rfl rfl (c2) ?_ | refine bK rfl rfl rfl (nb rfl) rfl rfl (by omega) ?_ | refine cI rfl rfl rfl (nb rfl) rfl rfl rfl (by omega) (by omega) ?_ | refine bZ rfl rfl rfl (nb rfl) rfl rfl rfl (by omega) (by omega) ?_ | refine bV tabOk rfl rfl rfl (nb rfl) rfl rfl rfl rfl rfl rfl rfl rfl rfl ?_ | refine aU tabOk rfl rfl (nb rfl) rfl ?_ | refine cD tabOk rfl rfl rfl (nb rfl) rfl rfl rfl rfl rfl rfl ?_ | refine bT tabOk rfl rfl rfl (nb rfl) rfl rfl rfl rfl ?_ | refine bN tabOk rfl rfl rfl rfl rfl rfl rfl rfl rfl rfl rfl ?_ | refine bF tabOk rfl rfl rfl (nb rfl) rfl rfl rfl rfl (by first | assumption | omega) ?_ | refine bI tabOk rfl rfl rfl (nb rfl) rfl rfl rfl rfl (by first | rfl | omega) (by first | omega | simp) ?_ | refine aY tabOk rfl rfl rfl (nb rfl) rfl rfl rfl (by assumption) ?_ | refine aY tabOk rfl rfl rfl (nb rfl) rfl rfl rfl (cA _ _ (by first | assumption | omega)) ?_ | refine bK rfl rfl rfl (nb rfl) rfl rfl (by omega) ?_ | ((fail_if_success (refine bX (b := true) rfl rfl rfl ?_)); (fail_if_success (refine bX (b := false) rfl rfl rfl ?_)); refine cJ rfl rfl rfl (fun hq => ?_) (fun hq => ?_) <;> first | subst hq | (first | (simp only [sD, sE, sB, sC, sN, sM, sT, sF] at hq; try (exfalso; omega)) | skip)) | fail) | (refine aN ?_; first | refine aG ?_ | refine aQ ?_ | refine bE ?_ | refine aZ ?_ | refine aT ?_ | refine bS ?_ | refine aW ?_ | refine aA (b := true) rfl (fun _ => ?_) nTf | refine aA (b := false) rfl nFt (fun _ => ?_) | refine cO ?_ | refine cN ?_ | refine cP mixed (by kernel_rfl) ?_ | refine bC mixed (by kernel_rfl) ?_ | (refine aA rfl (fun hq => ?_) (fun hq => ?_) <;> first | subst hq | (first | (simp only [sD, sE, sB, sC, sN, sM, sT, sF] at hq; try (exfalso; omega)) | skip)) | fail) | (refine aJ ?_; first | refine bB ?_ | refine bJ ?_ | refine aR ?_ | fail) | (refine bA ?_; first | refine bR ?_ | refine bH ?_ | refine cC (by decide) ?_ | refine bG ?_ | fail) | refine bU (bQ (by kernel_rfl)) ?_ | fail)
    all_goals (refine aX (by first | exact .inl rfl | exact .inr rfl) (aV rfl (rP (aD rfl))) rfl ?_; rfl)
end Go.Proofs.YtlbemgokilhdnaaGreatDoor.Ab
namespace Go.Proofs.YtlbemgokilhdnaaGreatDoor.Ab
set_option linter.unusedVariables false
set_option linter.unusedSimpArgs false
open Go.RowKit Go.Proofs.YtlbemgokilhdnaaGreatDoor.RP
attribute [local irreducible] AWP AOps AExit AThen ABlock ANoGoto FeetOk
theorem cT (a b : ByteArray) : (a ++ b).size = a.size + b.size := by rw [← eH, ByteArray.data_append, Array.toList_append, List.length_append, eH, eH]
theorem nW (s : ByteArray) : (splitP s).length ≤ s.size + 1 ∧ ∀ p ∈ splitP s, p.size ≤ s.size := by
  unfold splitP
  split
  · exact ⟨iM s, jX s⟩
  · exact ⟨by simp, by simp⟩
theorem aAg (s : ByteArray) (h : longP s = true) : splitP s ≠ [] := by
  unfold splitP pcsB
  rw [if_pos h]
  intro e
  exact vI _ (List.map_eq_nil_iff.1 e)
/-- The label that is asked for: the last name's of a space, the others' of modules. -/
def labS (space : ByteArray) (last : Bool) (s : ByteArray) : ByteArray := if last then (space ++ ⟨#[58]⟩) ++ s else ⟨#[109, 58]⟩ ++ s
def atS (space : ByteArray) : List ByteArray → Tree → Tree × Int
  | [], t => (t, 0)
  | s :: ss, t => if (fieldP (labS space ss.isEmpty s) t.kids).2 = true then atS space ss (fieldP (labS space ss.isEmpty s) t.kids).1 else (.nil, 8)
def spOk (space : ByteArray) : Bool := eqB space ⟨#[118]⟩ || eqB space ⟨#[116]⟩ || eqB space ⟨#[109]⟩
def sAtP (t : Tree) (space long : ByteArray) : Tree × Int :=
  if checkP sformP t ≠ 0 then (.nil, checkP sformP t) else if (isSigP t && spOk space) = false then (.nil, 16) else if longP long = false then (.nil, 2) else atS space (splitP long) t
theorem aAh (space s : ByteArray) : labS space true s = (space ++ ⟨#[58]⟩) ++ s := by unfold labS; rw [if_pos rfl]
theorem aAi (space s : ByteArray) : labS space false s = ⟨#[109, 58]⟩ ++ s := by unfold labS; rw [if_neg (by simp)]
theorem nX (l : List ByteArray) (j : Nat) (h : j < l.length) : (l.drop (j + 1)).isEmpty = decide (j + 1 = l.length) := by
  by_cases e : j + 1 = l.length
  · rw [decide_eq_true e, e, List.drop_length]; rfl
  · rw [decide_eq_false e, List.isEmpty_eq_false_iff]
    intro h0
    have := congrArg List.length h0
    rw [List.length_drop, List.length_nil] at this
    omega
set_option maxHeartbeats 4000000 in
set_option maxRecDepth 10000 in
theorem xY (t : Tree) (label : ByteArray) (hw : t.whole = true) : ACalls Tryz.prog 37 [.imm t.iv, .obj 1001 0] [(1001, .cells [.imm (.lit (.string label))])] (.imm (.lit (.bool (isLab label t)))) [(1001, .cells [.imm (.lit (.string label))])] := by
  obtain ⟨k, n, a, b, kids, rfl⟩ := cM hw
  have e : isLab label (.node k n a b kids) = (decide (k = 163) && eqB a label) := rfl
  rw [e]
  refine dA [1001] Tryz.func37 rfl rfl (nb rfl) rfl rfl ?_
  repeat' (first | refine aE ?_ | (refine aH ?_;  first | refine aC tabOk rfl rfl rfl (nb rfl) rfl ?_ | refine bD rfl rfl (nb rfl) ?_ | (refine aK rfl rfl rfl (nb rfl) rfl rfl rfl (fun hq => ?_) (fun hq => ?_) <;> (first | (simp only [sD, sE, sB, sC, sN, sM, sT, sF] at hq; try (exfalso; omega)) | skip)) | refine bT tabOk rfl rfl rfl (nb rfl) rfl rfl rfl rfl ?_) | (refine aN ?_;  first | refine aG ?_ | refine aQ ?_ | refine aT ?_ | refine bC mixed (by kernel_rfl) ?_) | (refine aJ ?_;  first | refine bB ?_) | refine bU (bQ (by kernel_rfl)) ?_)
  all_goals (refine dH (dC (by first | exact .inl rfl | exact .inr rfl) (aV rfl (aD rfl)) rfl (by repeat' first | exact trivial | refine ⟨rfl, ?_⟩) rfl ?_); refine cH ?_; simp_all [eqB])
set_option maxHeartbeats 16000000 in
set_option maxRecDepth 10000 in
theorem At_a (t : Tree) (space long : ByteArray) (hs : t.size ≤ 100000) (hp : space.size ≤ 100000) (hl : long.size ≤ 100000) : ACalls Tryz.prog 10 [.imm t.iv, .imm (.lit (.string space)), .imm (.lit (.string long))] [] (.imm (.tup [(sAtP t space long).1.iv, .lit (.int .i64 (sAtP t space long).2)])) [] := by
  have c1 := eL t (by omega)
  obtain ⟨Q, hQ⟩ : ∃ Q, sAtP t space long = Q := ⟨_, rfl⟩
  rw [hQ]
  unfold sAtP at hQ
  by_cases hc : checkP sformP t = 0
  · rw [if_neg (by simpa using hc)] at hQ
    rw [hc] at c1
    obtain ⟨hw, hz, _⟩ := cK hc
    have c2 := iY t hw (by omega)
    cases hsig : isSigP t with
    | false =>
      rw [hsig] at c2 hQ
      rw [Bool.false_and, if_pos rfl] at hQ
      subst hQ
      refine aM Tryz.func10 rfl rfl (nb rfl) rfl ?_
      repeat' (first | refine aE ?_ | (refine aH ?_;  first | refine aC tabOk rfl rfl rfl (nb rfl) rfl ?_ | refine bD rfl rfl (nb rfl) ?_ | (refine aK rfl rfl rfl (nb rfl) rfl rfl rfl (fun hq => ?_) (fun hq => ?_) <;> (first | (simp only [sD, sE, sB, sC, sN, sM, sT, sF] at hq; try (exfalso; omega)) | skip)) | refine aI rfl rfl (nb rfl) rfl rfl rfl rfl (c1) ?_ | refine aI rfl rfl (nb rfl) rfl rfl rfl rfl (c2) ?_) | (refine aN ?_;  first | refine aG ?_ | refine aQ ?_ | refine aZ ?_ | refine aT ?_ | refine aW ?_ | refine aA (b := true) rfl (fun _ => ?_) nTf | refine aA (b := false) rfl nFt (fun _ => ?_)) | (refine aJ ?_;  first | refine bB ?_ | refine aR ?_) | (refine bA ?_;  first | refine bG ?_))
      all_goals first
        | exact absurd rfl (by assumption)
        | (refine aX (by first | exact .inl rfl | exact .inr rfl) (bO rfl (aD rfl) (aD rfl)) rfl ?_; rfl)
    | true =>
      rw [hsig] at c2 hQ
      rw [Bool.true_and] at hQ
      cases hsp : spOk space with
      | false =>
        rw [hsp] at hQ
        rw [if_pos rfl] at hQ
        subst hQ
        unfold spOk at hsp
        refine aM Tryz.func10 rfl rfl (nb rfl) rfl ?_
        repeat' (first | refine aE ?_ | (refine aH ?_;  first | refine aC tabOk rfl rfl rfl (nb rfl) rfl ?_ | refine bD rfl rfl (nb rfl) ?_ | (refine aK rfl rfl rfl (nb rfl) rfl rfl rfl (fun hq => ?_) (fun hq => ?_) <;> (first | (simp only [sD, sE, sB, sC, sN, sM, sT, sF] at hq; try (exfalso; omega)) | skip)) | refine aI rfl rfl (nb rfl) rfl rfl rfl rfl (c1) ?_ | refine aI rfl rfl (nb rfl) rfl rfl rfl rfl (c2) ?_) | (refine aN ?_;  first | refine aG ?_ | refine aQ ?_ | refine aZ ?_ | refine aT ?_ | refine aW ?_ | refine aA (b := true) rfl (fun _ => ?_) nTf | refine aA (b := false) rfl nFt (fun _ => ?_)) | (refine aJ ?_;  first | refine bB ?_ | refine aR ?_) | (refine bA ?_;  first | refine bG ?_))
        all_goals first
          | exact absurd rfl (by assumption)
          | (refine aX (by first | exact .inl rfl | exact .inr rfl) (bO rfl (aD rfl) (aD rfl)) rfl ?_; rfl)
          | (exfalso; simp_all [eqB]; done)
      | true =>
        rw [hsp] at hQ
        rw [if_neg (by simp)] at hQ
        unfold spOk at hsp
        have c3 := wD long hl
        have c4 := aAf long hl
        obtain ⟨hsl, hsz⟩ := nW long
        cases hlg : longP long with
        | false =>
          rw [hlg] at c3 hQ
          rw [if_pos rfl] at hQ
          subst hQ
          clear c4
          refine aM Tryz.func10 rfl rfl (nb rfl) rfl ?_
          repeat' (first | refine aE ?_ | (refine aH ?_;  first | refine aC tabOk rfl rfl rfl (nb rfl) rfl ?_ | refine bD rfl rfl (nb rfl) ?_ | (refine aK rfl rfl rfl (nb rfl) rfl rfl rfl (fun hq => ?_) (fun hq => ?_) <;> (first | (simp only [sD, sE, sB, sC, sN, sM, sT, sF] at hq; try (exfalso; omega)) | skip)) | refine aI rfl rfl (nb rfl) rfl rfl rfl rfl (c1) ?_ | refine aI rfl rfl (nb rfl) rfl rfl rfl rfl (c2) ?_ | refine aI rfl rfl (nb rfl) rfl rfl rfl rfl (c3) ?_) | (refine aN ?_;  first | refine aG ?_ | refine aQ ?_ | refine aZ ?_ | refine aT ?_ | refine aW ?_ | refine aA (b := true) rfl (fun _ => ?_) nTf | refine aA (b := false) rfl nFt (fun _ => ?_)) | (refine aJ ?_;  first | refine bB ?_ | refine aR ?_) | (refine bA ?_;  first | refine bG ?_))
          all_goals first
            | exact absurd rfl (by assumption)
            | (exfalso; simp_all [eqB]; done)
            | (refine aX (by first | exact .inl rfl | exact .inr rfl) (bO rfl (aD rfl) (aD rfl)) rfl ?_; rfl)
        | true =>
          rw [hlg] at c3 hQ
          rw [if_neg (by simp)] at hQ
          generalize splitP long = l at *
          refine aM Tryz.func10 rfl rfl (nb rfl) rfl ?_
          repeat' (first | refine aE ?_ | (refine aH ?_;  first | refine aC tabOk rfl rfl rfl (nb rfl) rfl ?_ | refine bD rfl rfl (nb rfl) ?_ | (refine aK rfl rfl rfl (nb rfl) rfl rfl rfl (fun hq => ?_) (fun hq => ?_) <;> (first | (simp only [sD, sE, sB, sC, sN, sM, sT, sF] at hq; try (exfalso; omega)) | skip)) | refine aI rfl rfl (nb rfl) rfl rfl rfl rfl (c1) ?_ | refine aI rfl rfl (nb rfl) rfl rfl rfl rfl (c2) ?_ | refine aI rfl rfl (nb rfl) rfl rfl rfl rfl (c3) ?_ | refine aI rfl rfl (nb rfl) rfl rfl rfl rfl (c4) ?_ | refine aU tabOk rfl rfl (nb rfl) rfl ?_) | (refine aN ?_;  first | refine aG ?_ | refine aQ ?_ | refine aZ ?_ | refine aT ?_ | refine aW ?_ | refine aA (b := true) rfl (fun _ => ?_) nTf | refine aA (b := false) rfl nFt (fun _ => ?_)) | (refine aJ ?_;  first | refine bB ?_ | refine aR ?_) | (refine bA ?_;  first | refine bR ?_ | refine bG ?_))
          all_goals first
            | exact absurd rfl (by assumption)
            | (exfalso; simp_all [eqB]; done)
            | skip
          all_goals (
            clear hsp
            refine cB (ι := {p : Nat × Tree // p.1 ≤ l.length ∧ isSigP p.2 = true ∧ p.2.whole = true ∧ p.2.size ≤ 100000 ∧ atS space (l.drop p.1) p.2 = Q}) (fun p => S.f ⟨[(43, .imm (.lit (.int .i64 (p.1.1 : Int)))), (42, .imm (.lit (.int .i64 (l.length : Int)))), (41, .imm (.sl false l.length (strs l))), (9, .imm (.sl false l.length (strs l))), (0, .imm p.1.2.iv), (1, .imm (.lit (.string space)))], []⟩) (fun p => l.length - p.1.1) ⟨(0, t), Nat.zero_le _, hsig, hw, hs, hQ⟩ (bY (by repeat' first | exact trivial | refine ⟨rfl, ?_⟩) (by repeat' first | exact trivial | refine ⟨rfl, ?_⟩)) ?_
            rintro ⟨⟨j, u⟩, hj, us, uw, uz, hu⟩
            dsimp only at hj us uw uz hu ⊢
            clear c1 c2 c3 c4 hw hz hsig hs hc hQ hlg
            by_cases hlt : j < l.length
            · rw [List.drop_eq_getElem_cons hlt, atS, nX l j hlt] at hu
              have hget := gJ l j hlt
              have hsj := hsz _ (List.getElem_mem hlt)
              have s1 : (⟨#[109, 58]⟩ : ByteArray).size = 2 := rfl
              have s2 : (⟨#[58]⟩ : ByteArray).size = 1 := rfl
              have hf := jV us uw (labS space (decide (j + 1 = l.length)) l[j])
              have hkf := iF us
              generalize l[j] = s at *
              obtain ⟨k, n, a, b, kids, rfl⟩ := cM uw
              have hkl : kids.length < 1000000000 := by have := cE kids uw; simp only [Tree.size] at uz; omega
              change ∀ t ∈ kids, _ at hkf
              have ekk : (Tree.node k n a b kids).kids = kids := rfl
              rw [ekk] at hu hf
              have ci := fun label => qC kids 37 (.lit (.string label)) (isLab label) hkl (fun j h => xY _ label (bM uw (List.getElem_mem h)))
              by_cases hlast : j + 1 = l.length
              · rw [decide_eq_true hlast] at hu hf
                rw [aAh] at hu hf
                replace ci := ci ((space ++ ⟨#[58]⟩) ++ s)
                rcases eD ((space ++ ⟨#[58]⟩) ++ s) kids 0 with ⟨h1, h2⟩ | ⟨i, h1, h2, h3, h4⟩
                · rw [h2] at hu
                  rw [if_neg (by simp)] at hu
                  subst hu
                  generalize findP (isLab ((space ++ ⟨#[58]⟩) ++ s)) kids 0 = Z at *
                  repeat' (first | refine aE ?_ | (refine aH ?_;  first | refine aC tabOk rfl rfl rfl (nb rfl) rfl ?_ | (refine aK rfl rfl rfl (nb rfl) rfl rfl rfl (fun hq => ?_) (fun hq => ?_) <;> (first | (simp only [sD, sE, sB, sC, sN, sM, sT, sF] at hq; try (exfalso; omega)) | skip)) | refine aY tabOk rfl rfl rfl (nb rfl) rfl rfl rfl hget ?_ | refine dL rfl rfl rfl (nb rfl) rfl rfl (by first | omega | (simp only [cT]; omega)) ?_ | refine cX 1001 tabOk rfl rfl rfl (nb rfl) rfl rfl rfl rfl rfl rfl ?_ | refine cL rfl rfl (nb rfl) rfl rfl rfl rfl ci (by repeat' first | exact trivial | refine ⟨rfl, ?_⟩) rfl (by show ([1001] : List Nat).Nodup; decide) ?_ | refine bZ rfl rfl rfl (nb rfl) rfl rfl rfl (by omega) (by omega) ?_ | refine aU tabOk rfl rfl (nb rfl) rfl ?_ | refine bN tabOk rfl rfl rfl rfl rfl rfl rfl rfl rfl rfl rfl ?_ | refine bF tabOk rfl rfl rfl (nb rfl) rfl rfl rfl rfl (by first | assumption | omega) ?_) | (refine aN ?_;  first | refine aG ?_ | refine aQ ?_ | refine bE ?_ | refine aZ ?_ | refine aT ?_ | refine aW ?_ | refine aA (b := true) rfl (fun _ => ?_) nTf) | (refine aJ ?_;  first | refine bB ?_ | refine aR ?_) | (refine bA ?_;  first | refine bG ?_))
                  all_goals first
                    | (exfalso; omega)
                    | (refine aX (by first | exact .inl rfl | exact .inr rfl) (bO rfl (aD rfl) (aD rfl)) rfl ?_; rfl)
                · rw [h3] at hu hf
                  rw [if_pos rfl] at hu
                  rw [h2, Nat.add_zero] at ci
                  obtain ⟨g1, g2, g3⟩ := hf rfl
                  dsimp only at hu g1 g2 g3
                  have hm := List.getElem_mem h1
                  unfold isLab at h4
                  rw [Bool.and_eq_true, decide_eq_true_eq] at h4
                  obtain ⟨n', a', b', c, e⟩ := hkf _ hm h4.1
                  have hget2 := cA kids i h1
                  rw [e] at hget2 hu g1 g2 g3
                  dsimp only [kid0] at hu g1 g2 g3
                  clear h2 h3 h4 e hm hf hkf
                  repeat' (first | refine aE ?_ | (refine aH ?_;  first | refine aC tabOk rfl rfl rfl (nb rfl) rfl ?_ | (refine aK rfl rfl rfl (nb rfl) rfl rfl rfl (fun hq => ?_) (fun hq => ?_) <;> (first | (simp only [sD, sE, sB, sC, sN, sM, sT, sF] at hq; try (exfalso; omega)) | skip)) | refine aY tabOk rfl rfl rfl (nb rfl) rfl rfl rfl hget ?_ | refine dL rfl rfl rfl (nb rfl) rfl rfl (by first | omega | (simp only [cT]; omega)) ?_ | refine aY tabOk rfl rfl rfl (nb rfl) rfl rfl rfl hget2 ?_ | refine cX 1001 tabOk rfl rfl rfl (nb rfl) rfl rfl rfl rfl rfl rfl ?_ | refine cL rfl rfl (nb rfl) rfl rfl rfl rfl ci (by repeat' first | exact trivial | refine ⟨rfl, ?_⟩) rfl (by show ([1001] : List Nat).Nodup; decide) ?_ | refine bK rfl rfl rfl (nb rfl) rfl rfl (by omega) ?_ | refine bZ rfl rfl rfl (nb rfl) rfl rfl rfl (by omega) (by omega) ?_ | refine aU tabOk rfl rfl (nb rfl) rfl ?_ | refine bN tabOk rfl rfl rfl rfl rfl rfl rfl rfl rfl rfl rfl ?_ | refine bF tabOk rfl rfl rfl (nb rfl) rfl rfl rfl rfl (by first | assumption | omega) ?_ | refine bI tabOk rfl rfl rfl (nb rfl) rfl rfl rfl rfl (by first | rfl | omega) (by first | omega | simp) ?_) | (refine aN ?_;  first | refine aG ?_ | refine aQ ?_ | refine bE ?_ | refine aZ ?_ | refine aW ?_ | refine aA (b := true) rfl (fun _ => ?_) nTf | refine aA (b := false) rfl nFt (fun _ => ?_)) | (refine aJ ?_;  first | refine bB ?_) | (refine bA ?_;  first | refine bR ?_))
                  all_goals first
                    | (exfalso; omega)
                    | exact ⟨⟨(j + 1, c), hlt, g1, g2, Nat.le_trans (Nat.le_of_lt g3) uz, hu⟩, (by show l.length - (j + 1) < l.length - j; omega), (bY (by repeat' first | exact trivial | refine ⟨rfl, ?_⟩) (by repeat' first | exact trivial | refine ⟨rfl, ?_⟩))⟩
              · rw [decide_eq_false hlast] at hu hf
                rw [aAi] at hu hf
                replace ci := ci (⟨#[109, 58]⟩ ++ s)
                rcases eD (⟨#[109, 58]⟩ ++ s) kids 0 with ⟨h1, h2⟩ | ⟨i, h1, h2, h3, h4⟩
                · rw [h2] at hu
                  rw [if_neg (by simp)] at hu
                  subst hu
                  generalize findP (isLab (⟨#[109, 58]⟩ ++ s)) kids 0 = Z at *
                  repeat' (first | refine aE ?_ | (refine aH ?_;  first | refine aC tabOk rfl rfl rfl (nb rfl) rfl ?_ | (refine aK rfl rfl rfl (nb rfl) rfl rfl rfl (fun hq => ?_) (fun hq => ?_) <;> (first | (simp only [sD, sE, sB, sC, sN, sM, sT, sF] at hq; try (exfalso; omega)) | skip)) | refine aY tabOk rfl rfl rfl (nb rfl) rfl rfl rfl hget ?_ | refine dL rfl rfl rfl (nb rfl) rfl rfl (by first | omega | (simp only [cT]; omega)) ?_ | refine cX 1001 tabOk rfl rfl rfl (nb rfl) rfl rfl rfl rfl rfl rfl ?_ | refine cL rfl rfl (nb rfl) rfl rfl rfl rfl ci (by repeat' first | exact trivial | refine ⟨rfl, ?_⟩) rfl (by show ([1001] : List Nat).Nodup; decide) ?_ | refine bZ rfl rfl rfl (nb rfl) rfl rfl rfl (by omega) (by omega) ?_ | refine aU tabOk rfl rfl (nb rfl) rfl ?_ | refine bN tabOk rfl rfl rfl rfl rfl rfl rfl rfl rfl rfl rfl ?_ | refine bF tabOk rfl rfl rfl (nb rfl) rfl rfl rfl rfl (by first | assumption | omega) ?_) | (refine aN ?_;  first | refine aG ?_ | refine aQ ?_ | refine aZ ?_ | refine aT ?_ | refine aW ?_ | refine aA (b := true) rfl (fun _ => ?_) nTf | refine aA (b := false) rfl nFt (fun _ => ?_)) | (refine aJ ?_;  first | refine bB ?_ | refine aR ?_) | (refine bA ?_;  first | refine bG ?_))
                  all_goals first
                    | (exfalso; omega)
                    | (refine aX (by first | exact .inl rfl | exact .inr rfl) (bO rfl (aD rfl) (aD rfl)) rfl ?_; rfl)
                · rw [h3] at hu hf
                  rw [if_pos rfl] at hu
                  rw [h2, Nat.add_zero] at ci
                  obtain ⟨g1, g2, g3⟩ := hf rfl
                  dsimp only at hu g1 g2 g3
                  have hm := List.getElem_mem h1
                  unfold isLab at h4
                  rw [Bool.and_eq_true, decide_eq_true_eq] at h4
                  obtain ⟨n', a', b', c, e⟩ := hkf _ hm h4.1
                  have hget2 := cA kids i h1
                  rw [e] at hget2 hu g1 g2 g3
                  dsimp only [kid0] at hu g1 g2 g3
                  clear h2 h3 h4 e hm hf hkf
                  repeat' (first | refine aE ?_ | (refine aH ?_;  first | refine aC tabOk rfl rfl rfl (nb rfl) rfl ?_ | (refine aK rfl rfl rfl (nb rfl) rfl rfl rfl (fun hq => ?_) (fun hq => ?_) <;> (first | (simp only [sD, sE, sB, sC, sN, sM, sT, sF] at hq; try (exfalso; omega)) | skip)) | refine aY tabOk rfl rfl rfl (nb rfl) rfl rfl rfl hget ?_ | refine dL rfl rfl rfl (nb rfl) rfl rfl (by first | omega | (simp only [cT]; omega)) ?_ | refine aY tabOk rfl rfl rfl (nb rfl) rfl rfl rfl hget2 ?_ | refine cX 1001 tabOk rfl rfl rfl (nb rfl) rfl rfl rfl rfl rfl rfl ?_ | refine cL rfl rfl (nb rfl) rfl rfl rfl rfl ci (by repeat' first | exact trivial | refine ⟨rfl, ?_⟩) rfl (by show ([1001] : List Nat).Nodup; decide) ?_ | refine bK rfl rfl rfl (nb rfl) rfl rfl (by omega) ?_ | refine bZ rfl rfl rfl (nb rfl) rfl rfl rfl (by omega) (by omega) ?_ | refine aU tabOk rfl rfl (nb rfl) rfl ?_ | refine bN tabOk rfl rfl rfl rfl rfl rfl rfl rfl rfl rfl rfl ?_ | refine bF tabOk rfl rfl rfl (nb rfl) rfl rfl rfl rfl (by first | assumption | omega) ?_ | refine bI tabOk rfl rfl rfl (nb rfl) rfl rfl rfl rfl (by first | rfl | omega) (by first | omega | simp) ?_) | (refine aN ?_;  first | refine aG ?_ | refine aQ ?_ | refine bE ?_ | refine aZ ?_ | refine aW ?_ | refine aA (b := true) rfl (fun _ => ?_) nTf | refine aA (b := false) rfl nFt (fun _ => ?_)) | (refine aJ ?_;  first | refine bB ?_) | (refine bA ?_;  first | refine bR ?_))
                  all_goals first
                    | (exfalso; omega)
                    | exact ⟨⟨(j + 1, c), hlt, g1, g2, Nat.le_trans (Nat.le_of_lt g3) uz, hu⟩, (by show l.length - (j + 1) < l.length - j; omega), (bY (by repeat' first | exact trivial | refine ⟨rfl, ?_⟩) (by repeat' first | exact trivial | refine ⟨rfl, ?_⟩))⟩
            · have ej : j = l.length := by omega
              subst ej
              rw [List.drop_length, atS] at hu
              subst hu
              obtain ⟨pu, hpu⟩ := dI (cS uw)
              dsimp only
              rw [hpu]
              repeat' (first | refine aE ?_ | (refine aH ?_;  first | refine aC tabOk rfl rfl rfl (nb rfl) rfl ?_ | (refine aK rfl rfl rfl (nb rfl) rfl rfl rfl (fun hq => ?_) (fun hq => ?_) <;> (first | (simp only [sD, sE, sB, sC, sN, sM, sT, sF] at hq; try (exfalso; omega)) | skip))) | (refine aN ?_;  first | refine aG ?_ | refine aQ ?_ | refine aT ?_ | refine bS ?_ | refine aA (b := false) rfl nFt (fun _ => ?_)) | (refine aJ ?_;  first | refine bB ?_ | refine bJ ?_) | (refine bA ?_;  first | refine bH ?_))
              all_goals first
                | (exfalso; omega)
                | (refine aX (by first | exact .inl rfl | exact .inr rfl) (bO rfl (aD rfl) (aD rfl)) rfl ?_; rfl))
  · rw [if_pos hc] at hQ
    subst hQ
    generalize checkP sformP t = C at *
    refine aM Tryz.func10 rfl rfl (nb rfl) rfl ?_
    repeat' (first | refine aE ?_ | (refine aH ?_;  first | refine aC tabOk rfl rfl rfl (nb rfl) rfl ?_ | (refine aK rfl rfl rfl (nb rfl) rfl rfl rfl (fun hq => ?_) (fun hq => ?_) <;> (first | (simp only [sD, sE, sB, sC, sN, sM, sT, sF] at hq; try (exfalso; omega)) | skip)) | refine aI rfl rfl (nb rfl) rfl rfl rfl rfl (c1) ?_) | (refine aN ?_;  first | refine aG ?_ | refine aQ ?_ | refine aT ?_ | refine aA (b := true) rfl (fun _ => ?_) nTf) | (refine aJ ?_;  first | refine aR ?_))
    all_goals first
      | exact absurd rfl (by assumption)
      | exact absurd (by assumption) hc
      | (refine aX (by first | exact .inl rfl | exact .inr rfl) (bO rfl (aD rfl) (aD rfl)) rfl ?_; rfl)
end Go.Proofs.YtlbemgokilhdnaaGreatDoor.Ab
namespace Go.Proofs.YtlbemgokilhdnaaGreatDoor.Ab
set_option linter.unusedVariables false
set_option linter.unusedSimpArgs false
open Go.RowKit Go.Lib Go.Proofs.YtlbemgokilhdnaaGreatDoorW.PrintWords Go.Proofs.YtlbemgokilhdnaaGreatDoorW.PrintLast Go.Proofs.YtlbemgokilhdnaaGreatDoorW.PrintMore Go.Proofs.YtlbemgokilhdnaaGreatDoor.RP Go.Proofs.YtlbemgokilhdnaaGreatDoor.RW Go.Proofs.YtlbemgokilhdnaaGreatDoor.PAll
/-- Texts, one behind the other, a separator between. -/
def joinS (sep : ByteArray) (l : List ByteArray) : ByteArray := ⟨(Lib.join (l.map (·.data.toList)) sep.data.toList).toArray⟩
theorem aBa (f : Bool) (l : List ByteArray) (sep : ByteArray) (hl : l.length ≤ 1000000) (hs : (joinS sep l).size ≤ 140737488355328) : ACalls Tryz.prog 93 [.imm (.sl f l.length (strs l)), .imm (.lit (.string sep))] [] (.imm (.lit (.string (joinS sep l)))) [] :=
  kW (args := [.sl f l.length (strs l), .lit (.string sep)]) (r := .lit (.string (joinS sep l))) ⟨_, Tryz.func93, rfl, rfl⟩ (fun w M vs ha hv => by
    obtain ⟨v, us, rfl, h1, h2⟩ := gA hv
    obtain ⟨v2, us, rfl, h3, h4⟩ := gA h2
    rw [mB h3, mY h4]
    obtain ⟨a, cap, rfl, hc, hn, h⟩ := yT h1
    have hj : (Lib.join (l.map (·.data.toList)) sep.data.toList).length ≤ 140737488355328 := by
      have e2 : (joinS sep l).size = (Lib.join (l.map (·.data.toList)) sep.data.toList).length := by rw [← eH]; rfl
      rw [← e2]; exact hs
    rcases h with rfl | ⟨b, o, rfl, hb, hcells⟩
    · refine (Tryz.strings_Join_none a cap sep w).mono fun e w' ⟨he, hw⟩ => ⟨_, he, ?_, ?_⟩
      · rw [hw]; exact Below.refl _ _
      · exact gR rfl
    · refine (Tryz.strings_Join b o cap l sep w hcells hb (by omega) hc hj).mono fun e w' ⟨he, hw⟩ => ⟨_, he, hw, ?_⟩
      exact gR rfl)
end Go.Proofs.YtlbemgokilhdnaaGreatDoor.Ab
namespace Go.Proofs.YtlbemgokilhdnaaGreatDoor.Ab
set_option linter.unusedVariables false
set_option linter.unusedSimpArgs false
open Go.RowKit Go.Proofs.YtlbemgokilhdnaaGreatDoor.RP
attribute [local irreducible] AWP AOps AExit AThen ABlock ANoGoto FeetOk
abbrev strVX : ByteArray := ⟨#[118, 58, 120]⟩
/-- v:x = int -/
abbrev strVXI : ByteArray := ⟨#[118, 58, 120, 32, 61, 32, 105, 110, 116]⟩
def exV : Tree := .node 160 0 emptyB emptyB [.node 111 0 emptyB emptyB []]
def exN : Tree := .node 162 0 emptyB emptyB [.node 163 0 strVX emptyB [exV]]
def exC : Tree := .node 115 0 emptyB emptyB [.node 116 0 strVX emptyB [.node 111 0 emptyB emptyB []]]
set_option maxHeartbeats 4000000 in
set_option maxRecDepth 10000 in
theorem xZ : ACalls Tryz.prog 70 [.imm (Tree.iv (.node 111 0 emptyB emptyB []))] [] (.imm (.lit (.string ⟨#[105, 110, 116]⟩))) [] := by
  refine aM Tryz.func70 rfl rfl (nb rfl) rfl ?_
  repeat' (first | refine aE ?_ | (refine aH ?_;  first | refine aC tabOk rfl rfl rfl (nb rfl) rfl ?_ | (refine aK rfl rfl rfl (nb rfl) rfl rfl rfl (fun hq => ?_) (fun hq => ?_) <;> (first | (simp only [sD, sE, sB, sC, sN, sM, sT, sF] at hq; try (exfalso; omega)) | skip)) | refine aU tabOk rfl rfl (nb rfl) rfl ?_) | (refine aN ?_;  first | refine aG ?_ | refine aQ ?_ | refine bE ?_ | refine aZ ?_ | refine aT ?_ | refine aA (b := true) rfl (fun _ => ?_) nTf | refine aA (b := false) rfl nFt (fun _ => ?_)) | (refine aJ ?_;  first | refine bB ?_ | refine aR ?_) | (refine bA ?_;  first | refine bG ?_))
  all_goals first
    | exact absurd rfl (by assumption)
    | (exfalso; omega)
    | (refine aX (by first | exact .inl rfl | exact .inr rfl) (aV rfl (aD rfl)) rfl ?_; rfl)
theorem tK : joinS ⟨#[32, 44, 32]⟩ [strVXI] = strVXI := rfl
set_option maxHeartbeats 8000000 in
set_option maxRecDepth 10000 in
theorem aAj : ACalls Tryz.prog 70 [.imm exC.iv] [] (.imm (.lit (.string ⟨#[123, 32, 118, 58, 120, 32, 61, 32, 105, 110, 116, 32, 125]⟩))) [] := by
  have c1 := xZ
  have c2 := aBa false [strVXI] ⟨#[32, 44, 32]⟩ (by decide) (by rw [tK]; decide)
  rw [tK] at c2
  unfold exC
  refine aM Tryz.func70 rfl rfl (nb rfl) rfl ?_
  repeat' (first | refine aE ?_ | (refine aH ?_;  first | refine aC tabOk rfl rfl rfl (nb rfl) rfl ?_ | (refine aK rfl rfl rfl (nb rfl) rfl rfl rfl (fun hq => ?_) (fun hq => ?_) <;> (first | (simp only [sD, sE, sB, sC, sN, sM, sT, sF] at hq; try (exfalso; omega)) | skip)) | refine aU tabOk rfl rfl (nb rfl) rfl ?_) | (refine aN ?_;  first | refine aG ?_ | refine aQ ?_ | refine bE ?_ | refine aZ ?_ | refine aW ?_ | refine aA (b := false) rfl nFt (fun _ => ?_)) | (refine aJ ?_;  first | refine bB ?_) | (refine bA ?_;  first | refine bR ?_))
  all_goals first
    | exact absurd rfl (by assumption)
    | (exfalso; omega)
    | skip
  refine dK (pP (t := 7) 500 9 1 rfl (by simp) rfl rfl) ?_
  refine cB (ι := {j : Nat // j ≤ 1}) (fun j => S.f ⟨[(72, .imm (.lit (.int .i64 (j.1 : Int)))), (71, .imm (.lit (.int .i64 1))), (70, .imm (.sl false 1 (Tree.ivs [.node 116 0 strVX emptyB [.node 111 0 emptyB emptyB []]]))), (4, .imm (.lit (.string ⟨#[32, 44, 32]⟩))), (5, .imm (.lit (.string ⟨#[32, 61, 32]⟩))), (6, .imm (.lit (.string ⟨#[]⟩))), (7, .ref 500 j.1)], [(500, .arr 9 1 j.1 (strs ([strVXI].take j.1)))]⟩) (fun j => 1 - j.1) ⟨0, Nat.zero_le _⟩ (bY (by repeat' first | exact trivial | refine ⟨rfl, ?_⟩) (by repeat' first | exact trivial | refine ⟨rfl, ?_⟩)) ?_
  rintro ⟨j, hj⟩
  dsimp only
  by_cases hlt : j < 1
  · obtain rfl : j = 0 := by omega
    have s1 : strVX.size = 3 := rfl
    have s2 : (⟨#[32, 61, 32]⟩ : ByteArray).size = 3 := rfl
    have s3 : (⟨#[105, 110, 116]⟩ : ByteArray).size = 3 := rfl
    repeat' (first | refine aE ?_ | (refine aH ?_;  first | refine aC tabOk rfl rfl rfl (nb rfl) rfl ?_ | (refine aK rfl rfl rfl (nb rfl) rfl rfl rfl (fun hq => ?_) (fun hq => ?_) <;> (first | (simp only [sD, sE, sB, sC, sN, sM, sT, sF] at hq; try (exfalso; omega)) | skip)) | refine dL rfl rfl rfl (nb rfl) rfl rfl (by first | omega | (simp only [cT]; omega)) ?_ | refine aI rfl rfl (nb rfl) rfl rfl rfl rfl (c1) ?_ | refine cY tabOk rfl rfl rfl (nb rfl) rfl rfl rfl rfl rfl rfl rfl (by first | omega | decide) rfl (by first | omega | (dsimp only; omega)) (by first | omega | (dsimp only; omega)) ?_ | refine bK rfl rfl rfl (nb rfl) rfl rfl (by omega) ?_ | refine bV tabOk rfl rfl rfl (nb rfl) rfl rfl rfl rfl rfl rfl rfl rfl rfl ?_ | refine bF tabOk rfl rfl rfl (nb rfl) rfl rfl rfl rfl (by first | assumption | omega) ?_) | (refine aN ?_;  first | refine aG ?_ | refine aQ ?_ | refine bE ?_ | refine aZ ?_ | refine aW ?_ | refine aA (b := true) rfl (fun _ => ?_) nTf | refine bC mixed (by kernel_rfl) ?_) | (refine aJ ?_;  first | refine bB ?_) | (refine bA ?_;  first | refine bR ?_) | refine bU (bQ (by kernel_rfl)) ?_)
    all_goals first
      | (exfalso; omega)
      | exact ⟨⟨1, Nat.le_refl _⟩, (by show 1 - 1 < 1 - 0; omega), (bY (by repeat' first | exact trivial | refine ⟨rfl, ?_⟩) (by repeat' first | exact trivial | refine ⟨rfl, ?_⟩))⟩
  · obtain rfl : j = 1 := by omega
    refine dK ((Imp.of_le (σ' := S.f ⟨[(72, .imm (.lit (.int .i64 1))), (71, .imm (.lit (.int .i64 1))), (4, .imm (.lit (.string ⟨#[32, 44, 32]⟩))), (6, .imm (.lit (.string ⟨#[]⟩))), (7, .ref 500 1)], [(500, .arr 9 1 1 (strs [strVXI]))]⟩) (bY (by repeat' first | exact trivial | refine ⟨rfl, ?_⟩) (by repeat' first | exact trivial | refine ⟨rfl, ?_⟩))).trans (cU (g := 500) rfl (by repeat' first | exact trivial | exact fun _ => rfl | refine ⟨?_, ?_⟩) (by repeat' first | exact trivial | exact fun _ => rfl | refine ⟨?_, ?_⟩))) ?_
    have s1 : (⟨#[]⟩ : ByteArray).size = 0 := rfl
    have s2 : (⟨#[123, 32]⟩ : ByteArray).size = 2 := rfl
    have s3 : strVXI.size = 9 := rfl
    have s4 : (⟨#[32, 125]⟩ : ByteArray).size = 2 := rfl
    repeat' (first | refine aE ?_ | (refine aH ?_;  first | refine aC tabOk rfl rfl rfl (nb rfl) rfl ?_ | (refine aK rfl rfl rfl (nb rfl) rfl rfl rfl (fun hq => ?_) (fun hq => ?_) <;> (first | (simp only [sD, sE, sB, sC, sN, sM, sT, sF] at hq; try (exfalso; omega)) | skip)) | refine dL rfl rfl rfl (nb rfl) rfl rfl (by first | omega | (simp only [cT]; omega)) ?_ | refine aI rfl rfl (nb rfl) rfl rfl rfl rfl (c2) ?_ | refine aU tabOk rfl rfl (nb rfl) rfl ?_) | (refine aN ?_;  first | refine aG ?_ | refine aQ ?_ | refine aT ?_ | refine bS ?_ | refine aW ?_ | refine aA (b := false) rfl nFt (fun _ => ?_)) | (refine aJ ?_;  first | refine bB ?_ | refine bJ ?_) | (refine bA ?_;  first | refine bH ?_))
    all_goals first
      | exact absurd rfl (by assumption)
      | (exfalso; omega)
      | (refine aX (by first | exact .inl rfl | exact .inr rfl) (aV rfl (aD rfl)) rfl ?_; rfl)
end Go.Proofs.YtlbemgokilhdnaaGreatDoor.Ab
namespace Go.Proofs.YtlbemgokilhdnaaGreatDoor.Ab
set_option linter.unusedVariables false
set_option linter.unusedSimpArgs false
open Go.RowKit Go.Proofs.YtlbemgokilhdnaaGreatDoor.RP
attribute [local irreducible] AWP AOps AExit AThen ABlock ANoGoto FeetOk
set_option maxRecDepth 100000 in
theorem yA : sTransP exN = (exC, 0) := by decide +kernel
set_option maxRecDepth 100000 in
theorem aBw : sAtP exN ⟨#[118]⟩ ⟨#[120]⟩ = (exV, 0) := by decide +kernel
theorem yB : checkP isConP exC = 0 := by decide +kernel
set_option maxHeartbeats 4000000 in
set_option maxRecDepth 10000 in
theorem aBb : ACalls Tryz.prog 41 [.imm exC.iv] [] (.imm (.lit (.string ⟨#[123, 32, 118, 58, 120, 32, 61, 32, 105, 110, 116, 32, 125]⟩))) [] := by
  have c1 := iW exC (by decide)
  rw [yB] at c1
  have c2 := aAj
  generalize exC.iv = X at *
  refine aM Tryz.func41 rfl rfl (nb rfl) rfl ?_
  repeat' (first | refine aE ?_ | (refine aH ?_;  first | refine aC tabOk rfl rfl rfl (nb rfl) rfl ?_ | refine bD rfl rfl (nb rfl) ?_ | (refine aK rfl rfl rfl (nb rfl) rfl rfl rfl (fun hq => ?_) (fun hq => ?_) <;> (first | (simp only [sD, sE, sB, sC, sN, sM, sT, sF] at hq; try (exfalso; omega)) | skip)) | refine aI rfl rfl (nb rfl) rfl rfl rfl rfl (c1) ?_ | refine aI rfl rfl (nb rfl) rfl rfl rfl rfl (c2) ?_) | (refine aN ?_;  first | refine aG ?_ | refine aQ ?_ | refine aT ?_ | refine aW ?_ | refine aA (b := false) rfl nFt (fun _ => ?_)) | (refine aJ ?_;  first | refine bB ?_))
  all_goals first
    | exact absurd rfl (by assumption)
    | (refine aX (by first | exact .inl rfl | exact .inr rfl) (aV rfl (aD rfl)) rfl ?_; rfl)
set_option maxHeartbeats 8000000 in
set_option maxRecDepth 10000 in
theorem pH : ACalls Tryz.prog 13 [] [] (.imm (.lit (.bool true))) [] := by
  have c1 := vW exN (by decide)
  rw [yA] at c1
  have c2 := At_a exN ⟨#[118]⟩ ⟨#[120]⟩ (by decide) (by decide) (by decide)
  rw [aBw] at c2
  have c3 := aBb
  dsimp only at c1 c2
  generalize exC.iv = X at *
  refine aM Tryz.func13 rfl rfl (nb rfl) rfl ?_
  repeat' (first | refine aE ?_ | (refine aH ?_;  first | refine aC tabOk rfl rfl rfl (nb rfl) rfl ?_ | refine bD rfl rfl (nb rfl) ?_ | (refine aK rfl rfl rfl (nb rfl) rfl rfl rfl (fun hq => ?_) (fun hq => ?_) <;> (first | (simp only [sD, sE, sB, sC, sN, sM, sT, sF] at hq; try (exfalso; omega)) | skip)) | refine aI rfl rfl (nb rfl) rfl rfl rfl rfl (c1) ?_ | refine aI rfl rfl (nb rfl) rfl rfl rfl rfl (c2) ?_ | refine aI rfl rfl (nb rfl) rfl rfl rfl rfl (c3) ?_ | refine bV tabOk rfl rfl rfl (nb rfl) rfl rfl rfl rfl rfl rfl rfl rfl rfl ?_ | refine aU tabOk rfl rfl (nb rfl) rfl ?_) | (refine aN ?_;  first | refine aG ?_ | refine aT ?_))
  all_goals first
    | exact cF (by first | exact .inl rfl | exact .inr rfl) (aV rfl (aD rfl)) rfl
    | exact absurd rfl (by assumption)
    | (exfalso; omega)
set_option maxHeartbeats 8000000 in
set_option maxRecDepth 10000 in
theorem tL (l m : List CellD) (hl : ∀ c ∈ l, c.f = false) (hm : ∀ c ∈ m, c.f = false) : ACalls Tryz.prog 4 [.imm (.agg [.sl false l.length (cellIVs l)]), .imm (.agg [.sl false m.length (cellIVs m)])] [] (.imm (.lit (.bool true))) [] := by
  obtain ⟨x, x1, _, x3, d1⟩ := qH l hl
  obtain ⟨y, y1, _, y3, d2⟩ := qH m hm
  have c1 := eL x (by omega)
  have c2 := eM x x3 (by omega)
  have c3 := aAJ x (by omega)
  have c4 := zV x x3 (by omega)
  have c5 := vY x y x3 y3 (by omega) (by omega)
  have c6 := pE x y x3 y3 (by omega) (by omega)
  have c7 := vY x x x3 x3 (by omega) (by omega)
  have c8 := pE x x x3 x3 (by omega) (by omega)
  generalize checkP sformP x = C at *
  generalize ssmallP x = D at *
  generalize sSameP x y = E at *
  generalize sSameP x x = F at *
  cases E <;> cases F <;>
  (refine aM Tryz.func4 rfl rfl (nb rfl) rfl ?_
   repeat' (first | refine aE ?_ | (refine aH ?_;  first | refine aC tabOk rfl rfl rfl (nb rfl) rfl ?_ | (refine aK rfl rfl rfl (nb rfl) rfl rfl rfl (fun hq => ?_) (fun hq => ?_) <;> (first | (simp only [sD, sE, sB, sC, sN, sM, sT, sF] at hq; try (exfalso; omega)) | skip)) | refine aI rfl rfl (nb rfl) rfl rfl rfl rfl (d1) ?_ | refine aI rfl rfl (nb rfl) rfl rfl rfl rfl (d2) ?_ | refine aI rfl rfl (nb rfl) rfl rfl rfl rfl (c1) ?_ | refine aI rfl rfl (nb rfl) rfl rfl rfl rfl (c2) ?_ | refine aI rfl rfl (nb rfl) rfl rfl rfl rfl (c3) ?_ | refine aI rfl rfl (nb rfl) rfl rfl rfl rfl (c4) ?_ | refine aI rfl rfl (nb rfl) rfl rfl rfl rfl (c5) ?_ | refine aI rfl rfl (nb rfl) rfl rfl rfl rfl (c6) ?_ | refine aI rfl rfl (nb rfl) rfl rfl rfl rfl (c7) ?_ | refine aI rfl rfl (nb rfl) rfl rfl rfl rfl (c8) ?_ | refine aI rfl rfl (nb rfl) rfl rfl rfl rfl (pH) ?_ | refine aU tabOk rfl rfl (nb rfl) rfl ?_) | (refine aN ?_;  first | refine aG ?_ | refine aQ ?_ | refine aT ?_ | refine bC mixed (by kernel_rfl) ?_) | (refine aJ ?_;  first | refine bB ?_) | refine bU (bQ (by kernel_rfl)) ?_)
   all_goals first
     | exact cF (by first | exact .inl rfl | exact .inr rfl) (aV rfl (aD rfl)) rfl
     | exact absurd rfl (by assumption)
     | (exfalso; omega))
theorem SemChecks_law (xs : List IV) (h : FitsAll [tyTree, tyTree] xs) : ACalls Tryz.prog 4 (xs.map .imm) [] (.imm (.lit (.bool true))) [] := by
  cases h with
  | cons h1 h =>
    cases h with
    | cons h2 h =>
      cases h
      obtain ⟨l, rfl, hl⟩ := lA h1
      obtain ⟨m, rfl, hm⟩ := lA h2
      exact tL l m hl hm
end Go.Proofs.YtlbemgokilhdnaaGreatDoor.Ab
namespace Go.Proofs.YtlbemgokilhdnaaGreatDoor.Ab
set_option linter.unusedVariables false
set_option linter.unusedSimpArgs false
open Go.RowKit Go.Lib Go.Proofs.YtlbemgokilhdnaaGreatDoorW.PrintWords Go.Proofs.YtlbemgokilhdnaaGreatDoorW.PrintLast Go.Proofs.YtlbemgokilhdnaaGreatDoorW.PrintMore Go.Proofs.YtlbemgokilhdnaaGreatDoor.RP Go.Proofs.YtlbemgokilhdnaaGreatDoor.RW Go.Proofs.YtlbemgokilhdnaaGreatDoor.PAll
attribute [local irreducible] AWP AOps AExit AThen ABlock ANoGoto FeetOk
theorem pI (l : List ByteArray) (x : ByteArray) : strs (l ++ [x]) = strs l ++ [.lit (.string x)] := by simp [strs]
end Go.Proofs.YtlbemgokilhdnaaGreatDoor.Ab
namespace Go.Proofs.YtlbemgokilhdnaaGreatDoor.Ab
set_option linter.unusedVariables false
set_option linter.unusedSimpArgs false
open Go.RowKit Go.Lib Go.Proofs.YtlbemgokilhdnaaGreatDoorW.PrintWords Go.Proofs.YtlbemgokilhdnaaGreatDoorW.PrintLast Go.Proofs.YtlbemgokilhdnaaGreatDoorW.PrintMore Go.Proofs.YtlbemgokilhdnaaGreatDoor.RP Go.Proofs.YtlbemgokilhdnaaGreatDoor.RW Go.Proofs.YtlbemgokilhdnaaGreatDoor.PAll
attribute [local irreducible] AWP AOps AExit AThen ABlock ANoGoto FeetOk
set_option maxHeartbeats 4000000 in
set_option maxRecDepth 10000 in
theorem aAk (s : ByteArray) (hs : s.size ≤ 1000000) : ACalls Tryz.prog 90 [.imm (.lit (.string s))] [] (.imm (.lit (.bool (nameB s)))) [] := by
  have c1 := xX s hs
  have c2 := xW s
  unfold nameB
  refine aM Tryz.func90 rfl rfl (nb rfl) rfl ?_
  repeat' (first | refine aE ?_ | (refine aH ?_; first | refine aC tabOk rfl rfl rfl (nb rfl) rfl ?_ | refine bD rfl rfl (nb rfl) ?_ | (refine aK rfl rfl rfl (nb rfl) rfl rfl rfl (fun hq => ?_) (fun hq => ?_) <;> (first | (simp only [sD, sE, sB, sC, sN, sM, sT, sF] at hq; try (exfalso; omega)) | skip))| (refine bP rfl rfl rfl (nb rfl) rfl rfl rfl (c1) (fun hq => ?_) (fun hq => ?_)) | (refine bP rfl rfl rfl (nb rfl) rfl rfl rfl (c2) (fun hq => ?_) (fun hq => ?_)) | refine bK rfl rfl rfl (nb rfl) rfl rfl (by omega) ?_ | refine cI rfl rfl rfl (nb rfl) rfl rfl rfl (by omega) (by omega) ?_ | refine bZ rfl rfl rfl (nb rfl) rfl rfl rfl (by omega) (by omega) ?_ | refine bV tabOk rfl rfl rfl (nb rfl) rfl rfl rfl rfl rfl rfl rfl rfl rfl ?_ | refine aU tabOk rfl rfl (nb rfl) rfl ?_ | refine cD tabOk rfl rfl rfl (nb rfl) rfl rfl rfl rfl rfl rfl ?_ | refine bT tabOk rfl rfl rfl (nb rfl) rfl rfl rfl rfl ?_ | refine bN tabOk rfl rfl rfl rfl rfl rfl rfl rfl rfl rfl rfl ?_ | refine bF tabOk rfl rfl rfl (nb rfl) rfl rfl rfl rfl (by first | assumption | omega) ?_ | refine bI tabOk rfl rfl rfl (nb rfl) rfl rfl rfl rfl (by first | rfl | omega) (by first | omega | simp) ?_ | refine aY tabOk rfl rfl rfl (nb rfl) rfl rfl rfl (by assumption) ?_ | refine aY tabOk rfl rfl rfl (nb rfl) rfl rfl rfl (cA _ _ (by first | assumption | omega)) ?_ | refine bK rfl rfl rfl (nb rfl) rfl rfl (by omega) ?_ | ((fail_if_success (refine bX (b := true) rfl rfl rfl ?_)); (fail_if_success (refine bX (b := false) rfl rfl rfl ?_)); refine cJ rfl rfl rfl (fun hq => ?_) (fun hq => ?_) <;> first | subst hq | (first | (simp only [sD, sE, sB, sC, sN, sM, sT, sF] at hq; try (exfalso; omega)) | skip)) | fail) | (refine aN ?_; first | refine aG ?_ | refine aQ ?_ | refine bE ?_ | refine aZ ?_ | refine aT ?_ | refine bS ?_ | refine aW ?_ | refine aA (b := true) rfl (fun _ => ?_) nTf | refine aA (b := false) rfl nFt (fun _ => ?_) | refine cO ?_ | refine cN ?_ | refine cP mixed (by kernel_rfl) ?_ | refine bC mixed (by kernel_rfl) ?_ | (refine aA rfl (fun hq => ?_) (fun hq => ?_) <;> first | subst hq | (first | (simp only [sD, sE, sB, sC, sN, sM, sT, sF] at hq; try (exfalso; omega)) | skip)) | fail) | (refine aJ ?_; first | refine bB ?_ | refine bJ ?_ | refine aR ?_ | fail) | (refine bA ?_; first | refine bR ?_ | refine bH ?_ | refine cC (by decide) ?_ | refine bG ?_ | fail) | refine bU (bQ (by kernel_rfl)) ?_ | fail)
  all_goals (refine aX (by first | exact .inl rfl | exact .inr rfl) (aV rfl (aD rfl)) rfl ?_; refine cH ?_; simp_all)
theorem ext_list (s : ByteArray) (i j : Nat) : (s.extract i j).data.toList = (s.data.toList.take j).drop i := by
  rw [ByteArray.data_extract, Array.toList_extract, List.extract_eq_take_drop, List.drop_take]
theorem tM (s : ByteArray) (i : Nat) (h : i < s.size) : s.data.toList[i]? = some s[i] := by
  rw [List.getElem?_eq_getElem (by rw [eH]; exact h)]
  rfl
theorem aAl (s : ByteArray) (a i : Nat) (ha : a ≤ i) (hi : i < s.size) (hb : s[i] = 46) (hn : (46 : UInt8) ∉ (s.extract a i).data.toList) :
    pcsB (s.extract a s.size) = s.extract a i :: pcsB (s.extract (i + 1) s.size) := by
  have hl : (s.extract a s.size).data.toList = (s.extract a i).data.toList ++ 46 :: (s.extract (i + 1) s.size).data.toList := by
    rw [ext_list, ext_list, ext_list, ← eH, List.take_length]
    have hb' := tM s i hi
    rw [hb] at hb'
    generalize s.data.toList = l at *
    have h1 : l = l.take i ++ 46 :: l.drop (i + 1) := by
      conv => lhs; rw [← List.take_append_drop i l]
      congr 1
      rw [List.drop_eq_getElem?_toList_append, hb']
      rfl
    have h2 : (l.take i).length = i := by
      rw [List.length_take]
      have : i < l.length := by
        rcases Nat.lt_or_ge i l.length with h | h
        · exact h
        · rw [List.getElem?_eq_none h] at hb'; cases hb'
      omega
    conv => lhs; rw [h1]
    rw [List.drop_append, h2, Nat.sub_eq_zero_of_le ha]
    rfl
  unfold pcsB
  rw [hl, qR, gI _ hn]
  show mkB _ :: (pcs _).map mkB = _
  rw [kP]
theorem aBc (s : ByteArray) (h : (46 : UInt8) ∉ s.data.toList) : pcsB s = [s] := by
  unfold pcsB
  rw [gI _ h]
  show [mkB _] = _
  rw [kP]
theorem tN (s : ByteArray) (a i : Nat) (ha : a ≤ i) (hi : i < s.size) (hb : s[i] ≠ 46) (hn : (46 : UInt8) ∉ (s.extract a i).data.toList) : (46 : UInt8) ∉ (s.extract a (i + 1)).data.toList := by
  have hb' := tM s i hi
  rw [ext_list] at hn ⊢
  have h2 : (s.data.toList.take i).length = i := by rw [List.length_take, eH]; omega
  rw [List.take_add_one, hb', List.drop_append, h2, Nat.sub_eq_zero_of_le ha, List.mem_append]
  rintro (h | h)
  · exact hn h
  · exact hb (List.mem_singleton.1 h).symm
theorem lP (s : ByteArray) (i : Nat) : (46 : UInt8) ∉ (s.extract i i).data.toList := by
  rw [ext_list, List.drop_eq_nil_of_le (by rw [List.length_take]; omega)]
  exact List.not_mem_nil
structure PcI (s : ByteArray) (i a : Nat) (D : List ByteArray) : Prop where
  le : i ≤ s.size
  ge : a ≤ i
  p : pcsB s = D ++ pcsB (s.extract a s.size)
  n : (46 : UInt8) ∉ (s.extract a i).data.toList
theorem ext_all (s : ByteArray) : s.extract 0 s.size = s := by
  apply qQ
  rw [ext_list, ← eH, List.take_length]
  rfl
theorem aBK {b : UInt8} (h : (b.toNat : Int) = 46) : b = 46 := by
  apply UInt8.toNat_inj.1
  have : b.toNat = 46 := by omega
  rw [this]; rfl
set_option maxHeartbeats 8000000 in
set_option maxRecDepth 10000 in
theorem tO (s : ByteArray) (hs : s.size ≤ 100000) : ACalls Tryz.prog 68 [.imm (.lit (.string s))] [] (.imm (.sl false (pcsB s).length (strs (pcsB s)))) [] := by
  have hpl := iM s
  refine cZ Tryz.func68 rfl rfl (nb rfl) rfl ?_
  repeat' (first | refine aE ?_ | (refine aH ?_; first | refine aC tabOk rfl rfl rfl (nb rfl) rfl ?_ | refine bD rfl rfl (nb rfl) ?_ | (refine aK rfl rfl rfl (nb rfl) rfl rfl rfl (fun hq => ?_) (fun hq => ?_) <;> (first | (simp only [sD, sE, sB, sC, sN, sM, sT, sF] at hq; try (exfalso; omega)) | skip)) | refine bK rfl rfl rfl (nb rfl) rfl rfl (by omega) ?_ | refine cI rfl rfl rfl (nb rfl) rfl rfl rfl (by omega) (by omega) ?_ | refine bZ rfl rfl rfl (nb rfl) rfl rfl rfl (by omega) (by omega) ?_ | refine bV tabOk rfl rfl rfl (nb rfl) rfl rfl rfl rfl rfl rfl rfl rfl rfl ?_ | refine aU tabOk rfl rfl (nb rfl) rfl ?_ | refine cD tabOk rfl rfl rfl (nb rfl) rfl rfl rfl rfl rfl rfl ?_ | refine bT tabOk rfl rfl rfl (nb rfl) rfl rfl rfl rfl ?_ | refine bN tabOk rfl rfl rfl rfl rfl rfl rfl rfl rfl rfl rfl ?_ | refine bF tabOk rfl rfl rfl (nb rfl) rfl rfl rfl rfl (by first | assumption | omega) ?_ | refine bI tabOk rfl rfl rfl (nb rfl) rfl rfl rfl rfl (by first | rfl | omega) (by first | omega | simp) ?_ | refine aY tabOk rfl rfl rfl (nb rfl) rfl rfl rfl (by assumption) ?_ | refine aY tabOk rfl rfl rfl (nb rfl) rfl rfl rfl (cA _ _ (by first | assumption | omega)) ?_ | refine bK rfl rfl rfl (nb rfl) rfl rfl (by omega) ?_ | ((fail_if_success (refine bX (b := true) rfl rfl rfl ?_)); (fail_if_success (refine bX (b := false) rfl rfl rfl ?_)); refine cJ rfl rfl rfl (fun hq => ?_) (fun hq => ?_) <;> first | subst hq | (first | (simp only [sD, sE, sB, sC, sN, sM, sT, sF] at hq; try (exfalso; omega)) | skip)) | fail) | (refine aN ?_; first | refine aG ?_ | refine aQ ?_ | refine bE ?_ | refine aZ ?_ | refine aT ?_ | refine bS ?_ | refine aW ?_ | refine aA (b := true) rfl (fun _ => ?_) nTf | refine aA (b := false) rfl nFt (fun _ => ?_) | refine cO ?_ | refine cN ?_ | refine cP mixed (by kernel_rfl) ?_ | refine bC mixed (by kernel_rfl) ?_ | (refine aA rfl (fun hq => ?_) (fun hq => ?_) <;> first | subst hq | (first | (simp only [sD, sE, sB, sC, sN, sM, sT, sF] at hq; try (exfalso; omega)) | skip)) | fail) | (refine aJ ?_; first | refine bB ?_ | refine bJ ?_ | refine aR ?_ | fail) | (refine bA ?_; first | refine bR ?_ | refine bH ?_ | refine cC (by decide) ?_ | refine bG ?_ | fail) | refine bU (bQ (by kernel_rfl)) ?_ | fail)
  refine dK (pP (t := 3) 500 9 1 rfl (by simp) rfl rfl) ?_
  refine cB (ι := {x : Nat × Nat × List ByteArray // PcI s x.1 x.2.1 x.2.2}) (fun x => S.f ⟨[(5, .imm (.lit (.int .i64 (x.1.1 : Int)))), (4, .imm (.lit (.int .i64 (x.1.2.1 : Int)))), (3, .ref 500 x.1.2.2.length), (0, .imm (.lit (.string s)))], [(500, .arr 9 1 x.1.2.2.length (strs x.1.2.2))]⟩) (fun x => s.size - x.1.1) ⟨(0, 0, []), ⟨Nat.zero_le _, Nat.le_refl _, by rw [ext_all]; rfl, lP s 0⟩⟩ (bY (by repeat' first | exact trivial | refine ⟨rfl, ?_⟩) (by repeat' first | exact trivial | refine ⟨rfl, ?_⟩)) ?_
  rintro ⟨⟨i, a, D⟩, hI⟩
  have hI : PcI s i a D := hI
  obtain ⟨hi, ha, hp, hn⟩ := hI
  dsimp only
  have hDl : D.length ≤ s.size + 1 := by rw [hp, List.length_append] at hpl; omega
  by_cases hlt : i < s.size
  · have hg : s[i]? = some s[i] := getElem?_pos s i hlt
    by_cases hb : s[i] = 46
    · have hst := aAl s a i ha hlt hb hn
      have hD : strs (D ++ [s.extract a i]) = strs D ++ [.lit (.string (s.extract a i))] := pI D _
      rw [hb] at hg
      repeat' (first | refine aE ?_ | (refine aH ?_; first | refine aC tabOk rfl rfl rfl (nb rfl) rfl ?_ | refine bD rfl rfl (nb rfl) ?_ | (refine aK rfl rfl rfl (nb rfl) rfl rfl rfl (fun hq => ?_) (fun hq => ?_) <;> (first | (simp only [sD, sE, sB, sC, sN, sM, sT, sF] at hq; try (exfalso; omega)) | skip))| refine oP tabOk rfl rfl rfl (nb rfl) rfl rfl rfl rfl hg ?_ | refine eQ tabOk rfl rfl rfl (nb rfl) rfl rfl rfl rfl (by omega) (by omega) rfl ?_ | refine cY tabOk rfl rfl rfl (nb rfl) rfl rfl rfl rfl rfl rfl rfl (by first | omega | decide) rfl (by first | omega | (dsimp only; omega)) (by first | omega | (dsimp only; omega)) ?_ | refine bK rfl rfl rfl (nb rfl) rfl rfl (by omega) ?_ | refine cI rfl rfl rfl (nb rfl) rfl rfl rfl (by omega) (by omega) ?_ | refine bZ rfl rfl rfl (nb rfl) rfl rfl rfl (by omega) (by omega) ?_ | refine bV tabOk rfl rfl rfl (nb rfl) rfl rfl rfl rfl rfl rfl rfl rfl rfl ?_ | refine aU tabOk rfl rfl (nb rfl) rfl ?_ | refine cD tabOk rfl rfl rfl (nb rfl) rfl rfl rfl rfl rfl rfl ?_ | refine bT tabOk rfl rfl rfl (nb rfl) rfl rfl rfl rfl ?_ | refine bN tabOk rfl rfl rfl rfl rfl rfl rfl rfl rfl rfl rfl ?_ | refine bF tabOk rfl rfl rfl (nb rfl) rfl rfl rfl rfl (by first | assumption | omega) ?_ | refine bI tabOk rfl rfl rfl (nb rfl) rfl rfl rfl rfl (by first | rfl | omega) (by first | omega | simp) ?_ | refine aY tabOk rfl rfl rfl (nb rfl) rfl rfl rfl (by assumption) ?_ | refine aY tabOk rfl rfl rfl (nb rfl) rfl rfl rfl (cA _ _ (by first | assumption | omega)) ?_ | refine bK rfl rfl rfl (nb rfl) rfl rfl (by omega) ?_ | ((fail_if_success (refine bX (b := true) rfl rfl rfl ?_)); (fail_if_success (refine bX (b := false) rfl rfl rfl ?_)); refine cJ rfl rfl rfl (fun hq => ?_) (fun hq => ?_) <;> first | subst hq | (first | (simp only [sD, sE, sB, sC, sN, sM, sT, sF] at hq; try (exfalso; omega)) | skip)) | fail) | (refine aN ?_; first | refine aG ?_ | refine aQ ?_ | refine bE ?_ | refine aZ ?_ | refine aT ?_ | refine bS ?_ | refine aW ?_ | refine aA (b := true) rfl (fun _ => ?_) nTf | refine aA (b := false) rfl nFt (fun _ => ?_) | refine cO ?_ | refine cN ?_ | refine cP mixed (by kernel_rfl) ?_ | refine bC mixed (by kernel_rfl) ?_ | (refine aA rfl (fun hq => ?_) (fun hq => ?_) <;> first | subst hq | (first | (simp only [sD, sE, sB, sC, sN, sM, sT, sF] at hq; try (exfalso; omega)) | skip)) | fail) | (refine aJ ?_; first | refine bB ?_ | refine bJ ?_ | refine aR ?_ | fail) | (refine bA ?_; first | refine bR ?_ | refine bH ?_ | refine cC (by decide) ?_ | refine bG ?_ | fail) | refine bU (bQ (by kernel_rfl)) ?_ | fail)
      all_goals first | (rename_i hq _; exact absurd rfl hq) | (refine ⟨⟨(i + 1, i + 1, D ++ [s.extract a i]), ⟨hlt, Nat.le_refl _, by rw [hp, hst, List.append_assoc]; rfl, lP s _⟩⟩, (by show s.size - (i + 1) < s.size - i; omega), ?_⟩; dsimp only; rw [List.length_append, hD]; exact (bY (by repeat' first | exact trivial | refine ⟨rfl, ?_⟩) (by repeat' first | exact trivial | refine ⟨rfl, ?_⟩)))
    · repeat' (first | refine aE ?_ | (refine aH ?_; first | refine aC tabOk rfl rfl rfl (nb rfl) rfl ?_ | refine bD rfl rfl (nb rfl) ?_ | (refine aK rfl rfl rfl (nb rfl) rfl rfl rfl (fun hq => ?_) (fun hq => ?_) <;> (first | (simp only [sD, sE, sB, sC, sN, sM, sT, sF] at hq; try (exfalso; omega)) | skip))| refine oP tabOk rfl rfl rfl (nb rfl) rfl rfl rfl rfl hg ?_ | refine bK rfl rfl rfl (nb rfl) rfl rfl (by omega) ?_ | refine cI rfl rfl rfl (nb rfl) rfl rfl rfl (by omega) (by omega) ?_ | refine bZ rfl rfl rfl (nb rfl) rfl rfl rfl (by omega) (by omega) ?_ | refine bV tabOk rfl rfl rfl (nb rfl) rfl rfl rfl rfl rfl rfl rfl rfl rfl ?_ | refine aU tabOk rfl rfl (nb rfl) rfl ?_ | refine cD tabOk rfl rfl rfl (nb rfl) rfl rfl rfl rfl rfl rfl ?_ | refine bT tabOk rfl rfl rfl (nb rfl) rfl rfl rfl rfl ?_ | refine bN tabOk rfl rfl rfl rfl rfl rfl rfl rfl rfl rfl rfl ?_ | refine bF tabOk rfl rfl rfl (nb rfl) rfl rfl rfl rfl (by first | assumption | omega) ?_ | refine bI tabOk rfl rfl rfl (nb rfl) rfl rfl rfl rfl (by first | rfl | omega) (by first | omega | simp) ?_ | refine aY tabOk rfl rfl rfl (nb rfl) rfl rfl rfl (by assumption) ?_ | refine aY tabOk rfl rfl rfl (nb rfl) rfl rfl rfl (cA _ _ (by first | assumption | omega)) ?_ | refine bK rfl rfl rfl (nb rfl) rfl rfl (by omega) ?_ | ((fail_if_success (refine bX (b := true) rfl rfl rfl ?_)); (fail_if_success (refine bX (b := false) rfl rfl rfl ?_)); refine cJ rfl rfl rfl (fun hq => ?_) (fun hq => ?_) <;> first | subst hq | (first | (simp only [sD, sE, sB, sC, sN, sM, sT, sF] at hq; try (exfalso; omega)) | skip)) | fail) | (refine aN ?_; first | refine aG ?_ | refine aQ ?_ | refine bE ?_ | refine aZ ?_ | refine aT ?_ | refine bS ?_ | refine aW ?_ | refine aA (b := true) rfl (fun _ => ?_) nTf | refine aA (b := false) rfl nFt (fun _ => ?_) | refine cO ?_ | refine cN ?_ | refine cP mixed (by kernel_rfl) ?_ | refine bC mixed (by kernel_rfl) ?_ | (refine aA rfl (fun hq => ?_) (fun hq => ?_) <;> first | subst hq | (first | (simp only [sD, sE, sB, sC, sN, sM, sT, sF] at hq; try (exfalso; omega)) | skip)) | fail) | (refine aJ ?_; first | refine bB ?_ | refine bJ ?_ | refine aR ?_ | fail) | (refine bA ?_; first | refine bR ?_ | refine bH ?_ | refine cC (by decide) ?_ | refine bG ?_ | fail) | refine bU (bQ (by kernel_rfl)) ?_ | fail)
      · rename_i hq _
        exact absurd (aBK hq) hb
      · exact ⟨⟨(i + 1, a, D), ⟨hlt, (by show a ≤ i + 1; omega), hp, tN s a i ha hlt hb hn⟩⟩, (by show s.size - (i + 1) < s.size - i; omega), (bY (by repeat' first | exact trivial | refine ⟨rfl, ?_⟩) (by repeat' first | exact trivial | refine ⟨rfl, ?_⟩))⟩
  · have ei : i = s.size := by omega
    subst ei
    have hst := aBc _ hn
    have hD : strs (D ++ [s.extract a s.size]) = strs D ++ [.lit (.string (s.extract a s.size))] := pI D _
    rw [hst] at hp
    rw [hp, hD]
    repeat' (first | refine aE ?_ | (refine aH ?_; first | refine aC tabOk rfl rfl rfl (nb rfl) rfl ?_ | refine bD rfl rfl (nb rfl) ?_ | (refine aK rfl rfl rfl (nb rfl) rfl rfl rfl (fun hq => ?_) (fun hq => ?_) <;> (first | (simp only [sD, sE, sB, sC, sN, sM, sT, sF] at hq; try (exfalso; omega)) | skip))| refine eQ tabOk rfl rfl rfl (nb rfl) rfl rfl rfl rfl (by omega) (by omega) rfl ?_ | refine cY tabOk rfl rfl rfl (nb rfl) rfl rfl rfl rfl rfl rfl rfl (by first | omega | decide) rfl (by first | omega | (dsimp only; omega)) (by first | omega | (dsimp only; omega)) ?_ | refine bK rfl rfl rfl (nb rfl) rfl rfl (by omega) ?_ | refine cI rfl rfl rfl (nb rfl) rfl rfl rfl (by omega) (by omega) ?_ | refine bZ rfl rfl rfl (nb rfl) rfl rfl rfl (by omega) (by omega) ?_ | refine bV tabOk rfl rfl rfl (nb rfl) rfl rfl rfl rfl rfl rfl rfl rfl rfl ?_ | refine aU tabOk rfl rfl (nb rfl) rfl ?_ | refine cD tabOk rfl rfl rfl (nb rfl) rfl rfl rfl rfl rfl rfl ?_ | refine bT tabOk rfl rfl rfl (nb rfl) rfl rfl rfl rfl ?_ | refine bN tabOk rfl rfl rfl rfl rfl rfl rfl rfl rfl rfl rfl ?_ | refine bF tabOk rfl rfl rfl (nb rfl) rfl rfl rfl rfl (by first | assumption | omega) ?_ | refine bI tabOk rfl rfl rfl (nb rfl) rfl rfl rfl rfl (by first | rfl | omega) (by first | omega | simp) ?_ | refine aY tabOk rfl rfl rfl (nb rfl) rfl rfl rfl (by assumption) ?_ | refine aY tabOk rfl rfl rfl (nb rfl) rfl rfl rfl (cA _ _ (by first | assumption | omega)) ?_ | refine bK rfl rfl rfl (nb rfl) rfl rfl (by omega) ?_ | ((fail_if_success (refine bX (b := true) rfl rfl rfl ?_)); (fail_if_success (refine bX (b := false) rfl rfl rfl ?_)); refine cJ rfl rfl rfl (fun hq => ?_) (fun hq => ?_) <;> first | subst hq | (first | (simp only [sD, sE, sB, sC, sN, sM, sT, sF] at hq; try (exfalso; omega)) | skip)) | fail) | (refine aN ?_; first | refine aG ?_ | refine aQ ?_ | refine bE ?_ | refine aZ ?_ | refine aT ?_ | refine bS ?_ | refine aW ?_ | refine aA (b := true) rfl (fun _ => ?_) nTf | refine aA (b := false) rfl nFt (fun _ => ?_) | refine cO ?_ | refine cN ?_ | refine cP mixed (by kernel_rfl) ?_ | refine bC mixed (by kernel_rfl) ?_ | (refine aA rfl (fun hq => ?_) (fun hq => ?_) <;> first | subst hq | (first | (simp only [sD, sE, sB, sC, sN, sM, sT, sF] at hq; try (exfalso; omega)) | skip)) | fail) | (refine aJ ?_; first | refine bB ?_ | refine bJ ?_ | refine aR ?_ | fail) | (refine bA ?_; first | refine bR ?_ | refine bH ?_ | refine cC (by decide) ?_ | refine bG ?_ | fail) | refine bU (bQ (by kernel_rfl)) ?_ | fail)
    all_goals (refine wS 500 (s' := [(2, .ref 500 (D.length + 1))]) (m' := [(500, .arr 9 1 (D.length + 1) (strs D ++ [.lit (.string (s.extract a s.size))]))]) (bY (by repeat' first | exact trivial | refine ⟨rfl, ?_⟩) (by repeat' first | exact trivial | refine ⟨rfl, ?_⟩)) rfl (by repeat' first | exact trivial | exact fun _ => rfl | refine ⟨?_, ?_⟩) (by repeat' first | exact trivial | exact fun _ => rfl | refine ⟨?_, ?_⟩) ?_
               refine aX (by first | exact .inl rfl | exact .inr rfl) (aV rfl (aD rfl)) rfl ?_
               rw [List.length_append]; rfl)
end Go.Proofs.YtlbemgokilhdnaaGreatDoor.Ab
namespace Go.Proofs.YtlbemgokilhdnaaGreatDoor.Ab
set_option linter.unusedVariables false
set_option linter.unusedSimpArgs false
open Go.RowKit Go.Lib Go.Proofs.YtlbemgokilhdnaaGreatDoorW.PrintWords Go.Proofs.YtlbemgokilhdnaaGreatDoorW.PrintLast Go.Proofs.YtlbemgokilhdnaaGreatDoorW.PrintMore Go.Proofs.YtlbemgokilhdnaaGreatDoor.RP Go.Proofs.YtlbemgokilhdnaaGreatDoor.RW Go.Proofs.YtlbemgokilhdnaaGreatDoor.PAll
attribute [local irreducible] AWP AOps AExit AThen ABlock ANoGoto FeetOk
theorem oH {l : List ByteArray} {j : Nat} (h : j < l.length) (h1 : ∀ p ∈ l.take j, nameB p = true) (h2 : nameB l[j] = true) : ∀ p ∈ l.take (j + 1), nameB p = true := by
  intro p hp
  rw [List.take_succ_eq_append_getElem h, List.mem_append] at hp
  rcases hp with hp | hp
  · exact h1 p hp
  · rw [List.mem_singleton.1 hp]; exact h2
theorem aAm {s : ByteArray} {l : List ByteArray} {j : Nat} (hl : pcsB s = l) (h : j < l.length) (hn : nameB l[j] = false) : longP s = false := by
  rw [Bool.eq_false_iff]
  intro hc
  have := ((pG s).1 hc).2 l[j] (by rw [hl]; exact List.getElem_mem h)
  rw [hn] at this
  cases this
set_option maxHeartbeats 4000000 in
set_option maxRecDepth 10000 in
theorem aBd (s : ByteArray) (hs : s.size ≤ 100000) : ACalls Tryz.prog 67 [.imm (.lit (.string s))] [] (.imm (.lit (.bool (longP s)))) [] := by
  have hl := iM s
  have c1 := tO s hs
  have hps := jX s
  by_cases hz : s.size ≤ 128
  · have hlg := fun (j : Nat) (h : j < (pcsB s).length) (hn : nameB (pcsB s)[j] = false) => aAm (s := s) rfl h hn
    have hgood : (∀ p ∈ pcsB s, nameB p = true) → longP s = true := fun h => (pG s).2 ⟨hz, h⟩
    generalize pcsB s = l at *
    refine aM Tryz.func67 rfl rfl (nb rfl) rfl ?_
    repeat' (first | refine aE ?_ | (refine aH ?_; first | refine aC tabOk rfl rfl rfl (nb rfl) rfl ?_ | refine bD rfl rfl (nb rfl) ?_ | (refine aK rfl rfl rfl (nb rfl) rfl rfl rfl (fun hq => ?_) (fun hq => ?_) <;> (first | (simp only [sD, sE, sB, sC, sN, sM, sT, sF] at hq; try (exfalso; omega)) | skip))| refine aI rfl rfl (nb rfl) rfl rfl rfl rfl (c1) ?_ | refine bK rfl rfl rfl (nb rfl) rfl rfl (by omega) ?_ | refine cI rfl rfl rfl (nb rfl) rfl rfl rfl (by omega) (by omega) ?_ | refine bZ rfl rfl rfl (nb rfl) rfl rfl rfl (by omega) (by omega) ?_ | refine bV tabOk rfl rfl rfl (nb rfl) rfl rfl rfl rfl rfl rfl rfl rfl rfl ?_ | refine aU tabOk rfl rfl (nb rfl) rfl ?_ | refine cD tabOk rfl rfl rfl (nb rfl) rfl rfl rfl rfl rfl rfl ?_ | refine bT tabOk rfl rfl rfl (nb rfl) rfl rfl rfl rfl ?_ | refine bN tabOk rfl rfl rfl rfl rfl rfl rfl rfl rfl rfl rfl ?_ | refine bF tabOk rfl rfl rfl (nb rfl) rfl rfl rfl rfl (by first | assumption | omega) ?_ | refine bI tabOk rfl rfl rfl (nb rfl) rfl rfl rfl rfl (by first | rfl | omega) (by first | omega | simp) ?_ | refine aY tabOk rfl rfl rfl (nb rfl) rfl rfl rfl (by assumption) ?_ | refine aY tabOk rfl rfl rfl (nb rfl) rfl rfl rfl (cA _ _ (by first | assumption | omega)) ?_ | refine bK rfl rfl rfl (nb rfl) rfl rfl (by omega) ?_ | ((fail_if_success (refine bX (b := true) rfl rfl rfl ?_)); (fail_if_success (refine bX (b := false) rfl rfl rfl ?_)); refine cJ rfl rfl rfl (fun hq => ?_) (fun hq => ?_) <;> first | subst hq | (first | (simp only [sD, sE, sB, sC, sN, sM, sT, sF] at hq; try (exfalso; omega)) | skip)) | fail) | (refine aN ?_; first | refine aG ?_ | refine aQ ?_ | refine bE ?_ | refine aZ ?_ | refine aT ?_ | refine bS ?_ | refine aW ?_ | refine aA (b := true) rfl (fun _ => ?_) nTf | refine aA (b := false) rfl nFt (fun _ => ?_) | refine cO ?_ | refine cN ?_ | refine cP mixed (by kernel_rfl) ?_ | refine bC mixed (by kernel_rfl) ?_ | (refine aA rfl (fun hq => ?_) (fun hq => ?_) <;> first | subst hq | (first | (simp only [sD, sE, sB, sC, sN, sM, sT, sF] at hq; try (exfalso; omega)) | skip)) | fail) | (refine aJ ?_; first | refine bB ?_ | refine bJ ?_ | refine aR ?_ | fail) | (refine bA ?_; first | refine bR ?_ | refine bH ?_ | refine cC (by decide) ?_ | refine bG ?_ | fail) | refine bU (bQ (by kernel_rfl)) ?_ | fail)
    all_goals first | (exfalso; omega) | skip
    refine cB (ι := {j : Nat // j ≤ l.length ∧ ∀ p ∈ l.take j, nameB p = true}) (fun j => S.f ⟨[(4, .imm (.lit (.int .i64 (j.1 : Int)))), (3, .imm (.sl false l.length (strs l)))], []⟩) (fun j => l.length - j.1) ⟨0, Nat.zero_le _, by simp⟩ (bY (by repeat' first | exact trivial | refine ⟨rfl, ?_⟩) (by repeat' first | exact trivial | refine ⟨rfl, ?_⟩)) ?_
    rintro ⟨j, hj, hall⟩
    dsimp only
    by_cases hlt : j < l.length
    · have c2 := aAk l[j] (Nat.le_trans (hps _ (List.getElem_mem hlt)) (by omega))
      cases hn : nameB l[j] with
      | true =>
        rw [hn] at c2
        repeat' (first | refine aE ?_ | (refine aH ?_; first | refine aC tabOk rfl rfl rfl (nb rfl) rfl ?_ | refine bD rfl rfl (nb rfl) ?_ | (refine aK rfl rfl rfl (nb rfl) rfl rfl rfl (fun hq => ?_) (fun hq => ?_) <;> (first | (simp only [sD, sE, sB, sC, sN, sM, sT, sF] at hq; try (exfalso; omega)) | skip))| refine aY tabOk rfl rfl rfl (nb rfl) rfl rfl rfl (gJ l j hlt) ?_ | refine aI rfl rfl (nb rfl) rfl rfl rfl rfl (c2) ?_ | refine bK rfl rfl rfl (nb rfl) rfl rfl (by omega) ?_ | refine cI rfl rfl rfl (nb rfl) rfl rfl rfl (by omega) (by omega) ?_ | refine bZ rfl rfl rfl (nb rfl) rfl rfl rfl (by omega) (by omega) ?_ | refine bV tabOk rfl rfl rfl (nb rfl) rfl rfl rfl rfl rfl rfl rfl rfl rfl ?_ | refine aU tabOk rfl rfl (nb rfl) rfl ?_ | refine cD tabOk rfl rfl rfl (nb rfl) rfl rfl rfl rfl rfl rfl ?_ | refine bT tabOk rfl rfl rfl (nb rfl) rfl rfl rfl rfl ?_ | refine bN tabOk rfl rfl rfl rfl rfl rfl rfl rfl rfl rfl rfl ?_ | refine bF tabOk rfl rfl rfl (nb rfl) rfl rfl rfl rfl (by first | assumption | omega) ?_ | refine bI tabOk rfl rfl rfl (nb rfl) rfl rfl rfl rfl (by first | rfl | omega) (by first | omega | simp) ?_ | refine aY tabOk rfl rfl rfl (nb rfl) rfl rfl rfl (by assumption) ?_ | refine aY tabOk rfl rfl rfl (nb rfl) rfl rfl rfl (cA _ _ (by first | assumption | omega)) ?_ | refine bK rfl rfl rfl (nb rfl) rfl rfl (by omega) ?_ | ((fail_if_success (refine bX (b := true) rfl rfl rfl ?_)); (fail_if_success (refine bX (b := false) rfl rfl rfl ?_)); refine cJ rfl rfl rfl (fun hq => ?_) (fun hq => ?_) <;> first | subst hq | (first | (simp only [sD, sE, sB, sC, sN, sM, sT, sF] at hq; try (exfalso; omega)) | skip)) | fail) | (refine aN ?_; first | refine aG ?_ | refine aQ ?_ | refine bE ?_ | refine aZ ?_ | refine aT ?_ | refine bS ?_ | refine aW ?_ | refine aA (b := true) rfl (fun _ => ?_) nTf | refine aA (b := false) rfl nFt (fun _ => ?_) | refine cO ?_ | refine cN ?_ | refine cP mixed (by kernel_rfl) ?_ | refine bC mixed (by kernel_rfl) ?_ | (refine aA rfl (fun hq => ?_) (fun hq => ?_) <;> first | subst hq | (first | (simp only [sD, sE, sB, sC, sN, sM, sT, sF] at hq; try (exfalso; omega)) | skip)) | fail) | (refine aJ ?_; first | refine bB ?_ | refine bJ ?_ | refine aR ?_ | fail) | (refine bA ?_; first | refine bR ?_ | refine bH ?_ | refine cC (by decide) ?_ | refine bG ?_ | fail) | refine bU (bQ (by kernel_rfl)) ?_ | fail)
        exact ⟨⟨j + 1, hlt, oH hlt hall hn⟩, (by show l.length - (j + 1) < l.length - j; omega), (bY (by repeat' first | exact trivial | refine ⟨rfl, ?_⟩) (by repeat' first | exact trivial | refine ⟨rfl, ?_⟩))⟩
      | false =>
        rw [hn] at c2
        rw [hlg j hlt hn]
        repeat' (first | refine aE ?_ | (refine aH ?_; first | refine aC tabOk rfl rfl rfl (nb rfl) rfl ?_ | refine bD rfl rfl (nb rfl) ?_ | (refine aK rfl rfl rfl (nb rfl) rfl rfl rfl (fun hq => ?_) (fun hq => ?_) <;> (first | (simp only [sD, sE, sB, sC, sN, sM, sT, sF] at hq; try (exfalso; omega)) | skip))| refine aY tabOk rfl rfl rfl (nb rfl) rfl rfl rfl (gJ l j hlt) ?_ | refine aI rfl rfl (nb rfl) rfl rfl rfl rfl (c2) ?_ | refine bK rfl rfl rfl (nb rfl) rfl rfl (by omega) ?_ | refine cI rfl rfl rfl (nb rfl) rfl rfl rfl (by omega) (by omega) ?_ | refine bZ rfl rfl rfl (nb rfl) rfl rfl rfl (by omega) (by omega) ?_ | refine bV tabOk rfl rfl rfl (nb rfl) rfl rfl rfl rfl rfl rfl rfl rfl rfl ?_ | refine aU tabOk rfl rfl (nb rfl) rfl ?_ | refine cD tabOk rfl rfl rfl (nb rfl) rfl rfl rfl rfl rfl rfl ?_ | refine bT tabOk rfl rfl rfl (nb rfl) rfl rfl rfl rfl ?_ | refine bN tabOk rfl rfl rfl rfl rfl rfl rfl rfl rfl rfl rfl ?_ | refine bF tabOk rfl rfl rfl (nb rfl) rfl rfl rfl rfl (by first | assumption | omega) ?_ | refine bI tabOk rfl rfl rfl (nb rfl) rfl rfl rfl rfl (by first | rfl | omega) (by first | omega | simp) ?_ | refine aY tabOk rfl rfl rfl (nb rfl) rfl rfl rfl (by assumption) ?_ | refine aY tabOk rfl rfl rfl (nb rfl) rfl rfl rfl (cA _ _ (by first | assumption | omega)) ?_ | refine bK rfl rfl rfl (nb rfl) rfl rfl (by omega) ?_ | ((fail_if_success (refine bX (b := true) rfl rfl rfl ?_)); (fail_if_success (refine bX (b := false) rfl rfl rfl ?_)); refine cJ rfl rfl rfl (fun hq => ?_) (fun hq => ?_) <;> first | subst hq | (first | (simp only [sD, sE, sB, sC, sN, sM, sT, sF] at hq; try (exfalso; omega)) | skip)) | fail) | (refine aN ?_; first | refine aG ?_ | refine aQ ?_ | refine bE ?_ | refine aZ ?_ | refine aT ?_ | refine bS ?_ | refine aW ?_ | refine aA (b := true) rfl (fun _ => ?_) nTf | refine aA (b := false) rfl nFt (fun _ => ?_) | refine cO ?_ | refine cN ?_ | refine cP mixed (by kernel_rfl) ?_ | refine bC mixed (by kernel_rfl) ?_ | (refine aA rfl (fun hq => ?_) (fun hq => ?_) <;> first | subst hq | (first | (simp only [sD, sE, sB, sC, sN, sM, sT, sF] at hq; try (exfalso; omega)) | skip)) | fail) | (refine aJ ?_; first | refine bB ?_ | refine bJ ?_ | refine aR ?_ | fail) | (refine bA ?_; first | refine bR ?_ | refine bH ?_ | refine cC (by decide) ?_ | refine bG ?_ | fail) | refine bU (bQ (by kernel_rfl)) ?_ | fail)
        exact cF (by first | exact .inl rfl | exact .inr rfl) (aV rfl (aD rfl)) rfl
    · rw [hgood (by rw [List.take_of_length_le (by omega)] at hall; exact hall)]
      repeat' (first | refine aE ?_ | (refine aH ?_; first | refine aC tabOk rfl rfl rfl (nb rfl) rfl ?_ | refine bD rfl rfl (nb rfl) ?_ | (refine aK rfl rfl rfl (nb rfl) rfl rfl rfl (fun hq => ?_) (fun hq => ?_) <;> (first | (simp only [sD, sE, sB, sC, sN, sM, sT, sF] at hq; try (exfalso; omega)) | skip)) | refine bK rfl rfl rfl (nb rfl) rfl rfl (by omega) ?_ | refine cI rfl rfl rfl (nb rfl) rfl rfl rfl (by omega) (by omega) ?_ | refine bZ rfl rfl rfl (nb rfl) rfl rfl rfl (by omega) (by omega) ?_ | refine bV tabOk rfl rfl rfl (nb rfl) rfl rfl rfl rfl rfl rfl rfl rfl rfl ?_ | refine aU tabOk rfl rfl (nb rfl) rfl ?_ | refine cD tabOk rfl rfl rfl (nb rfl) rfl rfl rfl rfl rfl rfl ?_ | refine bT tabOk rfl rfl rfl (nb rfl) rfl rfl rfl rfl ?_ | refine bN tabOk rfl rfl rfl rfl rfl rfl rfl rfl rfl rfl rfl ?_ | refine bF tabOk rfl rfl rfl (nb rfl) rfl rfl rfl rfl (by first | assumption | omega) ?_ | refine bI tabOk rfl rfl rfl (nb rfl) rfl rfl rfl rfl (by first | rfl | omega) (by first | omega | simp) ?_ | refine aY tabOk rfl rfl rfl (nb rfl) rfl rfl rfl (by assumption) ?_ | refine aY tabOk rfl rfl rfl (nb rfl) rfl rfl rfl (cA _ _ (by first | assumption | omega)) ?_ | refine bK rfl rfl rfl (nb rfl) rfl rfl (by omega) ?_ | ((fail_if_success (refine bX (b := true) rfl rfl rfl ?_)); (fail_if_success (refine bX (b := false) rfl rfl rfl ?_)); refine cJ rfl rfl rfl (fun hq => ?_) (fun hq => ?_) <;> first | subst hq | (first | (simp only [sD, sE, sB, sC, sN, sM, sT, sF] at hq; try (exfalso; omega)) | skip)) | fail) | (refine aN ?_; first | refine aG ?_ | refine aQ ?_ | refine bE ?_ | refine aZ ?_ | refine aT ?_ | refine bS ?_ | refine aW ?_ | refine aA (b := true) rfl (fun _ => ?_) nTf | refine aA (b := false) rfl nFt (fun _ => ?_) | refine cO ?_ | refine cN ?_ | refine cP mixed (by kernel_rfl) ?_ | refine bC mixed (by kernel_rfl) ?_ | (refine aA rfl (fun hq => ?_) (fun hq => ?_) <;> first | subst hq | (first | (simp only [sD, sE, sB, sC, sN, sM, sT, sF] at hq; try (exfalso; omega)) | skip)) | fail) | (refine aJ ?_; first | refine bB ?_ | refine bJ ?_ | refine aR ?_ | fail) | (refine bA ?_; first | refine bR ?_ | refine bH ?_ | refine cC (by decide) ?_ | refine bG ?_ | fail) | refine bU (bQ (by kernel_rfl)) ?_ | fail)
      exact cF (by first | exact .inl rfl | exact .inr rfl) (aV rfl (aD rfl)) rfl
  · have e : longP s = false := by
      unfold longP; rw [decide_eq_false hz]; rfl
    rw [e]
    refine aM Tryz.func67 rfl rfl (nb rfl) rfl ?_
    repeat' (first | refine aE ?_ | (refine aH ?_; first | refine aC tabOk rfl rfl rfl (nb rfl) rfl ?_ | refine bD rfl rfl (nb rfl) ?_ | (refine aK rfl rfl rfl (nb rfl) rfl rfl rfl (fun hq => ?_) (fun hq => ?_) <;> (first | (simp only [sD, sE, sB, sC, sN, sM, sT, sF] at hq; try (exfalso; omega)) | skip))| refine aI rfl rfl (nb rfl) rfl rfl rfl rfl (c1) ?_ | refine bK rfl rfl rfl (nb rfl) rfl rfl (by omega) ?_ | refine cI rfl rfl rfl (nb rfl) rfl rfl rfl (by omega) (by omega) ?_ | refine bZ rfl rfl rfl (nb rfl) rfl rfl rfl (by omega) (by omega) ?_ | refine bV tabOk rfl rfl rfl (nb rfl) rfl rfl rfl rfl rfl rfl rfl rfl rfl ?_ | refine aU tabOk rfl rfl (nb rfl) rfl ?_ | refine cD tabOk rfl rfl rfl (nb rfl) rfl rfl rfl rfl rfl rfl ?_ | refine bT tabOk rfl rfl rfl (nb rfl) rfl rfl rfl rfl ?_ | refine bN tabOk rfl rfl rfl rfl rfl rfl rfl rfl rfl rfl rfl ?_ | refine bF tabOk rfl rfl rfl (nb rfl) rfl rfl rfl rfl (by first | assumption | omega) ?_ | refine bI tabOk rfl rfl rfl (nb rfl) rfl rfl rfl rfl (by first | rfl | omega) (by first | omega | simp) ?_ | refine aY tabOk rfl rfl rfl (nb rfl) rfl rfl rfl (by assumption) ?_ | refine aY tabOk rfl rfl rfl (nb rfl) rfl rfl rfl (cA _ _ (by first | assumption | omega)) ?_ | refine bK rfl rfl rfl (nb rfl) rfl rfl (by omega) ?_ | ((fail_if_success (refine bX (b := true) rfl rfl rfl ?_)); (fail_if_success (refine bX (b := false) rfl rfl rfl ?_)); refine cJ rfl rfl rfl (fun hq => ?_) (fun hq => ?_) <;> first | subst hq | (first | (simp only [sD, sE, sB, sC, sN, sM, sT, sF] at hq; try (exfalso; omega)) | skip)) | fail) | (refine aN ?_; first | refine aG ?_ | refine aQ ?_ | refine bE ?_ | refine aZ ?_ | refine aT ?_ | refine bS ?_ | refine aW ?_ | refine aA (b := true) rfl (fun _ => ?_) nTf | refine aA (b := false) rfl nFt (fun _ => ?_) | refine cO ?_ | refine cN ?_ | refine cP mixed (by kernel_rfl) ?_ | refine bC mixed (by kernel_rfl) ?_ | (refine aA rfl (fun hq => ?_) (fun hq => ?_) <;> first | subst hq | (first | (simp only [sD, sE, sB, sC, sN, sM, sT, sF] at hq; try (exfalso; omega)) | skip)) | fail) | (refine aJ ?_; first | refine bB ?_ | refine bJ ?_ | refine aR ?_ | fail) | (refine bA ?_; first | refine bR ?_ | refine bH ?_ | refine cC (by decide) ?_ | refine bG ?_ | fail) | refine bU (bQ (by kernel_rfl)) ?_ | fail)
    all_goals first
      | exact cF (by first | exact .inl rfl | exact .inr rfl) (aV rfl (aD rfl)) rfl
      | (exfalso; omega)
set_option maxHeartbeats 4000000 in
set_option maxRecDepth 10000 in
theorem aAn (s : ByteArray) (hs : s.size ≤ 100000) : ACalls Tryz.prog 39 [.imm (.lit (.string s))] [] (.imm (.sl false (splitP s).length (strs (splitP s)))) [] := by
  have c1 := aBd s hs
  have c2 := tO s hs
  unfold splitP
  cases h : longP s with
  | true =>
    rw [h] at c1
    rw [if_pos rfl]
    refine aM Tryz.func39 rfl rfl (nb rfl) rfl ?_
    repeat' (first | refine aE ?_ | (refine aH ?_; first | refine aC tabOk rfl rfl rfl (nb rfl) rfl ?_ | refine bD rfl rfl (nb rfl) ?_ | (refine aK rfl rfl rfl (nb rfl) rfl rfl rfl (fun hq => ?_) (fun hq => ?_) <;> (first | (simp only [sD, sE, sB, sC, sN, sM, sT, sF] at hq; try (exfalso; omega)) | skip))| refine aI rfl rfl (nb rfl) rfl rfl rfl rfl (c1) ?_ | refine aI rfl rfl (nb rfl) rfl rfl rfl rfl (c2) ?_ | refine bK rfl rfl rfl (nb rfl) rfl rfl (by omega) ?_ | refine cI rfl rfl rfl (nb rfl) rfl rfl rfl (by omega) (by omega) ?_ | refine bZ rfl rfl rfl (nb rfl) rfl rfl rfl (by omega) (by omega) ?_ | refine bV tabOk rfl rfl rfl (nb rfl) rfl rfl rfl rfl rfl rfl rfl rfl rfl ?_ | refine aU tabOk rfl rfl (nb rfl) rfl ?_ | refine cD tabOk rfl rfl rfl (nb rfl) rfl rfl rfl rfl rfl rfl ?_ | refine bT tabOk rfl rfl rfl (nb rfl) rfl rfl rfl rfl ?_ | refine bN tabOk rfl rfl rfl rfl rfl rfl rfl rfl rfl rfl rfl ?_ | refine bF tabOk rfl rfl rfl (nb rfl) rfl rfl rfl rfl (by first | assumption | omega) ?_ | refine bI tabOk rfl rfl rfl (nb rfl) rfl rfl rfl rfl (by first | rfl | omega) (by first | omega | simp) ?_ | refine aY tabOk rfl rfl rfl (nb rfl) rfl rfl rfl (by assumption) ?_ | refine aY tabOk rfl rfl rfl (nb rfl) rfl rfl rfl (cA _ _ (by first | assumption | omega)) ?_ | refine bK rfl rfl rfl (nb rfl) rfl rfl (by omega) ?_ | ((fail_if_success (refine bX (b := true) rfl rfl rfl ?_)); (fail_if_success (refine bX (b := false) rfl rfl rfl ?_)); refine cJ rfl rfl rfl (fun hq => ?_) (fun hq => ?_) <;> first | subst hq | (first | (simp only [sD, sE, sB, sC, sN, sM, sT, sF] at hq; try (exfalso; omega)) | skip)) | fail) | (refine aN ?_; first | refine aG ?_ | refine aQ ?_ | refine bE ?_ | refine aZ ?_ | refine aT ?_ | refine bS ?_ | refine aW ?_ | refine aA (b := true) rfl (fun _ => ?_) nTf | refine aA (b := false) rfl nFt (fun _ => ?_) | refine cO ?_ | refine cN ?_ | refine cP mixed (by kernel_rfl) ?_ | refine bC mixed (by kernel_rfl) ?_ | (refine aA rfl (fun hq => ?_) (fun hq => ?_) <;> first | subst hq | (first | (simp only [sD, sE, sB, sC, sN, sM, sT, sF] at hq; try (exfalso; omega)) | skip)) | fail) | (refine aJ ?_; first | refine bB ?_ | refine bJ ?_ | refine aR ?_ | fail) | (refine bA ?_; first | refine bR ?_ | refine bH ?_ | refine cC (by decide) ?_ | refine bG ?_ | fail) | refine bU (bQ (by kernel_rfl)) ?_ | fail)
    all_goals (refine aX (by first | exact .inl rfl | exact .inr rfl) (aV rfl (aD rfl)) rfl ?_; rfl)
  | false =>
    rw [h] at c1
    rw [if_neg (by simp)]
    refine aM Tryz.func39 rfl rfl (nb rfl) rfl ?_
    repeat' (first | refine aE ?_ | (refine aH ?_; first | refine aC tabOk rfl rfl rfl (nb rfl) rfl ?_ | refine bD rfl rfl (nb rfl) ?_ | (refine aK rfl rfl rfl (nb rfl) rfl rfl rfl (fun hq => ?_) (fun hq => ?_) <;> (first | (simp only [sD, sE, sB, sC, sN, sM, sT, sF] at hq; try (exfalso; omega)) | skip))| refine aI rfl rfl (nb rfl) rfl rfl rfl rfl (c1) ?_ | refine aI rfl rfl (nb rfl) rfl rfl rfl rfl (c2) ?_ | refine bK rfl rfl rfl (nb rfl) rfl rfl (by omega) ?_ | refine cI rfl rfl rfl (nb rfl) rfl rfl rfl (by omega) (by omega) ?_ | refine bZ rfl rfl rfl (nb rfl) rfl rfl rfl (by omega) (by omega) ?_ | refine bV tabOk rfl rfl rfl (nb rfl) rfl rfl rfl rfl rfl rfl rfl rfl rfl ?_ | refine aU tabOk rfl rfl (nb rfl) rfl ?_ | refine cD tabOk rfl rfl rfl (nb rfl) rfl rfl rfl rfl rfl rfl ?_ | refine bT tabOk rfl rfl rfl (nb rfl) rfl rfl rfl rfl ?_ | refine bN tabOk rfl rfl rfl rfl rfl rfl rfl rfl rfl rfl rfl ?_ | refine bF tabOk rfl rfl rfl (nb rfl) rfl rfl rfl rfl (by first | assumption | omega) ?_ | refine bI tabOk rfl rfl rfl (nb rfl) rfl rfl rfl rfl (by first | rfl | omega) (by first | omega | simp) ?_ | refine aY tabOk rfl rfl rfl (nb rfl) rfl rfl rfl (by assumption) ?_ | refine aY tabOk rfl rfl rfl (nb rfl) rfl rfl rfl (cA _ _ (by first | assumption | omega)) ?_ | refine bK rfl rfl rfl (nb rfl) rfl rfl (by omega) ?_ | ((fail_if_success (refine bX (b := true) rfl rfl rfl ?_)); (fail_if_success (refine bX (b := false) rfl rfl rfl ?_)); refine cJ rfl rfl rfl (fun hq => ?_) (fun hq => ?_) <;> first | subst hq | (first | (simp only [sD, sE, sB, sC, sN, sM, sT, sF] at hq; try (exfalso; omega)) | skip)) | fail) | (refine aN ?_; first | refine aG ?_ | refine aQ ?_ | refine bE ?_ | refine aZ ?_ | refine aT ?_ | refine bS ?_ | refine aW ?_ | refine aA (b := true) rfl (fun _ => ?_) nTf | refine aA (b := false) rfl nFt (fun _ => ?_) | refine cO ?_ | refine cN ?_ | refine cP mixed (by kernel_rfl) ?_ | refine bC mixed (by kernel_rfl) ?_ | (refine aA rfl (fun hq => ?_) (fun hq => ?_) <;> first | subst hq | (first | (simp only [sD, sE, sB, sC, sN, sM, sT, sF] at hq; try (exfalso; omega)) | skip)) | fail) | (refine aJ ?_; first | refine bB ?_ | refine bJ ?_ | refine aR ?_ | fail) | (refine bA ?_; first | refine bR ?_ | refine bH ?_ | refine cC (by decide) ?_ | refine bG ?_ | fail) | refine bU (bQ (by kernel_rfl)) ?_ | fail)
    all_goals (refine aX (by first | exact .inl rfl | exact .inr rfl) (aV rfl (rP (aD rfl))) rfl ?_; rfl)
end Go.Proofs.YtlbemgokilhdnaaGreatDoor.Ab
namespace Go.Proofs.YtlbemgokilhdnaaGreatDoor.Ab
set_option linter.unusedVariables false
set_option linter.unusedSimpArgs false
open Go.RowKit Go.Proofs.YtlbemgokilhdnaaGreatDoor.RP
attribute [local irreducible] AWP AOps AExit AThen ABlock ANoGoto FeetOk
theorem aAo (s : ByteArray) (h : longP s = false) : splitP s = [] := by unfold splitP; rw [if_neg (by rw [h]; simp)]
theorem aBx (space s : ByteArray) : labS space false s = ((⟨#[109]⟩ : ByteArray) ++ ⟨#[58]⟩) ++ s := by
  rw [aAi]
  rfl
set_option maxHeartbeats 16000000 in
set_option maxRecDepth 10000 in
theorem aBe (t : Tree) (space long : ByteArray) (hwn : t = .nil ∨ t.whole = true) (hs : t.size ≤ 65536) (hp : space.size ≤ 100000) (hl : long.size ≤ 100000) : ACalls Tryz.prog 11 [.imm t.iv, .imm (.lit (.string space)), .imm (.lit (.string long))] [] (.imm (.tup [(sAtP t space long).1.iv, .lit (.int .i64 (sAtP t space long).2)])) [] := by
  have c1 := eM t hwn hs
  obtain ⟨Q, hQ⟩ : ∃ Q, sAtP t space long = Q := ⟨_, rfl⟩
  rw [hQ]
  unfold sAtP at hQ
  by_cases hc : checkP sformP t = 0
  · rw [if_neg (by simpa using hc)] at hQ
    rw [hc] at c1
    obtain ⟨hw, hz, _⟩ := cK hc
    have c2 := qI t hw (by omega)
    cases hsig : isSigP t with
    | false =>
      rw [hsig] at c2 hQ
      rw [Bool.false_and, if_pos rfl] at hQ
      subst hQ
      refine aM Tryz.func11 rfl rfl (nb rfl) rfl ?_
      repeat' (first | refine aE ?_ | (refine aH ?_;  first | refine aC tabOk rfl rfl rfl (nb rfl) rfl ?_ | refine bD rfl rfl (nb rfl) ?_ | (refine aK rfl rfl rfl (nb rfl) rfl rfl rfl (fun hq => ?_) (fun hq => ?_) <;> (first | (simp only [sD, sE, sB, sC, sN, sM, sT, sF] at hq; try (exfalso; omega)) | skip)) | refine aI rfl rfl (nb rfl) rfl rfl rfl rfl (c1) ?_ | refine aI rfl rfl (nb rfl) rfl rfl rfl rfl (c2) ?_) | (refine aN ?_;  first | refine aG ?_ | refine aQ ?_ | refine aT ?_ | refine aW ?_ | refine aA (b := true) rfl (fun _ => ?_) nTf | refine aA (b := false) rfl nFt (fun _ => ?_)) | (refine aJ ?_;  first | refine bB ?_ | refine aR ?_))
      all_goals first
        | exact absurd rfl (by assumption)
        | (refine aX (by first | exact .inl rfl | exact .inr rfl) (bO rfl (aD rfl) (aD rfl)) rfl ?_; rfl)
    | true =>
      rw [hsig] at c2 hQ
      rw [Bool.true_and] at hQ
      cases hsp : spOk space with
      | false =>
        rw [hsp] at hQ
        rw [if_pos rfl] at hQ
        subst hQ
        unfold spOk at hsp
        refine aM Tryz.func11 rfl rfl (nb rfl) rfl ?_
        repeat' (first | refine aE ?_ | (refine aH ?_;  first | refine aC tabOk rfl rfl rfl (nb rfl) rfl ?_ | refine bD rfl rfl (nb rfl) ?_ | (refine aK rfl rfl rfl (nb rfl) rfl rfl rfl (fun hq => ?_) (fun hq => ?_) <;> (first | (simp only [sD, sE, sB, sC, sN, sM, sT, sF] at hq; try (exfalso; omega)) | skip)) | refine aI rfl rfl (nb rfl) rfl rfl rfl rfl (c1) ?_ | refine aI rfl rfl (nb rfl) rfl rfl rfl rfl (c2) ?_) | (refine aN ?_;  first | refine aG ?_ | refine aQ ?_ | refine aT ?_ | refine aW ?_ | refine aA (b := true) rfl (fun _ => ?_) nTf | refine aA (b := false) rfl nFt (fun _ => ?_)) | (refine aJ ?_;  first | refine bB ?_ | refine aR ?_))
        all_goals first
          | exact absurd rfl (by assumption)
          | (refine aX (by first | exact .inl rfl | exact .inr rfl) (bO rfl (aD rfl) (aD rfl)) rfl ?_; rfl)
          | (exfalso; simp_all [eqB]; done)
      | true =>
        rw [hsp] at hQ
        rw [if_neg (by simp)] at hQ
        unfold spOk at hsp
        have c4 := aAn long hl
        obtain ⟨hsl, hsz⟩ := nW long
        cases hlg : longP long with
        | false =>
          rw [hlg] at hQ
          rw [if_pos rfl] at hQ
          rw [aAo long hlg] at c4
          subst hQ
          refine aM Tryz.func11 rfl rfl (nb rfl) rfl ?_
          repeat' (first | refine aE ?_ | (refine aH ?_;  first | refine aC tabOk rfl rfl rfl (nb rfl) rfl ?_ | refine bD rfl rfl (nb rfl) ?_ | (refine aK rfl rfl rfl (nb rfl) rfl rfl rfl (fun hq => ?_) (fun hq => ?_) <;> (first | (simp only [sD, sE, sB, sC, sN, sM, sT, sF] at hq; try (exfalso; omega)) | skip)) | refine aI rfl rfl (nb rfl) rfl rfl rfl rfl (c1) ?_ | refine aI rfl rfl (nb rfl) rfl rfl rfl rfl (c2) ?_ | refine aI rfl rfl (nb rfl) rfl rfl rfl rfl (c4) ?_ | refine aU tabOk rfl rfl (nb rfl) rfl ?_) | (refine aN ?_;  first | refine aG ?_ | refine aQ ?_ | refine aZ ?_ | refine aT ?_ | refine aW ?_ | refine aA (b := true) rfl (fun _ => ?_) nTf | refine aA (b := false) rfl nFt (fun _ => ?_)) | (refine aJ ?_;  first | refine bB ?_ | refine aR ?_))
          all_goals first
            | exact absurd rfl (by assumption)
            | (exfalso; simp_all [eqB]; done)
            | (refine aX (by first | exact .inl rfl | exact .inr rfl) (bO rfl (aD rfl) (aD rfl)) rfl ?_; rfl)
        | true =>
          rw [hlg] at hQ
          rw [if_neg (by simp)] at hQ
          have hne := aAg long hlg
          generalize splitP long = l at *
          have hpos : 0 < l.length := List.length_pos_iff.2 hne
          refine aM Tryz.func11 rfl rfl (nb rfl) rfl ?_
          repeat' (first | refine aE ?_ | (refine aH ?_;  first | refine aC tabOk rfl rfl rfl (nb rfl) rfl ?_ | refine bD rfl rfl (nb rfl) ?_ | (refine aK rfl rfl rfl (nb rfl) rfl rfl rfl (fun hq => ?_) (fun hq => ?_) <;> (first | (simp only [sD, sE, sB, sC, sN, sM, sT, sF] at hq; try (exfalso; omega)) | skip)) | refine aI rfl rfl (nb rfl) rfl rfl rfl rfl (c1) ?_ | refine aI rfl rfl (nb rfl) rfl rfl rfl rfl (c2) ?_ | refine aI rfl rfl (nb rfl) rfl rfl rfl rfl (c4) ?_ | refine aU tabOk rfl rfl (nb rfl) rfl ?_) | (refine aN ?_;  first | refine aG ?_ | refine aQ ?_ | refine aZ ?_ | refine aT ?_ | refine aW ?_ | refine aA (b := true) rfl (fun _ => ?_) nTf | refine aA (b := false) rfl nFt (fun _ => ?_)) | (refine aJ ?_;  first | refine bB ?_ | refine aR ?_))
          all_goals first
            | exact absurd rfl (by assumption)
            | (exfalso; simp_all [eqB]; done)
            | (exfalso; omega)
            | skip
          all_goals (
            clear hsp
            refine cB (ι := {p : Nat × Tree // p.1 ≤ l.length ∧ isSigP p.2 = true ∧ p.2.whole = true ∧ p.2.size ≤ 65536 ∧ atS space (l.drop p.1) p.2 = Q}) (fun p => S.f ⟨[(10, .imm (.lit (.int .i64 (p.1.1 : Int)))), (9, .imm (.sl false l.length (strs l))), (0, .imm p.1.2.iv), (1, .imm (.lit (.string space)))], []⟩) (fun p => l.length - p.1.1) ⟨(0, t), Nat.zero_le _, hsig, hw, hs, hQ⟩ (bY (by repeat' first | exact trivial | refine ⟨rfl, ?_⟩) (by repeat' first | exact trivial | refine ⟨rfl, ?_⟩)) ?_
            rintro ⟨⟨j, u⟩, hj, us, uw, uz, hu⟩
            dsimp only at hj us uw uz hu ⊢
            clear c1 c2 c4 hw hz hsig hs hc hQ hlg hne hpos hwn
            by_cases hlt : j < l.length
            · rw [List.drop_eq_getElem_cons hlt, atS, nX l j hlt] at hu
              have hget := gJ l j hlt
              have hsj := hsz _ (List.getElem_mem hlt)
              have s1 : (⟨#[109]⟩ : ByteArray).size = 1 := rfl
              have s2 : (⟨#[58]⟩ : ByteArray).size = 1 := rfl
              have hf := jV us uw (labS space (decide (j + 1 = l.length)) l[j])
              have hkf := iF us
              generalize l[j] = s at *
              obtain ⟨k, n, a, b, kids, rfl⟩ := cM uw
              have hkl : kids.length < 1000000000 := by have := cE kids uw; simp only [Tree.size] at uz; omega
              change ∀ t ∈ kids, _ at hkf
              have ekk : (Tree.node k n a b kids).kids = kids := rfl
              rw [ekk] at hu hf
              have cf := fun label => zT k n a b kids label uw hkl hkf
              clear hkf
              by_cases hlast : j + 1 = l.length
              · rw [decide_eq_true hlast] at hu hf
                rw [aAh] at hu hf
                replace cf := cf ((space ++ ⟨#[58]⟩) ++ s)
                rcases eD ((space ++ ⟨#[58]⟩) ++ s) kids 0 with ⟨h1, h2⟩ | ⟨i, h1, h2, h3, h4⟩
                · rw [h2] at hu cf
                  rw [if_neg (by simp)] at hu
                  subst hu
                  clear hf h1 h2
                  repeat' (first | refine aE ?_ | (refine aH ?_;  first | refine aC tabOk rfl rfl rfl (nb rfl) rfl ?_ | (refine aK rfl rfl rfl (nb rfl) rfl rfl rfl (fun hq => ?_) (fun hq => ?_) <;> (first | (simp only [sD, sE, sB, sC, sN, sM, sT, sF] at hq; try (exfalso; omega)) | skip)) | refine aY tabOk rfl rfl rfl (nb rfl) rfl rfl rfl hget ?_ | refine dL rfl rfl rfl (nb rfl) rfl rfl (by first | omega | (simp only [cT]; omega)) ?_ | refine aI rfl rfl (nb rfl) rfl rfl rfl rfl (cf) ?_ | refine bZ rfl rfl rfl (nb rfl) rfl rfl rfl (by omega) (by omega) ?_ | refine aU tabOk rfl rfl (nb rfl) rfl ?_ | refine bF tabOk rfl rfl rfl (nb rfl) rfl rfl rfl rfl (by first | assumption | omega) ?_) | (refine aN ?_;  first | refine aG ?_ | refine aQ ?_ | refine bE ?_ | refine aZ ?_ | refine aT ?_ | refine aW ?_ | refine aA (b := true) rfl (fun _ => ?_) nTf) | (refine aJ ?_;  first | refine bB ?_ | refine aR ?_) | (refine bA ?_;  first | refine bG ?_))
                  all_goals first
                    | exact absurd rfl (by assumption)
                    | (exfalso; omega)
                    | (refine aX (by first | exact .inl rfl | exact .inr rfl) (bO rfl (aD rfl) (aD rfl)) rfl ?_; rfl)
                · rw [h3] at hu hf cf
                  rw [if_pos rfl] at hu
                  obtain ⟨g1, g2, g3⟩ := hf rfl
                  dsimp only at hu g1 g2 g3 cf
                  clear h2 h3 h4 hf
                  generalize kid0 kids[i] = c at *
                  obtain ⟨pc, hpc⟩ := dI (cS g2)
                  rw [hpc] at cf
                  repeat' (first | refine aE ?_ | (refine aH ?_;  first | refine aC tabOk rfl rfl rfl (nb rfl) rfl ?_ | (refine aK rfl rfl rfl (nb rfl) rfl rfl rfl (fun hq => ?_) (fun hq => ?_) <;> (first | (simp only [sD, sE, sB, sC, sN, sM, sT, sF] at hq; try (exfalso; omega)) | skip)) | refine aY tabOk rfl rfl rfl (nb rfl) rfl rfl rfl hget ?_ | refine dL rfl rfl rfl (nb rfl) rfl rfl (by first | omega | (simp only [cT]; omega)) ?_ | refine aI rfl rfl (nb rfl) rfl rfl rfl rfl (cf) ?_ | refine bK rfl rfl rfl (nb rfl) rfl rfl (by omega) ?_ | refine bZ rfl rfl rfl (nb rfl) rfl rfl rfl (by omega) (by omega) ?_ | refine aU tabOk rfl rfl (nb rfl) rfl ?_ | refine bF tabOk rfl rfl rfl (nb rfl) rfl rfl rfl rfl (by first | assumption | omega) ?_) | (refine aN ?_;  first | refine aG ?_ | refine aQ ?_ | refine bE ?_ | refine aZ ?_ | refine aW ?_ | refine aA (b := true) rfl (fun _ => ?_) nTf | refine aA (b := false) rfl nFt (fun _ => ?_)) | (refine aJ ?_;  first | refine bB ?_) | (refine bA ?_;  first | refine bR ?_))
                  all_goals first
                    | exact absurd rfl (by assumption)
                    | (exfalso; omega)
                    | (refine ⟨⟨(j + 1, c), hlt, g1, g2, Nat.le_trans (Nat.le_of_lt g3) uz, hu⟩, (by show l.length - (j + 1) < l.length - j; omega), ?_⟩; dsimp only; rw [hpc]; exact (bY (by repeat' first | exact trivial | refine ⟨rfl, ?_⟩) (by repeat' first | exact trivial | refine ⟨rfl, ?_⟩)))
              · rw [decide_eq_false hlast] at hu hf
                rw [aBx] at hu hf
                replace cf := cf (((⟨#[109]⟩ : ByteArray) ++ ⟨#[58]⟩) ++ s)
                rcases eD (((⟨#[109]⟩ : ByteArray) ++ ⟨#[58]⟩) ++ s) kids 0 with ⟨h1, h2⟩ | ⟨i, h1, h2, h3, h4⟩
                · rw [h2] at hu cf
                  rw [if_neg (by simp)] at hu
                  subst hu
                  clear hf h1 h2
                  repeat' (first | refine aE ?_ | (refine aH ?_;  first | refine aC tabOk rfl rfl rfl (nb rfl) rfl ?_ | (refine aK rfl rfl rfl (nb rfl) rfl rfl rfl (fun hq => ?_) (fun hq => ?_) <;> (first | (simp only [sD, sE, sB, sC, sN, sM, sT, sF] at hq; try (exfalso; omega)) | skip)) | refine aY tabOk rfl rfl rfl (nb rfl) rfl rfl rfl hget ?_ | refine dL rfl rfl rfl (nb rfl) rfl rfl (by first | omega | (simp only [cT]; omega)) ?_ | refine aI rfl rfl (nb rfl) rfl rfl rfl rfl (cf) ?_ | refine bZ rfl rfl rfl (nb rfl) rfl rfl rfl (by omega) (by omega) ?_ | refine aU tabOk rfl rfl (nb rfl) rfl ?_ | refine bF tabOk rfl rfl rfl (nb rfl) rfl rfl rfl rfl (by first | assumption | omega) ?_) | (refine aN ?_;  first | refine aG ?_ | refine aQ ?_ | refine aZ ?_ | refine aT ?_ | refine aW ?_ | refine aA (b := true) rfl (fun _ => ?_) nTf | refine aA (b := false) rfl nFt (fun _ => ?_)) | (refine aJ ?_;  first | refine bB ?_ | refine aR ?_) | (refine bA ?_;  first | refine bG ?_))
                  all_goals first
                    | exact absurd rfl (by assumption)
                    | (exfalso; omega)
                    | (refine aX (by first | exact .inl rfl | exact .inr rfl) (bO rfl (aD rfl) (aD rfl)) rfl ?_; rfl)
                · rw [h3] at hu hf cf
                  rw [if_pos rfl] at hu
                  obtain ⟨g1, g2, g3⟩ := hf rfl
                  dsimp only at hu g1 g2 g3 cf
                  clear h2 h3 h4 hf
                  generalize kid0 kids[i] = c at *
                  obtain ⟨pc, hpc⟩ := dI (cS g2)
                  rw [hpc] at cf
                  repeat' (first | refine aE ?_ | (refine aH ?_;  first | refine aC tabOk rfl rfl rfl (nb rfl) rfl ?_ | (refine aK rfl rfl rfl (nb rfl) rfl rfl rfl (fun hq => ?_) (fun hq => ?_) <;> (first | (simp only [sD, sE, sB, sC, sN, sM, sT, sF] at hq; try (exfalso; omega)) | skip)) | refine aY tabOk rfl rfl rfl (nb rfl) rfl rfl rfl hget ?_ | refine dL rfl rfl rfl (nb rfl) rfl rfl (by first | omega | (simp only [cT]; omega)) ?_ | refine aI rfl rfl (nb rfl) rfl rfl rfl rfl (cf) ?_ | refine bK rfl rfl rfl (nb rfl) rfl rfl (by omega) ?_ | refine bZ rfl rfl rfl (nb rfl) rfl rfl rfl (by omega) (by omega) ?_ | refine aU tabOk rfl rfl (nb rfl) rfl ?_ | refine bF tabOk rfl rfl rfl (nb rfl) rfl rfl rfl rfl (by first | assumption | omega) ?_) | (refine aN ?_;  first | refine aG ?_ | refine aQ ?_ | refine bE ?_ | refine aZ ?_ | refine aW ?_ | refine aA (b := true) rfl (fun _ => ?_) nTf | refine aA (b := false) rfl nFt (fun _ => ?_)) | (refine aJ ?_;  first | refine bB ?_) | (refine bA ?_;  first | refine bR ?_))
                  all_goals first
                    | exact absurd rfl (by assumption)
                    | (exfalso; omega)
                    | (refine ⟨⟨(j + 1, c), hlt, g1, g2, Nat.le_trans (Nat.le_of_lt g3) uz, hu⟩, (by show l.length - (j + 1) < l.length - j; omega), ?_⟩; dsimp only; rw [hpc]; exact (bY (by repeat' first | exact trivial | refine ⟨rfl, ?_⟩) (by repeat' first | exact trivial | refine ⟨rfl, ?_⟩)))
            · have ej : j = l.length := by omega
              subst ej
              rw [List.drop_length, atS] at hu
              subst hu
              obtain ⟨pu, hpu⟩ := dI (cS uw)
              dsimp only
              rw [hpu]
              repeat' (first | refine aE ?_ | (refine aH ?_;  first | refine aC tabOk rfl rfl rfl (nb rfl) rfl ?_ | (refine aK rfl rfl rfl (nb rfl) rfl rfl rfl (fun hq => ?_) (fun hq => ?_) <;> (first | (simp only [sD, sE, sB, sC, sN, sM, sT, sF] at hq; try (exfalso; omega)) | skip)) | refine aU tabOk rfl rfl (nb rfl) rfl ?_) | (refine aN ?_;  first | refine aG ?_ | refine aQ ?_ | refine aT ?_ | refine bS ?_ | refine aA (b := false) rfl nFt (fun _ => ?_)) | (refine aJ ?_;  first | refine bB ?_ | refine bJ ?_) | (refine bA ?_;  first | refine bH ?_))
              all_goals first
                | (exfalso; omega)
                | (refine aX (by first | exact .inl rfl | exact .inr rfl) (bO rfl (aD rfl) (aD rfl)) rfl ?_; rfl))
  · rw [if_pos hc] at hQ
    subst hQ
    generalize checkP sformP t = C at *
    refine aM Tryz.func11 rfl rfl (nb rfl) rfl ?_
    repeat' (first | refine aE ?_ | (refine aH ?_;  first | refine aC tabOk rfl rfl rfl (nb rfl) rfl ?_ | (refine aK rfl rfl rfl (nb rfl) rfl rfl rfl (fun hq => ?_) (fun hq => ?_) <;> (first | (simp only [sD, sE, sB, sC, sN, sM, sT, sF] at hq; try (exfalso; omega)) | skip)) | refine aI rfl rfl (nb rfl) rfl rfl rfl rfl (c1) ?_) | (refine aN ?_;  first | refine aG ?_ | refine aQ ?_ | refine aT ?_ | refine aA (b := true) rfl (fun _ => ?_) nTf) | (refine aJ ?_;  first | refine aR ?_))
    all_goals first
      | exact absurd rfl (by assumption)
      | exact absurd (by assumption) hc
      | (refine aX (by first | exact .inl rfl | exact .inr rfl) (bO rfl (aD rfl) (aD rfl)) rfl ?_; rfl)
end Go.Proofs.YtlbemgokilhdnaaGreatDoor.Ab
namespace Go.Proofs.YtlbemgokilhdnaaGreatDoor.Ab
set_option linter.unusedVariables false
set_option linter.unusedSimpArgs false
open Go.RowKit Go.Proofs.YtlbemgokilhdnaaGreatDoor.RP
attribute [local irreducible] AWP AOps AExit AThen ABlock ANoGoto FeetOk
theorem lQ (t : Tree) (e : Int) : ((sizedP t e).1 = .nil ∨ (sizedP t e).1.whole = true) ∧ (sizedP t e).1.size ≤ 65536 := by
  unfold sizedP
  split
  · exact ⟨.inl rfl, by simp [Tree.size]⟩
  · split
    · exact ⟨.inl rfl, by simp [Tree.size]⟩
    · rename_i h1 h2
      have h2 : (wholeP t 65536).1 = 0 := by simpa using h2
      have h3 := iD t 65536 (by omega) h2
      have h4 := eE t 65536 (by omega) h2
      exact ⟨.inr (eF t _ h2), by dsimp only; omega⟩
theorem qS (t : Tree) : ((sTransP t).1 = .nil ∨ (sTransP t).1.whole = true) ∧ (sTransP t).1.size ≤ 65536 := by
  unfold sTransP
  split
  · exact ⟨.inl rfl, by simp [Tree.size]⟩
  · exact lQ _ _
theorem qT (t : Tree) : ((sTokenP t).1 = .nil ∨ (sTokenP t).1.whole = true) ∧ (sTokenP t).1.size ≤ 65536 := by
  unfold sTokenP
  split
  · exact ⟨.inl rfl, by simp [Tree.size]⟩
  · split
    · exact ⟨.inl rfl, by simp [Tree.size]⟩
    · exact lQ _ _
theorem tP (space : ByteArray) : ∀ (l : List ByteArray) (t : Tree), isSigP t = true → t.whole = true → ((atS space l t).1 = .nil ∨ (isSigP (atS space l t).1 = true ∧ (atS space l t).1.whole = true)) ∧ (atS space l t).1.size ≤ t.size
  | [], t, hs, hw => ⟨.inr ⟨hs, hw⟩, Nat.le_refl _⟩
  | s :: ss, t, hs, hw => by
    rw [atS]
    split
    · rename_i h
      obtain ⟨g1, g2, g3⟩ := jV hs hw _ h
      have := tP space ss _ g1 g2
      exact ⟨this.1, by omega⟩
    · exact ⟨.inl rfl, by simp [Tree.size]⟩
theorem yC (t : Tree) (space long : ByteArray) : ((sAtP t space long).1 = .nil ∨ (sAtP t space long).1.whole = true) ∧ (sAtP t space long).1.size ≤ 65536 := by
  unfold sAtP
  split
  · exact ⟨.inl rfl, by simp [Tree.size]⟩
  · rename_i hc
    have hc : checkP sformP t = 0 := by simpa using hc
    obtain ⟨hw, hz, _⟩ := cK hc
    split
    · exact ⟨.inl rfl, by simp [Tree.size]⟩
    · rename_i hs
      split
      · exact ⟨.inl rfl, by simp [Tree.size]⟩
      · have hs : isSigP t = true := by
          cases h : isSigP t with
          | true => rfl
          | false => rw [h] at hs; simp at hs
        have := tP space (splitP long) t hs hw
        exact ⟨this.1.imp_right And.right, by omega⟩
theorem tQ (n K : Nat) : (if (K : Int) < (n : Int) then (K : Int) else (n : Int)) = ((min n K : Nat) : Int) := by split <;> omega
set_option maxHeartbeats 8000000 in
set_option maxRecDepth 10000 in
theorem vJ (l : List CellD) (hl : ∀ c ∈ l, c.f = false) (a b : ByteArray) : ACalls Tryz.prog 3 [.imm (.agg [.sl false l.length (cellIVs l)]), .imm (.agg [.lit (.string a), .lit (.string b)])] [] (.imm (.lit (.bool true))) [] := by
  obtain ⟨x, x1, _, x3, d1⟩ := qH l hl
  have ha : (a.extract 0 (min a.size 9)).size ≤ 100000 := by rw [ByteArray.size_extract]; omega
  have hb : (b.extract 0 (min b.size 140)).size ≤ 100000 := by rw [ByteArray.size_extract]; omega
  have c1 := vW x (by omega)
  have c2 := zR x x3 (by omega)
  have c3 := aAO x (by omega)
  have c4 := zS x (by omega)
  have c5 := At_a x _ _ (by omega) ha hb
  have c6 := aBe x _ _ x3 (by omega) ha hb
  obtain ⟨f1, f2⟩ := qS x
  obtain ⟨f3, f4⟩ := qT x
  obtain ⟨f5, f6⟩ := yC x (a.extract 0 (min a.size 9)) (b.extract 0 (min b.size 140))
  generalize sTransP x = T at *
  generalize sTokenP x = K at *
  generalize sAtP x (a.extract 0 (min a.size 9)) (b.extract 0 (min b.size 140)) = G at *
  have s1 := mD T.1 T.1 f1 f1 (by omega) (by omega)
  have s2 := mD K.1 K.1 f3 f3 (by omega) (by omega)
  have s3 := mD G.1 G.1 f5 f5 (by omega) (by omega)
  rw [(oT _ _).2 rfl] at s1 s2 s3
  clear f1 f2 f3 f4 f5 f6
  obtain ⟨T1, T2⟩ := T
  obtain ⟨K1, K2⟩ := K
  obtain ⟨G1, G2⟩ := G
  dsimp only at *
  refine aM Tryz.func3 rfl rfl (nb rfl) rfl ?_
  repeat' (first | refine aE ?_ | (refine aH ?_;  first | refine aC tabOk rfl rfl rfl (nb rfl) rfl ?_ | (refine aK rfl rfl rfl (nb rfl) rfl rfl rfl (fun hq => ?_) (fun hq => ?_) <;> (first | (simp only [sD, sE, sB, sC, sN, sM, sT, sF] at hq; try (exfalso; omega)) | skip)) | refine oE tabOk rfl rfl rfl (nb rfl) rfl rfl rfl rfl rfl (by decide) ?_ | refine eR rfl rfl rfl (nb rfl) rfl rfl (tQ a.size 9) ?_ | refine eR rfl rfl rfl (nb rfl) rfl rfl (tQ b.size 140) ?_ | refine eQ (l := 0) (h := min a.size 9) tabOk rfl rfl rfl (nb rfl) rfl rfl rfl rfl (by omega) (by omega) rfl ?_ | refine eQ (l := 0) (h := min b.size 140) tabOk rfl rfl rfl (nb rfl) rfl rfl rfl rfl (by omega) (by omega) rfl ?_ | refine aI rfl rfl (nb rfl) rfl rfl rfl rfl (d1) ?_ | refine aI rfl rfl (nb rfl) rfl rfl rfl rfl (c1) ?_ | refine aI rfl rfl (nb rfl) rfl rfl rfl rfl (c2) ?_ | refine aI rfl rfl (nb rfl) rfl rfl rfl rfl (c3) ?_ | refine aI rfl rfl (nb rfl) rfl rfl rfl rfl (c4) ?_ | refine aI rfl rfl (nb rfl) rfl rfl rfl rfl (c5) ?_ | refine aI rfl rfl (nb rfl) rfl rfl rfl rfl (c6) ?_ | refine aI rfl rfl (nb rfl) rfl rfl rfl rfl (s1) ?_ | refine aI rfl rfl (nb rfl) rfl rfl rfl rfl (s2) ?_ | refine aI rfl rfl (nb rfl) rfl rfl rfl rfl (s3) ?_ | refine aI rfl rfl (nb rfl) rfl rfl rfl rfl (pH) ?_ | refine aU tabOk rfl rfl (nb rfl) rfl ?_) | (refine aN ?_;  first | refine aG ?_ | refine aQ ?_ | refine aT ?_ | refine bC mixed (by kernel_rfl) ?_) | (refine aJ ?_;  first | refine bB ?_) | refine bU (bQ (by kernel_rfl)) ?_)
  all_goals first
    | exact cF (by first | exact .inl rfl | exact .inr rfl) (aV rfl (aD rfl)) rfl
    | exact absurd rfl (by assumption)
    | (exfalso; omega)
theorem aAp {x : IV} (h : FitsV (.array 2 .string) x) : ∃ a b : ByteArray, x = .agg [.lit (.string a), .lit (.string b)] := by
  obtain ⟨xs, rfl, h⟩ := h
  cases h with
  | array n e ys hn hy =>
    match ys, hn, hy with
    | [y, z], _, hy =>
      have h1 := hy y (by simp)
      have h2 := hy z (by simp)
      cases h1 with
      | string a ha =>
        cases h2 with
        | string b hb => exact ⟨a, b, rfl⟩
theorem SemTrans_law (xs : List IV) (h : FitsAll [tyTree, .array 2 .string] xs) : ACalls Tryz.prog 3 (xs.map .imm) [] (.imm (.lit (.bool true))) [] := by
  cases h with
  | cons h1 h =>
    cases h with
    | cons h2 h =>
      cases h
      obtain ⟨l, rfl, hl⟩ := lA h1
      obtain ⟨a, b, rfl⟩ := aAp h2
      exact vJ l hl a b
end Go.Proofs.YtlbemgokilhdnaaGreatDoor.Ab
