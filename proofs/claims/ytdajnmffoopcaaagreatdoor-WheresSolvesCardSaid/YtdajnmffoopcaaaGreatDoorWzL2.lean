/- Words, walks and laws under the claim's statement: what it uses of them. No condition of its own. -/
import Derived.Test.YtdajnmffoopcaaaGreatDoorWzP0
import Derived.Lib.ValidLaws
import Derived.Lib.MapLaws
import Derived.Lib.DecodeN
import Derived.Test.YtdajnmffoopcaaaGreatDoorWzS0
import Derived.WalkKit
import Derived.WalkMore
import Derived.WalkSpells
import Derived.Below
import Derived.Outline
import Derived.Deep.LoopGhost
import Derived.Deep.DeepCutAuto
import Derived.Laws.RangeAny
import Derived.Lib.OthersKept
import Derived.Lib.Hide
import Derived.Deep.QuietTactic
import Derived.BigQuiet
import Derived.Lib.SlicesS
import Derived.WalkLawsBesides
import Derived.OneCell
import Derived.Lib.SplitLaws
import Derived.Lib.CutLaws
import Derived.Lib.IndexLaws
import Derived.Test.YtdajnmffoopcaaaGreatDoorWzAb1
import Derived.Test.YtdajnmffoopcaaaGreatDoorWzAb0
import Derived.Test.YtdajnmffoopcaaaGreatDoorWzL1
namespace Go.Proofs.YtdajnmffoopcaaaGreatDoor.RP
set_option linter.unusedVariables false
set_option linter.unusedSimpArgs false
open Go.RowKit Go.Lib Go.Proofs.YtdajnmffoopcaaaGreatDoorW.PrintWords Go.Proofs.YtdajnmffoopcaaaGreatDoorW.PrintLast Go.Proofs.YtdajnmffoopcaaaGreatDoorW.PrintMore Go.Proofs.YtdajnmffoopcaaaGreatDoor.PAll
theorem w64 {x : Int} (h0 : -9223372036854775808 ≤ x) (h1 : x ≤ 9223372036854775807) : wrap64 x = x := by unfold wrap64; omega
theorem w32 {x : Int} (h0 : -2147483648 ≤ x) (h1 : x ≤ 2147483647) : wrap32 x = x := by unfold wrap32; omega
theorem w64s (a : Nat) (h : a ≤ 9000000) : wrap64 ((a : Int) + 1) = ((a + 1 : Nat) : Int) := by rw [w64] <;> omega
theorem aAT (s : ByteArray) (i : Nat) (h : i < s.size) : bt s (i : Int) = ((s.get! i).toNat : Int) := by
  have e : s.get! i = s[i]'h := by simp [ByteArray.get!, getElem!_pos, h]; rfl
  rw [e]
  simp [bt, h]
/-- What the reference's 'next' tells at a place within the text. -/
def nx (s : ByteArray) (i : Nat) : Int × Int := if (Utf8.decode s i).1 = 65533 ∧ (Utf8.decode s i).2 = 1 then (0, 0) else ((Utf8.decode s i).1, (Utf8.decode s i).2)
def nn (d : Nat × Nat) : Int × Int := if d.1 = 65533 ∧ d.2 = 1 then (0, 0) else (d.1, d.2)
theorem rU (s : ByteArray) (i n x m : Int) (k : Nat) :
    marquetryref01_next.l0 (k + 1) s i n x m n = some (if x < m ∨ x > 1114111 ∨ (55296 ≤ x ∧ x ≤ 57343) then (0, 0) else (wrap32 x, n)) := by
  simp only [marquetryref01_next.l0]
  rw [if_neg (Int.lt_irrefl n)]
  by_cases h1 : x < m
  · rw [if_pos h1, if_pos (Or.inl h1)]
  · rw [if_neg h1]
    by_cases h2 : x > 1114111
    · rw [if_pos h2, if_pos (Or.inr (Or.inl h2))]
    · rw [if_neg h2]
      by_cases h3 : x ≥ 55296
      · rw [if_pos h3]
        by_cases h4 : x ≤ 57343
        · rw [if_pos h4, if_pos (Or.inr (Or.inr ⟨h3, h4⟩))]
        · rw [if_neg h4, if_neg (by omega)]
      · rw [if_neg h3, if_neg (by omega)]
theorem qQ (s : ByteArray) (i j : Nat) (n x m : Int) (c : Nat) (k : Nat) (hj : (j : Int) < n) (hi : i + j < s.size) (hs : s.size ≤ 140737488351232) (hc : (s.get! (i + j)).toNat = c)
    (hx0 : 0 ≤ x) (hx1 : x ≤ 1000000) :
    marquetryref01_next.l0 (k + 1) s (i : Int) n x m (j : Int) = if c < 128 ∨ 191 < c then some (0, 0) else marquetryref01_next.l0 k s (i : Int) n (64 * x + c - 128) m ((j + 1 : Nat) : Int) := by
  have hlt : c < 256 := by rw [← hc]; exact UInt8.toNat_lt _
  have e1 : wrap64 ((i : Int) + (j : Int)) = ((i + j : Nat) : Int) := by rw [w64] <;> omega
  have e2 : wrap64 (bt s ((i + j : Nat) : Int)) = (c : Int) := by rw [aAT s _ hi, hc, w64] <;> omega
  have e3 : wrap64 (64 * x) = 64 * x := by rw [w64] <;> omega
  have e4 : wrap64 (64 * x + (c : Int)) = 64 * x + (c : Int) := by clear e1 e2 e3; rw [w64] <;> omega
  have e5 : wrap64 (64 * x + (c : Int) - 128) = 64 * x + (c : Int) - 128 := by clear e1 e2 e3 e4; rw [w64] <;> omega
  have e6 : wrap64 ((j : Int) + 1) = ((j + 1 : Nat) : Int) := by clear e1 e2 e3 e4 e5; rw [w64] <;> omega
  simp only [marquetryref01_next.l0]
  rw [e1, e2, e3, e4, e5, e6]
  clear e1 e2 e3 e4 e5 e6 hc
  rw [if_pos hj, if_pos (by omega), if_pos (by omega)]
  by_cases h1 : c < 128
  · rw [if_pos (by omega), if_pos (Or.inl h1)]
  · rw [if_neg (by omega)]
    by_cases h2 : 191 < c
    · rw [if_pos (by omega), if_pos (Or.inr h2)]
    · rw [if_neg (by omega), if_neg (by omega)]
/-- 'next' behind the lead byte. -/
theorem xM (s : ByteArray) (i x m : Int) (k : Nat) : marquetryref01_next.j2 (k + 2) s i 0 x m = some (0, 0) := by
  simp only [marquetryref01_next.j2, marquetryref01_next.j3, if_true]
theorem pE (s : ByteArray) (i : Nat) (n x m : Int) (k : Nat) (hn : n ≠ 0) (hs : s.size ≤ 140737488351232) (hi : i < s.size) (h : (s.size : Int) - (i : Int) < n) :
    marquetryref01_next.j2 (k + 2) s (i : Int) n x m = some (0, 0) := by
  have e : wrap64 ((s.size : Int) - (i : Int)) = (s.size : Int) - (i : Int) := by rw [w64] <;> omega
  simp only [marquetryref01_next.j2, marquetryref01_next.j3]
  rw [if_neg hn, e, decide_eq_true h]
  simp
theorem rV (s : ByteArray) (i : Nat) (n x m : Int) (k : Nat) (hn : n ≠ 0) (hs : s.size ≤ 140737488351232) (hi : i < s.size) (h : ¬ (s.size : Int) - (i : Int) < n) :
    marquetryref01_next.j2 (k + 2) s (i : Int) n x m = marquetryref01_next.l0 k s (i : Int) n x m 1 := by
  have e : wrap64 ((s.size : Int) - (i : Int)) = (s.size : Int) - (i : Int) := by rw [w64] <;> omega
  simp only [marquetryref01_next.j2, marquetryref01_next.j3]
  rw [if_neg hn, e, decide_eq_false h]
  simp
theorem two (s : ByteArray) (i : Nat) (b0 b1 b2 b3 : Nat) (k : Nat) (hi : i < s.size) (hs : s.size ≤ 140737488351232) (h1 : (s.get! (i + 1)).toNat = b1) (ha : 194 ≤ b0) (hb : b0 < 224) :
    marquetryref01_next.j2 (k + 4) s (i : Int) 2 ((b0 : Int) - 192) 128 = some (nn (decodeN (s.size - i) b0 b1 b2 b3)) := by
  have hd : decodeN (s.size - i) b0 b1 b2 b3 = if 1 < s.size - i ∧ b1 / 64 = 2 then (b0 % 32 * 64 + b1 % 64, 2) else (65533, 1) := by
    unfold decodeN
    rw [if_neg (by omega)]
    by_cases hc : 1 < s.size - i ∧ b1 / 64 = 2
    · rw [if_pos ⟨by omega, hc⟩, if_pos (by omega), if_pos hc]
    · rw [if_neg (fun h => hc h.2), if_neg (by omega), if_neg (by omega), if_neg hc]
  rw [hd]
  have l1 : b1 < 256 := by rw [← h1]; exact UInt8.toNat_lt _
  by_cases hl : (s.size : Int) - (i : Int) < 2
  · rw [pE s i 2 _ _ (k + 2) (by omega) hs hi hl, if_neg (by omega)]
    rfl
  · rw [rV s i 2 _ _ (k + 2) (by omega) hs hi hl]
    have g := qQ s i 1 2 ((b0 : Int) - 192) 128 b1 (k + 1) (by omega) (by omega) hs h1 (by omega) (by omega)
    have g' : marquetryref01_next.l0 (k + 2) s (i : Int) 2 ((b0 : Int) - 192) 128 1 = _ := g
    rw [g']
    by_cases hc : b1 < 128 ∨ 191 < b1
    · rw [if_pos hc, if_neg (by omega)]
      rfl
    · rw [if_neg hc, if_pos (by omega)]
      have g2 := rU s (i : Int) 2 (64 * ((b0 : Int) - 192) + b1 - 128) 128 k
      have g2' : marquetryref01_next.l0 (k + 1) s (i : Int) 2 (64 * ((b0 : Int) - 192) + b1 - 128) 128 ((1 + 1 : Nat) : Int) = _ := g2
      rw [g2', if_neg (by omega), w32 (by omega) (by omega)]
      unfold nn
      rw [if_neg (by simp only; omega)]
      simp only [Option.some.injEq, Prod.mk.injEq]
      omega
theorem three (s : ByteArray) (i : Nat) (b0 b1 b2 b3 : Nat) (k : Nat) (hi : i < s.size) (hs : s.size ≤ 140737488351232) (h1 : (s.get! (i + 1)).toNat = b1) (h2 : (s.get! (i + 2)).toNat = b2) (ha : 224 ≤ b0) (hb : b0 < 240) :
    marquetryref01_next.j2 (k + 5) s (i : Int) 3 ((b0 : Int) - 224) 2048 = some (nn (decodeN (s.size - i) b0 b1 b2 b3)) := by
  have hd : decodeN (s.size - i) b0 b1 b2 b3 = if (1 < s.size - i ∧ b1 / 64 = 2) ∧ (2 < s.size - i ∧ b2 / 64 = 2) then
      (if b0 % 16 * 4096 + b1 % 64 * 64 + b2 % 64 ≥ 2048 ∧ (b0 % 16 * 4096 + b1 % 64 * 64 + b2 % 64 < 55296 ∨ (57344 ≤ b0 % 16 * 4096 + b1 % 64 * 64 + b2 % 64 ∧ b0 % 16 * 4096 + b1 % 64 * 64 + b2 % 64 ≤ 1114111)) then (b0 % 16 * 4096 + b1 % 64 * 64 + b2 % 64, 3) else (65533, 1)) else (65533, 1) := by
    unfold decodeN
    rw [if_neg (by omega), if_neg (by omega)]
    by_cases hc : (1 < s.size - i ∧ b1 / 64 = 2) ∧ (2 < s.size - i ∧ b2 / 64 = 2)
    · rw [if_pos ⟨by omega, hc⟩, if_pos hc]
    · rw [if_neg (fun h => hc h.2), if_neg (by omega), if_neg hc]
  rw [hd]
  clear hd
  have l1 : b1 < 256 := by rw [← h1]; exact UInt8.toNat_lt _
  have l2 : b2 < 256 := by rw [← h2]; exact UInt8.toNat_lt _
  by_cases hl : (s.size : Int) - (i : Int) < 3
  · rw [pE s i 3 _ _ (k + 3) (by omega) hs hi hl, if_neg (by omega)]
    rfl
  · rw [rV s i 3 _ _ (k + 3) (by omega) hs hi hl]
    have g' : marquetryref01_next.l0 (k + 3) s (i : Int) 3 ((b0 : Int) - 224) 2048 1 = _ := qQ s i 1 3 ((b0 : Int) - 224) 2048 b1 (k + 2) (by omega) (by omega) hs h1 (by omega) (by omega)
    rw [g']
    by_cases hc : b1 < 128 ∨ 191 < b1
    · rw [if_pos hc, if_neg (by omega)]
      rfl
    · rw [if_neg hc]
      have g2' := qQ s i 2 3 (64 * ((b0 : Int) - 224) + b1 - 128) 2048 b2 (k + 1) (by omega) (by omega) hs h2 (by omega) (by omega)
      have g2 : marquetryref01_next.l0 (k + 2) s (i : Int) 3 (64 * ((b0 : Int) - 224) + b1 - 128) 2048 ((1 + 1 : Nat) : Int) = _ := g2'
      rw [g2]
      by_cases hc2 : b2 < 128 ∨ 191 < b2
      · rw [if_pos hc2, if_neg (by omega)]
        rfl
      · rw [if_neg hc2, if_pos (by omega)]
        have g3 : marquetryref01_next.l0 (k + 1) s (i : Int) 3 (64 * (64 * ((b0 : Int) - 224) + b1 - 128) + b2 - 128) 2048 ((2 + 1 : Nat) : Int) = _ := rU s (i : Int) 3 (64 * (64 * ((b0 : Int) - 224) + b1 - 128) + b2 - 128) 2048 k
        rw [g3]
        clear g' g2 g2' g3
        by_cases hv : b0 % 16 * 4096 + b1 % 64 * 64 + b2 % 64 ≥ 2048 ∧ (b0 % 16 * 4096 + b1 % 64 * 64 + b2 % 64 < 55296 ∨ (57344 ≤ b0 % 16 * 4096 + b1 % 64 * 64 + b2 % 64 ∧ b0 % 16 * 4096 + b1 % 64 * 64 + b2 % 64 ≤ 1114111))
        · rw [if_pos hv, if_neg (by omega), w32 (by omega) (by omega)]
          unfold nn
          rw [if_neg (by simp only; omega)]
          simp only [Option.some.injEq, Prod.mk.injEq]
          omega
        · rw [if_neg hv, if_pos (by omega)]
          rfl
theorem four (s : ByteArray) (i : Nat) (b0 b1 b2 b3 : Nat) (k : Nat) (hi : i < s.size) (hs : s.size ≤ 140737488351232) (h1 : (s.get! (i + 1)).toNat = b1) (h2 : (s.get! (i + 2)).toNat = b2) (h3 : (s.get! (i + 3)).toNat = b3)
    (ha : 240 ≤ b0) (hb : b0 < 245) :
    marquetryref01_next.j2 (k + 6) s (i : Int) 4 ((b0 : Int) - 240) 65536 = some (nn (decodeN (s.size - i) b0 b1 b2 b3)) := by
  have hd : decodeN (s.size - i) b0 b1 b2 b3 = if (1 < s.size - i ∧ b1 / 64 = 2) ∧ (2 < s.size - i ∧ b2 / 64 = 2) ∧ (3 < s.size - i ∧ b3 / 64 = 2) then
      (if b0 % 8 * 262144 + b1 % 64 * 4096 + b2 % 64 * 64 + b3 % 64 ≥ 65536 ∧ (b0 % 8 * 262144 + b1 % 64 * 4096 + b2 % 64 * 64 + b3 % 64 < 55296 ∨ (57344 ≤ b0 % 8 * 262144 + b1 % 64 * 4096 + b2 % 64 * 64 + b3 % 64 ∧ b0 % 8 * 262144 + b1 % 64 * 4096 + b2 % 64 * 64 + b3 % 64 ≤ 1114111)) then (b0 % 8 * 262144 + b1 % 64 * 4096 + b2 % 64 * 64 + b3 % 64, 4) else (65533, 1)) else (65533, 1) := by
    unfold decodeN
    rw [if_neg (by omega), if_neg (by omega), if_neg (by omega)]
    by_cases hc : (1 < s.size - i ∧ b1 / 64 = 2) ∧ (2 < s.size - i ∧ b2 / 64 = 2) ∧ (3 < s.size - i ∧ b3 / 64 = 2)
    · rw [if_pos ⟨by omega, hc⟩, if_pos hc]
    · rw [if_neg (fun h => hc h.2), if_neg hc]
  rw [hd]
  clear hd
  have l1 : b1 < 256 := by rw [← h1]; exact UInt8.toNat_lt _
  have l2 : b2 < 256 := by rw [← h2]; exact UInt8.toNat_lt _
  have l3 : b3 < 256 := by rw [← h3]; exact UInt8.toNat_lt _
  by_cases hl : (s.size : Int) - (i : Int) < 4
  · rw [pE s i 4 _ _ (k + 4) (by omega) hs hi hl, if_neg (by omega)]
    rfl
  · rw [rV s i 4 _ _ (k + 4) (by omega) hs hi hl]
    have g' : marquetryref01_next.l0 (k + 4) s (i : Int) 4 ((b0 : Int) - 240) 65536 1 = _ := qQ s i 1 4 ((b0 : Int) - 240) 65536 b1 (k + 3) (by omega) (by omega) hs h1 (by omega) (by omega)
    rw [g']
    by_cases hc : b1 < 128 ∨ 191 < b1
    · rw [if_pos hc, if_neg (by omega)]
      rfl
    · rw [if_neg hc]
      have g2 : marquetryref01_next.l0 (k + 3) s (i : Int) 4 (64 * ((b0 : Int) - 240) + b1 - 128) 65536 ((1 + 1 : Nat) : Int) = _ := qQ s i 2 4 (64 * ((b0 : Int) - 240) + b1 - 128) 65536 b2 (k + 2) (by omega) (by omega) hs h2 (by omega) (by omega)
      rw [g2]
      by_cases hc2 : b2 < 128 ∨ 191 < b2
      · rw [if_pos hc2, if_neg (by omega)]
        rfl
      · rw [if_neg hc2]
        have g3 : marquetryref01_next.l0 (k + 2) s (i : Int) 4 (64 * (64 * ((b0 : Int) - 240) + b1 - 128) + b2 - 128) 65536 ((2 + 1 : Nat) : Int) = _ := qQ s i 3 4 (64 * (64 * ((b0 : Int) - 240) + b1 - 128) + b2 - 128) 65536 b3 (k + 1) (by omega) (by omega) hs h3 (by omega) (by omega)
        rw [g3]
        by_cases hc3 : b3 < 128 ∨ 191 < b3
        · rw [if_pos hc3, if_neg (by omega)]
          rfl
        · rw [if_neg hc3, if_pos (by omega)]
          have g4 : marquetryref01_next.l0 (k + 1) s (i : Int) 4 (64 * (64 * (64 * ((b0 : Int) - 240) + b1 - 128) + b2 - 128) + b3 - 128) 65536 ((3 + 1 : Nat) : Int) = _ := rU s (i : Int) 4 (64 * (64 * (64 * ((b0 : Int) - 240) + b1 - 128) + b2 - 128) + b3 - 128) 65536 k
          rw [g4]
          clear g' g2 g3 g4
          by_cases hv : b0 % 8 * 262144 + b1 % 64 * 4096 + b2 % 64 * 64 + b3 % 64 ≥ 65536 ∧ (b0 % 8 * 262144 + b1 % 64 * 4096 + b2 % 64 * 64 + b3 % 64 < 55296 ∨ (57344 ≤ b0 % 8 * 262144 + b1 % 64 * 4096 + b2 % 64 * 64 + b3 % 64 ∧ b0 % 8 * 262144 + b1 % 64 * 4096 + b2 % 64 * 64 + b3 % 64 ≤ 1114111))
          · rw [if_pos hv, if_neg (by omega), w32 (by omega) (by omega)]
            unfold nn
            rw [if_neg (by simp only; omega)]
            simp only [Option.some.injEq, Prod.mk.injEq]
            omega
          · rw [if_neg hv, if_pos (by omega)]
            rfl
theorem none_ (n b0 b1 b2 b3 : Nat) (h : 128 ≤ b0 ∧ b0 < 194 ∨ 245 ≤ b0) : decodeN n b0 b1 b2 b3 = (65533, 1) := by
  unfold decodeN
  repeat' split
  all_goals first | rfl | (exfalso; omega)
theorem aBX (s : ByteArray) (i : Nat) (hi : i < s.size) (hs : s.size ≤ 140737488351232) (k : Nat) : marquetryref01_next.f (k + 9) s (i : Int) = some (nx s i) := by
  have hb0 := aAT s i hi
  have l0 := UInt8.toNat_lt (s.get! i)
  have l1 := UInt8.toNat_lt (s.get! (i + 1))
  have l2 := UInt8.toNat_lt (s.get! (i + 2))
  have l3 := UInt8.toNat_lt (s.get! (i + 3))
  show _ = some (nn (Utf8.decode s i))
  rw [decode_at]
  have g1 := two s i (s.get! i).toNat (s.get! (i + 1)).toNat (s.get! (i + 2)).toNat (s.get! (i + 3)).toNat (k + 4) hi hs rfl
  have g2 := three s i (s.get! i).toNat (s.get! (i + 1)).toNat (s.get! (i + 2)).toNat (s.get! (i + 3)).toNat (k + 2) hi hs rfl rfl
  have g3 := four s i (s.get! i).toNat (s.get! (i + 1)).toNat (s.get! (i + 2)).toNat (s.get! (i + 3)).toNat (k + 1) hi hs rfl rfl rfl
  have g4 := none_ (s.size - i) (s.get! i).toNat (s.get! (i + 1)).toNat (s.get! (i + 2)).toNat (s.get! (i + 3)).toNat
  unfold marquetryref01_next.f
  rw [hb0]
  clear hb0
  generalize (s.get! i).toNat = b0 at *
  generalize (s.get! (i + 1)).toNat = b1 at *
  generalize (s.get! (i + 2)).toNat = b2 at *
  generalize (s.get! (i + 3)).toNat = b3 at *
  have eb : wrap64 (b0 : Int) = (b0 : Int) := w64 (by omega) (by omega)
  rw [eb, if_pos (by omega), if_pos (by omega)]
  clear eb
  by_cases h1 : b0 < 128
  · rw [if_pos (by omega)]
    have : decodeN (s.size - i) b0 b1 b2 b3 = (b0, 1) := by unfold decodeN; rw [if_pos h1]
    rw [this, w32 (by omega) (by omega)]
    unfold nn
    rw [if_neg (by simp only; omega)]
    rfl
  · rw [if_neg (by omega)]
    by_cases h2 : b0 < 194
    · rw [if_neg (by omega), g4 (by omega)]
      simp only [marquetryref01_next.j0, Bool.false_eq_true, if_false]
      rw [if_neg (by omega)]
      simp only [marquetryref01_next.j1, Bool.false_eq_true, if_false]
      rw [if_neg (by omega)]
      exact xM s (i : Int) _ _ (k + 5)
    · rw [if_pos (by omega)]
      by_cases h3 : b0 < 224
      · rw [decide_eq_true (by omega)]
        have e : wrap64 ((b0 : Int) - 192) = (b0 : Int) - 192 := w64 (by omega) (by omega)
        simp only [marquetryref01_next.j0, if_true]
        rw [e]
        exact g1 (by omega) h3
      · rw [decide_eq_false (by omega)]
        simp only [marquetryref01_next.j0, Bool.false_eq_true, if_false]
        rw [if_pos (by omega)]
        by_cases h4 : b0 < 240
        · rw [decide_eq_true (by omega)]
          have e : wrap64 ((b0 : Int) - 224) = (b0 : Int) - 224 := w64 (by omega) (by omega)
          simp only [marquetryref01_next.j1, if_true]
          rw [e]
          exact g2 (by omega) h4
        · rw [decide_eq_false (by omega)]
          simp only [marquetryref01_next.j1, Bool.false_eq_true, if_false]
          rw [if_pos (by omega)]
          by_cases h5 : b0 < 245
          · have e : wrap64 ((b0 : Int) - 240) = (b0 : Int) - 240 := w64 (by omega) (by omega)
            rw [if_pos (by omega), e]
            exact g3 (by omega) h5
          · rw [if_neg (by omega), g4 (by omega)]
            exact xM s (i : Int) _ _ (k + 5)
/-- Is the text valid from a place on? -/
def vf (s : ByteArray) (pos : Nat) : Bool := validD (s.data.toList.drop pos)
/-- The runes from a place on, at most so many. -/
def rl (s : ByteArray) : Nat → Nat → List Int
  | 0, _ => []
  | f + 1, pos => if pos < s.size then ((Utf8.decode s pos).1 : Int) :: rl s f (pos + (Utf8.decode s pos).2) else []
theorem xN (s : ByteArray) (pos : Nat) (h : pos < s.size) : s.data.toList.drop pos ≠ [] := by
  intro e
  have := congrArg List.length e
  rw [List.length_drop] at this
  have h2 : s.data.toList.length = s.size := Array.length_toList
  simp only [List.length_nil] at this
  omega
theorem aBY (s : ByteArray) (pos : Nat) (h : pos < s.size) : vf s pos = if (Utf8.decode s pos).1 = 65533 ∧ (Utf8.decode s pos).2 = 1 then false else vf s (pos + (Utf8.decode s pos).2) := by
  unfold vf
  rw [validD_step _ (xN s pos h), decodeL_drop, List.drop_drop]
theorem aAU (s : ByteArray) (pos : Nat) (h : ¬ pos < s.size) : vf s pos = true := by
  unfold vf
  rw [List.drop_eq_nil_of_le (by have h2 : s.data.toList.length = s.size := Array.length_toList
                                 omega)]
  rfl
theorem aBZ (s : ByteArray) : vf s 0 = validD s.data.toList := by unfold vf; rw [List.drop_zero]
theorem w_le (s : ByteArray) (pos : Nat) (h : pos < s.size) : pos + (Utf8.decode s pos).2 ≤ s.size := by
  have := decodeL_le (s.data.toList.drop pos) (xN s pos h)
  rw [decodeL_drop, List.length_drop] at this
  have h2 : s.data.toList.length = s.size := Array.length_toList
  omega
theorem aCy {s : ByteArray} {pos : Nat} (h : (Utf8.decode s pos).1 = 65533 ∧ (Utf8.decode s pos).2 = 1) : nx s pos = (0, 0) := by unfold nx; rw [if_pos h]
theorem aCa {s : ByteArray} {pos : Nat} (h : ¬ ((Utf8.decode s pos).1 = 65533 ∧ (Utf8.decode s pos).2 = 1)) : nx s pos = (((Utf8.decode s pos).1 : Int), ((Utf8.decode s pos).2 : Int)) := by unfold nx; rw [if_neg h]
theorem aCb (s : ByteArray) (i : Nat) (hi : i < s.size) (hs : s.size ≤ 1000000) (k : Nat) (hk : 9 ≤ k) : marquetryref01_next.f k s (i : Int) = some (nx s i) := by
  obtain ⟨j, rfl⟩ : ∃ j, k = j + 9 := ⟨k - 9, by omega⟩
  exact aBX s i hi (by omega) j
theorem zK (s : ByteArray) (hs : s.size ≤ 1000000) : ∀ (d pos : Nat) (acc : List Int) (k : Nat), pos ≤ s.size → s.size - pos ≤ d → acc.length ≤ pos → d + 10 ≤ k →
    marquetryref01_Decode.l0 k s acc (pos : Int) = some (if vf s pos = true then (acc ++ rl s d pos, 0) else ([], 4)) := by
  intro d
  induction d with
  | zero =>
    intro pos acc k h1 h2 h3 hk
    obtain ⟨k, rfl⟩ : ∃ m, k = m + 1 := ⟨k - 1, by omega⟩
    simp only [marquetryref01_Decode.l0]
    rw [if_neg (by omega), aAU s pos (by omega), if_pos rfl]
    simp [rl]
  | succ d ih =>
    intro pos acc k h1 h2 h3 hk
    obtain ⟨k, rfl⟩ : ∃ m, k = m + 1 := ⟨k - 1, by omega⟩
    simp only [marquetryref01_Decode.l0]
    by_cases hp : pos < s.size
    · have hw := w_le s pos hp
      have hw1 := width_pos s pos
      rw [if_pos (by omega), aCb s pos hp hs k (by omega), aBY s pos hp]
      simp only [Option.bind_some]
      by_cases hc : (Utf8.decode s pos).1 = 65533 ∧ (Utf8.decode s pos).2 = 1
      · rw [aCy hc, if_pos hc]
        simp
      · rw [aCa hc, if_neg hc]
        simp only
        rw [if_neg (by omega), if_pos (by omega)]
        have e : wrap64 ((pos : Int) + ((Utf8.decode s pos).2 : Int)) = ((pos + (Utf8.decode s pos).2 : Nat) : Int) := by rw [w64] <;> omega
        rw [e, ih (pos + (Utf8.decode s pos).2) (acc ++ [((Utf8.decode s pos).1 : Int)]) k hw (by omega) (by simp; omega) (by omega)]
        simp [rl, hp]
    · rw [if_neg (by omega), aAU s pos hp, if_pos rfl]
      simp [rl, hp]
theorem zL (s : ByteArray) (hs : s.size ≤ 1000000) (k : Nat) (hk : s.size + 10 ≤ k) : marquetryref01_Decode.f k s = some (if vf s 0 = true then (rl s s.size 0, 0) else ([], 4)) := by
  unfold marquetryref01_Decode.f
  have := zK s hs s.size 0 [] k (by omega) (by omega) (by simp) hk
  simpa using this
def high (r : Int) : Int := if 128 ≤ r ∧ r ≤ 1114111 ∧ r ≠ 65533 ∧ (r < 55296 ∨ 57343 < r) then 1 else 0
def blank (r : Int) : Int := if r = 32 ∨ r = 9 ∨ r = 10 then 3 else high r
def digit (r : Int) : Int := if 48 ≤ r ∧ r ≤ 57 then 2 else blank r
/-- A rune's class. -/
def classP (r : Int) : Int := if (65 ≤ r ∧ r ≤ 90) ∨ (97 ≤ r ∧ r ≤ 122) ∨ r = 95 then 1 else digit r
theorem aCP (k : Nat) (r : Int) : utf8_ValidRune.f (k + 1) r = some (decide ((0 ≤ r ∧ r < 55296) ∨ (57343 < r ∧ r ≤ 1114111))) := by
  unfold utf8_ValidRune.f
  by_cases h : 0 ≤ r
  · rw [if_pos h]
    by_cases h2 : r < 55296
    · rw [decide_eq_true h2, decide_eq_true (Or.inl ⟨h, h2⟩)]
      simp only [utf8_ValidRune.j0, if_true]
    · rw [decide_eq_false h2]
      simp only [utf8_ValidRune.j0, Bool.false_eq_true, if_false]
      by_cases h3 : 57343 < r
      · rw [if_pos h3]
        by_cases h4 : r ≤ 1114111
        · rw [if_pos h4, decide_eq_true (Or.inr ⟨h3, h4⟩)]
        · rw [if_neg h4, decide_eq_false (by omega)]
      · rw [if_neg h3, decide_eq_false (by omega)]
  · rw [if_neg h, decide_eq_false (by omega)]
    simp only [utf8_ValidRune.j0, Bool.false_eq_true, if_false]
    rw [if_neg (by omega)]
theorem c_j3 (k : Nat) (r : Int) (b : Bool) : runes_Class.j3 (k + 2) r b = some (if b = true then 3 else high r) := by
  cases b with
  | true => simp only [runes_Class.j3, if_true]
  | false =>
    simp only [runes_Class.j3, Bool.false_eq_true, if_false]
    unfold high
    by_cases h : 128 ≤ r
    · rw [if_pos h]
      by_cases h2 : r = 65533
      · rw [if_pos h2, if_neg (by omega)]
      · rw [if_neg h2, aCP]
        simp only [Option.bind_some]
        by_cases h3 : (0 ≤ r ∧ r < 55296) ∨ (57343 < r ∧ r ≤ 1114111)
        · rw [decide_eq_true h3, if_pos rfl, if_pos (by omega)]
        · rw [decide_eq_false h3, if_neg (by decide), if_neg (by omega)]
    · rw [if_neg h, if_neg (by omega)]
theorem c_j2 (k : Nat) (r : Int) (b : Bool) : runes_Class.j2 (k + 3) r b = some (if b = true then 2 else blank r) := by
  cases b with
  | true => simp only [runes_Class.j2, if_true]
  | false =>
    simp only [runes_Class.j2, Bool.false_eq_true, if_false, c_j3]
    unfold blank
    by_cases h : r = 32
    · rw [if_pos h, if_pos (by simpa using h), if_pos (by omega)]
    · rw [if_neg h]
      by_cases h2 : r = 9
      · rw [if_pos h2, if_pos (by simpa using h2), if_pos (by omega)]
      · rw [if_neg h2]
        by_cases h3 : r = 10
        · rw [if_pos (by simpa using h3), if_pos (by omega)]
        · rw [if_neg (by simpa using h3), if_neg (by omega)]
theorem c_j1 (k : Nat) (r : Int) (b : Bool) : runes_Class.j1 (k + 4) r b = some (if b = true then 1 else digit r) := by
  cases b with
  | true => simp only [runes_Class.j1, if_true]
  | false =>
    simp only [runes_Class.j1, Bool.false_eq_true, if_false, c_j2]
    unfold digit
    by_cases h : 48 ≤ r
    · rw [if_pos h]
      by_cases h2 : r ≤ 57
      · rw [if_pos (by simpa using h2), if_pos ⟨h, h2⟩]
      · rw [if_neg (by simpa using h2), if_neg (by omega)]
    · rw [if_neg h, if_neg (by omega)]
theorem c_j0 (k : Nat) (r : Int) (b : Bool) : runes_Class.j0 (k + 5) r b = some (if b = true then 1 else if (97 ≤ r ∧ r ≤ 122) ∨ r = 95 then 1 else digit r) := by
  cases b with
  | true => simp only [runes_Class.j0, if_true, c_j1]
  | false =>
    simp only [runes_Class.j0, Bool.false_eq_true, if_false, c_j1]
    by_cases h : 97 ≤ r
    · rw [if_pos h]
      by_cases h2 : r ≤ 122
      · rw [if_pos h2, if_pos (by simpa using h2), if_pos (by omega)]
      · rw [if_neg h2, if_neg (by simp; omega), if_neg (by omega)]
    · rw [if_neg h]
      by_cases h3 : r = 95
      · rw [if_pos (by simpa using h3), if_pos (by omega)]
      · rw [if_neg (by simpa using h3), if_neg (by omega)]
theorem aAV (k : Nat) (r : Int) : runes_Class.f (k + 5) r = some (classP r) := by
  unfold runes_Class.f classP
  rw [c_j0, c_j0]
  by_cases h : 65 ≤ r
  · rw [if_pos h]
    by_cases h2 : r ≤ 90
    · rw [if_pos (by simpa using h2), if_pos (by omega)]
    · rw [if_neg (by simpa using h2)]
      by_cases h3 : (97 ≤ r ∧ r ≤ 122) ∨ r = 95
      · rw [if_pos h3, if_pos (by omega)]
      · rw [if_neg h3, if_neg (by omega)]
  · rw [if_neg h, if_neg (by decide)]
    by_cases h3 : (97 ≤ r ∧ r ≤ 122) ∨ r = 95
    · rw [if_pos h3, if_pos (by omega)]
    · rw [if_neg h3, if_neg (by omega)]
theorem r_j2 (k : Nat) (r : Int) (b : Bool) : marquetryref01_Class.j2 (k + 1) r b = some (if b = true then 3 else high r) := by
  cases b with
  | true => simp only [marquetryref01_Class.j2, if_true]
  | false =>
    simp only [marquetryref01_Class.j2, Bool.false_eq_true, if_false]
    unfold high
    by_cases h : 128 ≤ r
    · rw [if_pos h]
      by_cases h1 : r ≤ 1114111
      · rw [if_pos h1]
        by_cases h2 : r = 65533
        · rw [if_pos h2, if_neg (by omega)]
        · rw [if_neg h2]
          by_cases h3 : r < 55296
          · rw [if_pos h3, if_pos (by omega)]
          · rw [if_neg h3]
            by_cases h4 : 57343 < r
            · rw [if_pos h4, if_pos (by omega)]
            · rw [if_neg (by omega), if_neg (by omega)]
      · rw [if_neg h1, if_neg (by omega)]
    · rw [if_neg h, if_neg (by omega)]
theorem r_j1 (k : Nat) (r : Int) (b : Bool) : marquetryref01_Class.j1 (k + 2) r b = some (if b = true then 2 else blank r) := by
  cases b with
  | true => simp only [marquetryref01_Class.j1, if_true]
  | false =>
    simp only [marquetryref01_Class.j1, Bool.false_eq_true, if_false, r_j2, if_true]
    unfold blank
    by_cases h : r = 32
    · rw [if_pos h, if_pos (by omega)]
    · rw [if_neg h]
      by_cases h2 : r = 9
      · rw [if_pos h2, if_pos (by omega)]
      · rw [if_neg h2]
        by_cases h3 : r = 10
        · rw [if_pos (by simpa using h3), if_pos (by omega)]
        · rw [if_neg (by simpa using h3), if_neg (by omega)]
theorem r_j0 (k : Nat) (r : Int) (b : Bool) : marquetryref01_Class.j0 (k + 3) r b = some (if b = true then 1 else digit r) := by
  cases b with
  | true => simp only [marquetryref01_Class.j0, if_true]
  | false =>
    simp only [marquetryref01_Class.j0, Bool.false_eq_true, if_false, r_j1]
    unfold digit
    by_cases h : 48 ≤ r
    · rw [if_pos h]
      by_cases h2 : r ≤ 57
      · rw [if_pos (by simpa using h2), if_pos ⟨h, h2⟩]
      · rw [if_neg (by simpa using h2), if_neg (by omega)]
    · rw [if_neg h, if_neg (by omega)]
theorem uF (k : Nat) (r : Int) : marquetryref01_Class.f (k + 3) r = some (classP r) := by
  unfold marquetryref01_Class.f classP
  simp only [r_j0, if_true, beq_iff_eq]
  by_cases h : (65 ≤ r ∧ r ≤ 90) ∨ (97 ≤ r ∧ r ≤ 122) ∨ r = 95
  · rw [if_pos h]
    by_cases h1 : 65 ≤ r
    · rw [if_pos h1]
      by_cases h2 : r ≤ 90
      · rw [if_pos h2]
      · rw [if_neg h2]
        by_cases h3 : 97 ≤ r
        · rw [if_pos h3, if_pos (by omega)]
        · rw [if_neg h3, if_pos (by omega)]
    · omega
  · rw [if_neg h]
    by_cases h1 : 65 ≤ r
    · rw [if_pos h1, if_neg (by omega)]
      by_cases h3 : 97 ≤ r
      · rw [if_pos h3, if_neg (by omega), if_neg (by omega)]
      · rw [if_neg h3, if_neg (by omega)]
    · rw [if_neg h1, if_neg (by omega), if_neg (by omega)]
/-- May a rune not stand in a text? -/
def badR (r : Int) : Prop := r = 65533 ∨ (r < 32 ∧ ¬ classP r = 3) ∨ r = 127
instance (r : Int) : Decidable (badR r) := by unfold badR; infer_instance
/-- runes.Decode, as a function. -/
def decodeP (s : ByteArray) : List Int × Int := if validD s.data.toList = true then (rl s s.size 0, 0) else ([], 4)
theorem wJ (s : ByteArray) (hs : s.size ≤ 1000000) (k : Nat) (hk : s.size + 10 ≤ k) : marquetryref01_Decode.f k s = some (decodeP s) := by
  rw [zL s hs k hk, aBZ]
  rfl
theorem wK (s : ByteArray) : ∀ (d pos : Nat), (rl s d pos).length ≤ d
  | 0, _ => Nat.le_refl _
  | d + 1, pos => by
    unfold rl
    split
    · have := wK s d (pos + (Utf8.decode s pos).2)
      rw [List.length_cons]
      omega
    · simp
/-- Is a rune right within a name (first: at its begin)? -/
def okR (first : Bool) (r : Int) : Bool := decide (classP r = 1) || (!first && (decide (classP r = 2) || decide (r = 39)))
/-- runes.Name's loop. -/
def nm (s : ByteArray) : Nat → Nat → Bool
  | 0, _ => true
  | f + 1, pos => if pos < s.size then (if okR (decide (pos = 0)) (Utf8.decode s pos).1 = true then nm s f (pos + (Utf8.decode s pos).2) else false) else true
def nameP (s : ByteArray) : Bool := decide (1 ≤ s.size ∧ s.size ≤ 32) && validD s.data.toList && nm s s.size 0
theorem aCQ {s : ByteArray} {f pos : Nat} (hp : pos < s.size) (h : okR (decide (pos = 0)) (Utf8.decode s pos).1 = true) : nm s (f + 1) pos = nm s f (pos + (Utf8.decode s pos).2) := by simp [nm, hp, h]
theorem aCz {s : ByteArray} {f pos : Nat} (hp : pos < s.size) (h : okR (decide (pos = 0)) (Utf8.decode s pos).1 = false) : nm s (f + 1) pos = false := by simp [nm, hp, h]
theorem aCA {s : ByteArray} {f pos : Nat} (hp : ¬ pos < s.size) : nm s f pos = true := by cases f <;> simp [nm, hp]
/-- The reference's loop over a list of runes. -/
def nl : Bool → List Int → Bool
  | _, [] => true
  | b, r :: t => if okR b r = true then nl false t else false
theorem aCc (b : Bool) (r : Int) (t : List Int) : nl b (r :: t) = if okR b r = true then nl false t else false := rfl
theorem aCt (s : ByteArray) : ∀ (d pos : Nat), nl (decide (pos = 0)) (rl s d pos) = nm s d pos
  | 0, _ => rfl
  | d + 1, pos => by
    unfold rl nm
    by_cases hp : pos < s.size
    · rw [if_pos hp, if_pos hp]
      unfold nl
      have hw := width_pos s pos
      have e : (false : Bool) = decide (pos + (Utf8.decode s pos).2 = 0) := by rw [decide_eq_false (by omega)]
      rw [e, aCt s d (pos + (Utf8.decode s pos).2)]
    · rw [if_neg hp, if_neg hp]
      unfold nl
      rfl
theorem uG (k : Nat) (r : Int) (hk : 3 ≤ k) : marquetryref01_Class.f k r = some (classP r) := by
  obtain ⟨j, rfl⟩ : ∃ j, k = j + 3 := ⟨k - 3, by omega⟩
  exact uF j r
theorem aCd (l : List Int) (hl : l.length ≤ 1000000) : ∀ (d i k : Nat), i ≤ l.length → l.length - i ≤ d → d + 5 ≤ k → marquetryref01_Name.l0 k l (i : Int) = some (nl (decide (i = 0)) (l.drop i)) := by
  intro d
  induction d with
  | zero =>
    intro i k h1 h2 hk
    obtain ⟨k, rfl⟩ : ∃ m, k = m + 1 := ⟨k - 1, by omega⟩
    simp only [marquetryref01_Name.l0]
    rw [if_neg (by omega), List.drop_eq_nil_of_le (by omega)]
    simp [nl]
  | succ d ih =>
    intro i k h1 h2 hk
    obtain ⟨k, rfl⟩ : ∃ m, k = m + 1 := ⟨k - 1, by omega⟩
    simp only [marquetryref01_Name.l0]
    by_cases hi : i < l.length
    · have hd : l.drop i = rd l (i : Int) :: l.drop (i + 1) := by
        rw [List.drop_eq_getElem_cons hi]
        simp [rd, List.getD, hi]
      rw [if_pos (by omega), if_pos (by omega), uG k _ (by omega), hd]
      simp only [Option.bind_some]
      rw [w64s i (by omega), ih (i + 1) k (by omega) (by omega) (by omega)]
      clear ih hd
      generalize rd l (i : Int) = r
      rw [aCc, decide_eq_false (show ¬ (i + 1 = 0) by omega)]
      unfold okR
      by_cases c1 : classP r = 1
      · simp [c1]
      · by_cases h0 : i = 0
        · subst h0
          simp [c1]
        · by_cases c2 : classP r = 2
          · have : ¬ (i : Int) = 0 := by omega
            simp [c1, c2, h0]
          · have : ¬ (i : Int) = 0 := by omega
            by_cases c3 : r = 39
            · simp [c1, c2, c3, h0]
            · simp [c1, c2, c3, h0]
    · rw [if_neg (by omega), List.drop_eq_nil_of_le (by omega)]
      simp [nl]
theorem aCe (s : ByteArray) (hs : s.size ≤ 1000000) : marquetryref01_Name.f (s.size + 12) s = some (nameP s) := by
  unfold marquetryref01_Name.f nameP
  rw [wJ s hs _ (by omega)]
  simp only [Option.bind_some]
  cases hv : validD s.data.toList with
  | false =>
    have h2 : (decodeP s).2 = 4 := by unfold decodeP; rw [hv]; rfl
    rw [h2, if_neg (by decide)]
    simp [marquetryref01_Name.j0]
  | true =>
    have h1 : (decodeP s).1 = rl s s.size 0 := by unfold decodeP; rw [hv]; rfl
    have h2 : (decodeP s).2 = 0 := by unfold decodeP; rw [hv]; rfl
    rw [h1, h2, if_pos rfl]
    by_cases h0 : (s.size : Int) < 1
    · rw [if_pos h0, decide_eq_false (by omega)]
      simp [marquetryref01_Name.j0]
    · rw [if_neg h0]
      by_cases h3 : (s.size : Int) > 32
      · rw [decide_eq_true h3, decide_eq_false (by omega)]
        simp [marquetryref01_Name.j0]
      · rw [decide_eq_false h3, decide_eq_true (by omega)]
        simp only [marquetryref01_Name.j0, Bool.false_eq_true, if_false, Bool.true_and]
        have hn := aCd (rl s s.size 0) (by have := wK s s.size 0; omega) s.size 0 (s.size + 11) (by omega) (by have := wK s s.size 0; omega) (by omega)
        have e : ((0 : Nat) : Int) = 0 := rfl
        rw [e] at hn
        rw [hn, List.drop_zero, aCt s s.size 0]
theorem ext_list (s : ByteArray) (a b : Nat) : (s.extract a b).data.toList = (s.data.toList.drop a).take (b - a) := by
  simp [ByteArray.data_extract, Array.toList_extract, List.extract_eq_take_drop]
theorem zM (s : ByteArray) (P : Nat) : (s.extract P s.size).data.toList = s.data.toList.drop P := by
  rw [ext_list]
  have h2 : s.data.toList.length = s.size := Array.length_toList
  rw [List.take_of_length_le (by rw [List.length_drop]; omega)]
end Go.Proofs.YtdajnmffoopcaaaGreatDoor.RP
namespace Go.Proofs.YtdajnmffoopcaaaGreatDoor.RW
set_option linter.unusedVariables false
set_option linter.unusedSimpArgs false
open Go.RowKit Go.Lib Go.Proofs.YtdajnmffoopcaaaGreatDoorW.PrintWords Go.Proofs.YtdajnmffoopcaaaGreatDoorW.PrintLast Go.Proofs.YtdajnmffoopcaaaGreatDoorW.PrintMore Go.Proofs.YtdajnmffoopcaaaGreatDoor.RP Go.Proofs.YtdajnmffoopcaaaGreatDoor.PAll
def Tabs (w : World) : Prop := Lib.Utf8Tabs (Tryz.laysValid_ren.g 3) (Tryz.laysValid_ren.g 4) w
theorem uH {a b : Bool} (h : a = b) : Ending.returned (.bool a) = .returned (.bool b) := by rw [h]
theorem ext_all (s : ByteArray) : s.extract 0 s.size = s := by
  apply ByteArray.ext
  simp
theorem wL {w w1 : World} (hb : Below w.heap.size w w1) (s : ByteArray) (p : Nat) : Below w.heap.size w (w1.iter s p) := hb.alloc hb.size _
/-- One step of the iterator in block k: a world that is as it was, but for that block. -/
theorem zN {P : Program} {w wr : World} {k : Nat} {s : ByteArray} {pos : Nat} (hk : wr.heap[k]? = some (.stringIter s pos)) (hp : pos < s.size) (hw : w.heap.size ≤ k) (hb : Below w.heap.size w wr) :
    ∃ W2 : World, (∀ ty, (Instr.next (.pointer (some ⟨k, 0, none⟩)) true ty).run P wr = .ok (.tuple #[.bool true, .int .i64 pos, .int .i32 (Utf8.decode s pos).1]) W2) ∧
      (∀ j, j ≠ k → W2.heap[j]? = wr.heap[j]?) ∧ W2.heap[k]? = some (.stringIter s (pos + (Utf8.decode s pos).2)) ∧ W2.heap.size = wr.heap.size ∧ Below w.heap.size w W2 :=
  ⟨wr.iterAt k s (pos + (Utf8.decode s pos).2), fun ty => run_next_any_at wr k s pos ty hk hp, fun j hj => iterAt_other wr k j s _ hj, iterAt_heap wr k s pos _ hk, iterAt_size wr k s _, below_iterAt hb hw s _⟩
theorem aAW {w1 : World} (s : ByteArray) (p : Nat) : (w1.iter s p).heap[w1.heap.size]? = some (.stringIter s p) := by simp [World.iter_heap]
theorem zO (r : Int) (w : World) : Calls Tryz.prog 104 #[.int .i32 r] w fun e w' => e = .returned (.int .i64 (classP r)) ∧ Drawn0 w w' :=
  runes_Class.calls 5 r _ w (aAV 0 r)
theorem wM (s : ByteArray) (w : World) (h : s.toList = []) :
    Calls Tryz.prog 98 #[.string s] w fun e w' => e = .returned (.bool false) ∧ Below w.heap.size w w' := by
  have h2 : s.toList.isEmpty = true := by rw [h]; rfl
  go_enter Tryz.func98, Tryz.ntmps98
  go_wp2
  go_ret
  exact ⟨rfl, Below.refl _ _⟩
theorem zP (s : ByteArray) (w : World) (hs : s.size ≤ 1000000) (h : s.toList.isEmpty = false) (h2 : 32 < (s.size : Int)) :
    Calls Tryz.prog 98 #[.string s] w fun e w' => e = .returned (.bool false) ∧ Below w.heap.size w w' := by
  go_enter Tryz.func98, Tryz.ntmps98
  go_wp2
  go_ret
  exact ⟨rfl, Below.refl _ _⟩
theorem zQ (s : ByteArray) (w : World) (hs : s.size ≤ 1000000) (hT : Tabs w) (h : s.toList.isEmpty = false) (h2 : (s.size : Int) ≤ 32) (hv : validD s.data.toList = false) :
    Calls Tryz.prog 98 #[.string s] w fun e w' => e = .returned (.bool false) ∧ Below w.heap.size w w' := by
  have cV := Any.utf8_ValidString Tryz.laysValid s w (by omega) hT
  rw [hv] at cV
  clear hv hT
  go_enter Tryz.func98, Tryz.ntmps98
  go_wp2_with (go_at_call 103; refine cV.mono ?_; rintro e w1 ⟨rfl, hb⟩)
  go_ret
  exact ⟨rfl, hb⟩
theorem ok1 {r : Int} {b : Bool} (h : (classP r == 1) = true) : okR b r = true := by
  unfold okR; simp only [beq_iff_eq] at h; simp [h]
theorem ok2 {r : Int} {pos : Nat} (h : (classP r == 2) = true) (h0 : ((pos : Int) == 0) = false) : okR (decide (pos = 0)) r = true := by
  have : ¬ pos = 0 := by simp only [beq_eq_false_iff_ne] at h0; omega
  unfold okR; simp only [beq_iff_eq] at h; simp [h, this]
theorem ok3 {r : Int} {pos : Nat} (h : ((pos : Int) == 0) = false ∧ (r != 39) = false) : okR (decide (pos = 0)) r = true := by
  have : ¬ pos = 0 := by have h0 := h.1; simp only [beq_eq_false_iff_ne] at h0; omega
  have h2 := h.2
  simp only [bne_eq_false_iff_eq] at h2
  unfold okR; simp [h2, this]
theorem no1 {r : Int} {pos : Nat} (c1 : (classP r == 1) = false) (c2 : (classP r == 2) = true) (h0 : ((pos : Int) == 0) = true) : okR (decide (pos = 0)) r = false := by
  have : pos = 0 := by simp only [beq_iff_eq] at h0; omega
  simp only [beq_eq_false_iff_ne] at c1
  unfold okR; simp [c1, this]
theorem no2 {r : Int} {pos : Nat} (c1 : (classP r == 1) = false) (c2 : (classP r == 2) = false) (h0 : pos = 0) : okR (decide (pos = 0)) r = false := by
  simp only [beq_eq_false_iff_ne] at c1
  unfold okR; simp [c1, h0]
theorem no3 {r : Int} {pos : Nat} (c1 : (classP r == 1) = false) (c2 : (classP r == 2) = false) (h : ((pos : Int) == 0) = true ∨ (r != 39) = true) : okR (decide (pos = 0)) r = false := by
  simp only [beq_eq_false_iff_ne] at c1 c2
  rcases h with h | h
  · have : pos = 0 := by simp only [beq_iff_eq] at h; omega
    unfold okR; simp [c1, this]
  · simp only [bne_iff_ne] at h
    unfold okR; simp [c1, c2, h]
theorem toList_eq (s : ByteArray) : s.toList = s.data.toList := by
  have h := ByteArray.toList_mk s.data.toList
  have e : (ByteArray.mk s.data.toList.toArray) = s := by cases s; simp
  rw [e] at h
  exact h
theorem uI (s : ByteArray) : s.toList.length = s.size := by
  rw [toList_eq]
  exact Array.length_toList
theorem aCf (s : ByteArray) (w : World) (hs : s.size ≤ 1000000) (hT : Tabs w) (h : s.toList.isEmpty = false) (h2 : (s.size : Int) ≤ 32) (hv : validD s.data.toList = true) :
    Calls Tryz.prog 98 #[.string s] w fun e w' => e = .returned (.bool (nm s s.size 0)) ∧ Below w.heap.size w w' := by
  have cV := Any.utf8_ValidString Tryz.laysValid s w (by omega) hT
  rw [hv] at cV
  clear hv hT
  go_enter Tryz.func98, Tryz.ntmps98
  go_wp2_with (go_at_call 103; refine cV.mono ?_; rintro e w1 ⟨rfl, hb⟩)
  have HBs := Aside0.mk hb.size
  go_loopg [3] (s.size + 1) (fun gk v3 wr => ∃ (f pos : Nat), gk = f + 1 ∧ Aside0 (Below w.heap.size w wr) ∧ Aside0 (wr.heap[w1.heap.size]? = some (.stringIter s pos)) ∧ Aside0 (nm s f pos = nm s s.size 0 ∧ s.size ≤ pos + f))
  case atStart => exact ⟨s.size, 0, rfl, ⟨wL hb _ _⟩, ⟨aAW s 0⟩, ⟨rfl, by omega⟩⟩
  case round =>
    obtain ⟨f, pos, rfl, HB, HI, HA⟩ := hrel
    by_cases hp : pos < s.size
    · obtain ⟨W2, hnx, hm, hi, hz, hb2⟩ := zN (P := Tryz.prog) HI.out hp HBs.out HB.out
      have HB2 := Aside0.mk hb2
      have HI2 := Aside0.mk hi
      clear hm hi hz hb2 HI HB
      have hwd := width_pos s pos
      obtain ⟨f, rfl⟩ : ∃ f', f = f' + 1 := ⟨f - 1, by have := HA.out.2; omega⟩
      go_wp2_with (go_at_call 104; refine (zO _ _).mono ?_; rintro e w3 ⟨rfl, ⟨nd, rfl⟩⟩)
      all_goals first
        | (go_ret; exact ⟨uH ((aCz hp (by first | exact no1 ‹_› ‹_› ‹_› | exact no2 ‹_› ‹_› ‹_› | exact no3 ‹_› ‹_› ‹_›)).symm.trans HA.out.1), by repeat (first | exact HB2.out | apply bR)⟩)
        | (go_roundg (f + 1)
           case measure => omega
           case rel => exact ⟨f, pos + (Utf8.decode s pos).2, rfl, ⟨by repeat (first | exact HB2.out | apply bR)⟩, ⟨HI2.out⟩, ⟨(aCQ hp (by first | exact ok1 ‹_› | exact ok2 ‹_› ‹_› | exact ok3 ‹_›)).symm.trans HA.out.1, by have := HA.out.2; omega⟩⟩)
    · have hnx : ∀ ty, (Instr.next (.pointer (some ⟨w1.heap.size, 0, none⟩)) true ty).run Tryz.prog wr = _ := fun ty => run_next_end_at wr _ s pos ty HI.out hp
      go_wp2
      go_ret
      exact ⟨uH ((aCA hp).symm.trans HA.out.1), HB.out⟩
theorem aAX (s : ByteArray) (w : World) (hs : s.size ≤ 1000000) (hT : Tabs w) :
    Calls Tryz.prog 98 #[.string s] w fun e w' => e = .returned (.bool (nameP s)) ∧ Below w.heap.size w w' := by
  have hz := uI s
  unfold nameP
  by_cases h0 : s.toList = []
  · rw [h0] at hz
    simp only [List.length_nil] at hz
    rw [decide_eq_false (by omega), Bool.false_and, Bool.false_and]
    exact wM s w h0
  · have he : s.toList.isEmpty = false := by simpa using h0
    have h1 : 0 < s.toList.length := List.length_pos_iff.2 h0
    by_cases h2 : 32 < (s.size : Int)
    · rw [decide_eq_false (by omega), Bool.false_and, Bool.false_and]
      exact zP s w hs he h2
    · rw [decide_eq_true (by omega), Bool.true_and]
      cases hv : validD s.data.toList with
      | false => exact zQ s w hs hT he (by omega) hv
      | true => exact aCf s w hs hT he (by omega) hv
end Go.Proofs.YtdajnmffoopcaaaGreatDoor.RW
namespace Go.Proofs.YtdajnmffoopcaaaGreatDoor.RP
set_option linter.unusedVariables false
set_option linter.unusedSimpArgs false
open Go.RowKit Go.Lib Go.Proofs.YtdajnmffoopcaaaGreatDoorW.PrintWords Go.Proofs.YtdajnmffoopcaaaGreatDoorW.PrintLast Go.Proofs.YtdajnmffoopcaaaGreatDoorW.PrintMore
/-- A rune that may be written. -/
def goodR (r : Int) : Prop := 0 ≤ r ∧ r ≤ 1114111 ∧ (r < 55296 ∨ 57343 < r)
def Good (l : List Int) : Prop := ∀ r, r ∈ l → goodR r
/-- Runes of a text that may be read. -/
def TextL (l : List Int) : Prop := ∀ r, r ∈ l → goodR r ∧ ¬ badR r
theorem TextL.drop {l : List Int} (h : TextL l) (n : Nat) : TextL (l.drop n) := fun x hx => h x (List.mem_of_mem_drop hx)
theorem TextL.take {l : List Int} (h : TextL l) (n : Nat) : TextL (l.take n) := fun x hx => h x (List.mem_of_mem_take hx)
theorem Good.drop {l : List Int} (h : Good l) (n : Nat) : Good (l.drop n) := fun x hx => h x (List.mem_of_mem_drop hx)
theorem Good.take {l : List Int} (h : Good l) (n : Nat) : Good (l.take n) := fun x hx => h x (List.mem_of_mem_take hx)
theorem TextL.append {a b : List Int} (h : TextL a) (k : TextL b) : TextL (a ++ b) := fun x hx => by
  rcases List.mem_append.1 hx with hx | hx
  · exact h x hx
  · exact k x hx
theorem rW {a b : ByteArray} (h : a.data.toList = b.data.toList) : a = b := by
  apply ByteArray.ext
  apply Array.ext'
  exact h
theorem fE (a : ByteArray) : a.data.toList.length = a.size := Array.length_toList
instance : DecidableEq ByteArray := fun a b => decidable_of_iff (a.data.toList = b.data.toList) ⟨rW, fun h => by rw [h]⟩
instance (a : ByteArray) (l : List ByteArray) : Decidable (a ∈ l) := decidable_of_iff (l.any (fun x => decide (x = a)) = true) (by
  rw [List.any_eq_true]
  exact ⟨fun ⟨x, h, e⟩ => by rw [← of_decide_eq_true e]; exact h, fun h => ⟨a, h, decide_eq_true rfl⟩⟩)
end Go.Proofs.YtdajnmffoopcaaaGreatDoor.RP
namespace Go.Proofs.YtdajnmffoopcaaaGreatDoor.RP
set_option linter.unusedVariables false
set_option linter.unusedSimpArgs false
open Go.RowKit Go.Lib Go.Proofs.YtdajnmffoopcaaaGreatDoorW.PrintWords Go.Proofs.YtdajnmffoopcaaaGreatDoorW.PrintLast Go.Proofs.YtdajnmffoopcaaaGreatDoorW.PrintMore Go.Proofs.YtdajnmffoopcaaaGreatDoor.PAll
theorem toListB (s : ByteArray) : s.toList = s.data.toList := by
  have h := ByteArray.toList_mk s.data.toList
  have e : (ByteArray.mk s.data.toList.toArray) = s := by cases s; simp
  rw [e] at h
  exact h
theorem gG {a b : ByteArray} : a.toList = b.toList ↔ a = b := by
  rw [toListB, toListB]
  exact ⟨rW, fun h => by rw [h]⟩
def wordsL : List ByteArray := (lexer_words.f).getD []
theorem zR : lexer_words.f = some wordsL := rfl
def wordB (s : ByteArray) : Bool := decide (s ∈ wordsL)
theorem aAY (l : List ByteArray) (a : ByteArray) (hl : l.length ≤ 1000000) : ∀ (d i k : Nat), i ≤ l.length → l.length - i ≤ d → d + 1 ≤ k →
    ∃ z, slices_Index_string_string.l0 k l a (l.length : Int) (i : Int) = some z ∧ (0 ≤ z ↔ a ∈ l.drop i) := by
  intro d
  induction d with
  | zero =>
    intro i k h1 h2 hk
    obtain ⟨k, rfl⟩ : ∃ m, k = m + 1 := ⟨k - 1, by omega⟩
    simp only [slices_Index_string_string.l0]
    rw [if_neg (by omega), List.drop_eq_nil_of_le (by omega)]
    exact ⟨-1, rfl, by simp⟩
  | succ d ih =>
    intro i k h1 h2 hk
    obtain ⟨k, rfl⟩ : ∃ m, k = m + 1 := ⟨k - 1, by omega⟩
    simp only [slices_Index_string_string.l0]
    by_cases hi : i < l.length
    · have hd : l.drop i = rdOf ByteArray.empty l (i : Int) :: l.drop (i + 1) := by
        rw [List.drop_eq_getElem_cons hi]
        simp [rdOf, List.getD, hi]
      rw [if_pos (by omega), if_pos (by omega), if_pos (by omega), hd]
      by_cases he : a = rdOf ByteArray.empty l (i : Int)
      · rw [if_pos (gG.2 he)]
        exact ⟨_, rfl, ⟨fun _ => by rw [← he]; exact List.mem_cons_self, fun _ => by omega⟩⟩
      · rw [if_neg (fun h => he (gG.1 h)), w64s i (by omega)]
        obtain ⟨z, hz, hm⟩ := ih (i + 1) k (by omega) (by omega) (by omega)
        exact ⟨z, hz, hm.trans ⟨fun h => List.mem_cons_of_mem _ h, fun h => (List.mem_cons.1 h).resolve_left he⟩⟩
    · rw [if_neg (by omega), List.drop_eq_nil_of_le (by omega)]
      exact ⟨-1, rfl, by simp⟩
theorem uJ (l : List ByteArray) (a : ByteArray) (hl : l.length ≤ 1000000) : slices_Contains_string_string.f (l.length + 1) l a = some (decide (a ∈ l)) := by
  unfold slices_Contains_string_string.f slices_Index_string_string.f
  obtain ⟨z, hz, hm⟩ := aAY l a hl l.length 0 (l.length + 1) (by omega) (by omega) (by omega)
  have e : (((0 : Nat)) : Int) = 0 := rfl
  rw [e] at hz
  rw [hz]
  simp only [Option.bind_some, List.drop_zero] at hm ⊢
  rw [decide_eq_decide.2 hm]
theorem aCg (s : ByteArray) : lexer_Word.f (wordsL.length + 1) s = some (wordB s) := by
  unfold lexer_Word.f
  rw [zR]
  simp only [Option.bind_some]
  rw [uJ wordsL s (by decide)]
  rfl
theorem uK : marquetryref02_Words.f = some wordsL := rfl
theorem wN (l : List ByteArray) (a : ByteArray) (hl : l.length ≤ 1000000) : ∀ (d i k : Nat), i ≤ l.length → l.length - i ≤ d → d + 1 ≤ k →
    marquetryref02_Word.l0 k a l (i : Int) = some (decide (a ∈ l.drop i)) := by
  intro d
  induction d with
  | zero =>
    intro i k h1 h2 hk
    obtain ⟨k, rfl⟩ : ∃ m, k = m + 1 := ⟨k - 1, by omega⟩
    simp only [marquetryref02_Word.l0]
    rw [if_neg (by omega), List.drop_eq_nil_of_le (by omega)]
    simp
  | succ d ih =>
    intro i k h1 h2 hk
    obtain ⟨k, rfl⟩ : ∃ m, k = m + 1 := ⟨k - 1, by omega⟩
    simp only [marquetryref02_Word.l0]
    by_cases hi : i < l.length
    · have hd : l.drop i = rdOf ByteArray.empty l (i : Int) :: l.drop (i + 1) := by
        rw [List.drop_eq_getElem_cons hi]
        simp [rdOf, List.getD, hi]
      rw [if_pos (by omega), if_pos (by omega), hd]
      by_cases he : rdOf ByteArray.empty l (i : Int) = a
      · rw [if_pos (gG.2 he), decide_eq_true (by rw [he]; exact List.mem_cons_self)]
      · rw [if_neg (fun h => he (gG.1 h)), w64s i (by omega), ih (i + 1) k (by omega) (by omega) (by omega)]
        congr 1
        exact decide_eq_decide.2 ⟨fun h => List.mem_cons_of_mem _ h, fun h => (List.mem_cons.1 h).resolve_left (fun h => he h.symm)⟩
    · rw [if_neg (by omega), List.drop_eq_nil_of_le (by omega)]
      simp
theorem wO (s : ByteArray) : marquetryref02_Word.f (wordsL.length + 1) s = some (wordB s) := by
  unfold marquetryref02_Word.f
  rw [uK]
  simp only [Option.bind_some]
  have := wN wordsL s (by decide) wordsL.length 0 (wordsL.length + 1) (by omega) (by omega) (by omega)
  rw [List.drop_zero] at this
  exact this
def nameB (w : ByteArray) : Bool := nameP w && !wordB w
end Go.Proofs.YtdajnmffoopcaaaGreatDoor.RP
namespace Go.Proofs.YtdajnmffoopcaaaGreatDoor.RP
set_option linter.unusedVariables false
set_option linter.unusedSimpArgs false
open Go.RowKit Go.Lib Go.Proofs.YtdajnmffoopcaaaGreatDoorW.PrintWords Go.Proofs.YtdajnmffoopcaaaGreatDoorW.PrintLast Go.Proofs.YtdajnmffoopcaaaGreatDoorW.PrintMore Go.Proofs.YtdajnmffoopcaaaGreatDoor.RP Go.Proofs.YtdajnmffoopcaaaGreatDoor.RW Go.Proofs.YtdajnmffoopcaaaGreatDoor.PAll
def consHead (b : UInt8) : List (List UInt8) → List (List UInt8)
  | [] => [[b]]
  | p :: r => (b :: p) :: r
def pcs : List UInt8 → List (List UInt8)
  | [] => [[]]
  | b :: t => if b = 46 then [] :: pcs t else consHead b (pcs t)
theorem wP (l : List UInt8) : pcs l ≠ [] := by
  cases l with
  | nil => simp [pcs]
  | cons b t =>
    rw [pcs]
    split
    · simp
    · cases pcs t <;> simp [consHead]
theorem rX : ∀ (a c : List UInt8), pcs (a ++ 46 :: c) = pcs a ++ pcs c
  | [], c => rfl
  | b :: a, c => by
    rw [List.cons_append, pcs, pcs, rX a c]
    split
    · rfl
    · cases hp : pcs a with
      | nil => exact absurd hp (wP a)
      | cons x r => rfl
theorem hE : ∀ (a : List UInt8), (46 : UInt8) ∉ a → pcs a = [a]
  | [], _ => rfl
  | b :: a, h => by
    rw [pcs, if_neg (fun e => h (by rw [e]; exact List.mem_cons_self)), hE a (fun hm => h (List.mem_cons_of_mem _ hm))]
    rfl
def mkB (l : List UInt8) : ByteArray := ⟨l.toArray⟩
theorem lK (s : ByteArray) : mkB s.data.toList = s := by cases s; simp [mkB]
theorem aAZ (l : List UInt8) : (mkB l).size = l.length := by rw [← fE]; rfl
def pcsB (s : ByteArray) : List ByteArray := (pcs s.data.toList).map mkB
abbrev dotB : ByteArray := ⟨#[46]⟩
theorem lZ (s : ByteArray) : indexB s dotB = indexByte s.data.toList 46 := by
  have := one s dotB rfl
  exact this
theorem uL : ∀ (n : Nat) (s : ByteArray), s.size ≤ n → Lib.splitB dotB 0 (Lib.countB s dotB) s = pcsB s := by
  intro n
  induction n with
  | zero =>
    intro s hs
    rcases indexB_cases s dotB with h | ⟨i, h1, h2⟩
    · rw [splitB_miss _ _ _ _ h]
      have hn : (46 : UInt8) ∉ s.data.toList := fun hm => by
        obtain ⟨k, hk⟩ := List.getElem?_of_mem hm
        exact indexByte_none (by rw [← lZ]; exact h) k hk
      unfold pcsB
      rw [hE _ hn]; simp [lK]
    · exfalso
      have : dotB.size = 1 := rfl
      omega
  | succ n ih =>
    intro s hs
    rcases indexB_cases s dotB with h | ⟨i, h1, h2⟩
    · rw [splitB_miss _ _ _ _ h]
      have hn : (46 : UInt8) ∉ s.data.toList := fun hm => by
        obtain ⟨k, hk⟩ := List.getElem?_of_mem hm
        exact indexByte_none (by rw [← lZ]; exact h) k hk
      unfold pcsB
      rw [hE _ hn]; simp [lK]
    · have hd : dotB.size = 1 := rfl
      rw [countB_hit s dotB i (by omega) h1, show 1 + Lib.countB (s.extract (i + dotB.size) s.size) dotB = Lib.countB (s.extract (i + dotB.size) s.size) dotB + 1 by omega, splitB_hit _ _ _ _ i h1, hd]
      rw [ih (s.extract (i + 1) s.size) (by rw [ByteArray.size_extract]; omega)]
      obtain ⟨g1, g2⟩ := indexByte_some (l := s.data.toList) (c := 46) (o := i) (by rw [← lZ]; exact h1)
      have hlt : i < s.data.toList.length := (List.getElem?_eq_some_iff.1 g1).1
      have e : s.data.toList = s.data.toList.take i ++ 46 :: s.data.toList.drop (i + 1) := by
        conv => lhs; rw [← List.take_append_drop i s.data.toList]
        rw [List.drop_eq_getElem_cons hlt]
        have : s.data.toList[i] = 46 := by rw [List.getElem?_eq_getElem hlt] at g1; exact Option.some.inj g1
        rw [this]
      have hn : (46 : UInt8) ∉ s.data.toList.take i := fun hm => by
        obtain ⟨k, hk⟩ := List.getElem?_of_mem hm
        have hki : k < i := by have := (List.getElem?_eq_some_iff.1 hk).1; rw [List.length_take] at this; omega
        rw [List.getElem?_take_of_lt hki] at hk
        exact g2 k hki hk
      unfold pcsB
      conv => rhs; rw [e, rX, hE _ hn]
      rw [List.map_append, List.map_singleton, List.singleton_append, Nat.add_zero]
      congr 1
      · apply rW; rw [ext_list]; simp [mkB]
      · rw [zM]
def longP (s : ByteArray) : Bool := decide (s.size ≤ 128) && (pcsB s).all nameB
def splitP (s : ByteArray) : List ByteArray := if longP s = true then pcsB s else []
theorem qR (s : ByteArray) : longP s = true ↔ s.size ≤ 128 ∧ ∀ p ∈ pcsB s, nameB p = true := by
  unfold longP; simp [List.all_eq_true]
end Go.Proofs.YtdajnmffoopcaaaGreatDoor.RP
namespace Go.Proofs.YtdajnmffoopcaaaGreatDoor.Ab
set_option linter.unusedVariables false
set_option linter.unusedSimpArgs false
open Go.RowKit Go.Lib Go.Proofs.YtdajnmffoopcaaaGreatDoorW.PrintWords Go.Proofs.YtdajnmffoopcaaaGreatDoorW.PrintLast Go.Proofs.YtdajnmffoopcaaaGreatDoorW.PrintMore Go.Proofs.YtdajnmffoopcaaaGreatDoor.RP Go.Proofs.YtdajnmffoopcaaaGreatDoor.RW Go.Proofs.YtdajnmffoopcaaaGreatDoor.PAll
theorem gH {P : Program} {f : FuncId} {l : List Value} {r : Value} (he : Enters P f) (h1 : r.oneCell' = true)
    (h : ∀ w M, Amb w M → Calls P f l.toArray w fun e w' => e = .returned r ∧ Below w.heap.size w w') : ACalls P f (l.map fun v => .imm (.lit v)) [] (.imm (.lit r)) [] := by
  have := qG (P := P) (f := f) (args := l.map .lit) (r := .lit r) he (fun w M vs ha hv => by
    rw [lB hv]
    exact (h w M ha).mono fun e w' ⟨h2, h3⟩ => ⟨r, h2, h3, oE h1⟩)
  rw [List.map_map] at this
  exact this
theorem aBa {w : World} {M : Nat → Prop} (h : Amb w M) : Tabs w := h.tabs
theorem aCB (s : ByteArray) : ACalls Tryz.prog 99 [.imm (.lit (.string s))] [] (.imm (.lit (.bool (wordB s)))) [] :=
  gH (l := [.string s]) ⟨_, Tryz.func99, rfl, rfl⟩ rfl (fun w M ha => lexer_Word.calls _ s _ w (aCg s))
theorem zS (s : ByteArray) : ACalls Tryz.prog 111 [.imm (.lit (.string s))] [] (.imm (.lit (.bool (wordB s)))) [] :=
  gH (l := [.string s]) ⟨_, Tryz.func111, rfl, rfl⟩ rfl (fun w M ha => marquetryref02_Word.calls _ s _ w (wO s))
end Go.Proofs.YtdajnmffoopcaaaGreatDoor.Ab
namespace Go.Proofs.YtdajnmffoopcaaaGreatDoor.Ab
set_option linter.unusedVariables false
set_option linter.unusedSimpArgs false
open Go.RowKit Go.Lib Go.Proofs.YtdajnmffoopcaaaGreatDoorW.PrintWords Go.Proofs.YtdajnmffoopcaaaGreatDoorW.PrintLast Go.Proofs.YtdajnmffoopcaaaGreatDoorW.PrintMore Go.Proofs.YtdajnmffoopcaaaGreatDoor.RP Go.Proofs.YtdajnmffoopcaaaGreatDoor.RW Go.Proofs.YtdajnmffoopcaaaGreatDoor.PAll
attribute [local irreducible] AWP AOps AExit AThen ABlock ANoGoto FeetOk
theorem hG (l : List ByteArray) (j : Nat) (h : j < l.length) : (strs l)[j * 1]? = some (.lit (.string l[j])) := by unfold strs; simp [h]
end Go.Proofs.YtdajnmffoopcaaaGreatDoor.Ab
namespace Go.Proofs.YtdajnmffoopcaaaGreatDoor.Ab
set_option linter.unusedVariables false
set_option linter.unusedSimpArgs false
open Go.RowKit Go.Lib Go.Proofs.YtdajnmffoopcaaaGreatDoorW.PrintWords Go.Proofs.YtdajnmffoopcaaaGreatDoorW.PrintLast Go.Proofs.YtdajnmffoopcaaaGreatDoorW.PrintMore Go.Proofs.YtdajnmffoopcaaaGreatDoor.RP Go.Proofs.YtdajnmffoopcaaaGreatDoor.RW Go.Proofs.YtdajnmffoopcaaaGreatDoor.PAll
theorem uM (s : ByteArray) (hs : s.size ≤ 1000000) : ACalls Tryz.prog 98 [.imm (.lit (.string s))] [] (.imm (.lit (.bool (nameP s)))) [] :=
  gH (l := [.string s]) ⟨_, Tryz.func98, rfl, rfl⟩ rfl (fun w M ha => aAX s w hs (aBa ha))
theorem zT (s : ByteArray) (hs : s.size ≤ 1000000) : ACalls Tryz.prog 110 [.imm (.lit (.string s))] [] (.imm (.lit (.bool (nameP s)))) [] :=
  gH (l := [.string s]) ⟨_, Tryz.func110, rfl, rfl⟩ rfl (fun w M ha => marquetryref01_Name.calls _ s _ w (aCe s hs))
theorem xO : ∀ l : List UInt8, (pcs l).length ≤ l.length + 1
  | [] => Nat.le_refl _
  | b :: t => by
    have := xO t
    rw [pcs]
    split
    · simp only [List.length_cons]; omega
    · cases hp : pcs t with
      | nil => simp [consHead]
      | cons x r => rw [hp] at this; simp only [consHead, List.length_cons] at this ⊢; omega
theorem jG (s : ByteArray) : (pcsB s).length ≤ s.size + 1 := by
  unfold pcsB; rw [List.length_map, ← fE]; exact xO _
theorem xP (s : ByteArray) (hs : s.size ≤ 1000000) : ACalls Tryz.prog 95 [.imm (.lit (.string s)), .imm (.lit (.string dotB))] [] (.imm (.sl false (pcsB s).length (strs (pcsB s)))) [] :=
  qG (args := [.lit (.string s), .lit (.string dotB)]) (r := .sl false (pcsB s).length (strs (pcsB s))) ⟨_, Tryz.func95, rfl, rfl⟩ (fun w M vs ha hv => by
    obtain ⟨v, us, rfl, h1, h2⟩ := lU hv
    obtain ⟨v2, us, rfl, h3, h4⟩ := lU h2
    rw [rG h1, rG h3, tE h4]
    obtain ⟨m, hm⟩ := ha.most
    have hl := jG s
    have hc : Lib.countB s dotB + 1 = (pcsB s).length := by
      rw [← uL s.size s (Nat.le_refl _), splitB_all dotB (by decide) 0 _ s rfl]
    refine (Tryz.strings_Split s dotB m w (by omega) hm (by decide)).mono fun e w' ⟨he, hw⟩ => ⟨_, he, ?_, ?_⟩
    · rw [hw]; exact below_alloc _
    · rw [hc, uL s.size s (Nat.le_refl _)] at *
      subst hw
      exact rH (cells := ((pcsB s).map Value.string).toArray) (T := 9) (fz := (0, 0)) (by show (w.heap.push _)[w.heap.size]? = _; simp) (Nat.le_refl _) (by rw [List.take_of_length_le (by simp)]) (Nat.le_refl _) (by unfold slMax; omega))
end Go.Proofs.YtdajnmffoopcaaaGreatDoor.Ab
namespace Go.Proofs.YtdajnmffoopcaaaGreatDoor.Ab
set_option linter.unusedVariables false
set_option linter.unusedSimpArgs false
open Go.RowKit Go.Lib Go.Proofs.YtdajnmffoopcaaaGreatDoorW.PrintWords Go.Proofs.YtdajnmffoopcaaaGreatDoorW.PrintLast Go.Proofs.YtdajnmffoopcaaaGreatDoorW.PrintMore Go.Proofs.YtdajnmffoopcaaaGreatDoor.RP Go.Proofs.YtdajnmffoopcaaaGreatDoor.RW Go.Proofs.YtdajnmffoopcaaaGreatDoor.PAll
attribute [local irreducible] AWP AOps AExit AThen ABlock ANoGoto FeetOk
set_option maxHeartbeats 4000000 in
set_option maxRecDepth 10000 in
theorem aBb (s : ByteArray) (hs : s.size ≤ 1000000) : ACalls Tryz.prog 93 [.imm (.lit (.string s))] [] (.imm (.lit (.bool (nameB s)))) [] := by
  have c1 := uM s hs
  have c2 := aCB s
  unfold nameB
  refine aJ Tryz.func93 rfl rfl (nb rfl) rfl ?_
  repeat' (first | refine aG ?_ | (refine aI ?_; first | refine aD tabOk rfl rfl rfl (nb rfl) rfl ?_ | refine bE rfl rfl (nb rfl) ?_ | (refine aM rfl rfl rfl (nb rfl) rfl rfl rfl (fun hq => ?_) (fun hq => ?_) <;> (first | (simp only [sD, sE, sB, sC, sN, sM, sT, sF] at hq; try (exfalso; omega)) | skip))| (refine bT rfl rfl rfl (nb rfl) rfl rfl rfl (c1) (fun hq => ?_) (fun hq => ?_)) | (refine bT rfl rfl rfl (nb rfl) rfl rfl rfl (c2) (fun hq => ?_) (fun hq => ?_)) | refine bP rfl rfl rfl (nb rfl) rfl rfl (by omega) ?_ | refine bY rfl rfl rfl (nb rfl) rfl rfl rfl (by omega) (by omega) ?_ | refine bV rfl rfl rfl (nb rfl) rfl rfl rfl (by omega) (by omega) ?_ | refine cH tabOk rfl rfl rfl (nb rfl) rfl rfl rfl rfl rfl rfl rfl rfl rfl ?_ | refine bB tabOk rfl rfl (nb rfl) rfl ?_ | refine cJ tabOk rfl rfl rfl (nb rfl) rfl rfl rfl rfl rfl rfl ?_ | refine bO tabOk rfl rfl rfl (nb rfl) rfl rfl rfl rfl ?_ | refine bJ tabOk rfl rfl rfl rfl rfl rfl rfl rfl rfl rfl rfl ?_ | refine bG tabOk rfl rfl rfl (nb rfl) rfl rfl rfl rfl (by first | assumption | omega) ?_ | refine bN tabOk rfl rfl rfl (nb rfl) rfl rfl rfl rfl (by first | rfl | omega) (by first | omega | simp) ?_ | refine bC tabOk rfl rfl rfl (nb rfl) rfl rfl rfl (by assumption) ?_ | refine bC tabOk rfl rfl rfl (nb rfl) rfl rfl rfl (bX _ _ (by first | assumption | omega)) ?_ | refine bP rfl rfl rfl (nb rfl) rfl rfl (by omega) ?_ | ((fail_if_success (refine cB (b := true) rfl rfl rfl ?_)); (fail_if_success (refine cB (b := false) rfl rfl rfl ?_)); refine cR rfl rfl rfl (fun hq => ?_) (fun hq => ?_) <;> first | subst hq | (first | (simp only [sD, sE, sB, sC, sN, sM, sT, sF] at hq; try (exfalso; omega)) | skip)) | fail) | (refine aN ?_; first | refine aH ?_ | refine aQ ?_ | refine bH ?_ | refine aY ?_ | refine aT ?_ | refine bW ?_ | refine aU ?_ | refine aA (b := true) rfl (fun _ => ?_) nTf | refine aA (b := false) rfl nFt (fun _ => ?_) | refine cT ?_ | refine cS ?_ | refine cU mixed (by kernel_rfl) ?_ | refine aW mixed (by kernel_rfl) ?_ | (refine aA rfl (fun hq => ?_) (fun hq => ?_) <;> first | subst hq | (first | (simp only [sD, sE, sB, sC, sN, sM, sT, sF] at hq; try (exfalso; omega)) | skip)) | fail) | (refine aK ?_; first | refine aX ?_ | refine bM ?_ | refine aR ?_ | fail) | (refine bA ?_; first | refine bU ?_ | refine bI ?_ | refine cK (by decide) ?_ | refine bF ?_ | fail) | refine bQ (bL (by kernel_rfl)) ?_ | fail)
  all_goals (refine aV (by first | exact .inl rfl | exact .inr rfl) (aZ rfl (aC rfl)) rfl ?_; refine cO ?_; simp_all)
set_option maxHeartbeats 4000000 in
set_option maxRecDepth 10000 in
theorem aCC (s : ByteArray) (hs : s.size ≤ 1000000) : ACalls Tryz.prog 92 [.imm (.lit (.string s))] [] (.imm (.lit (.bool (!nameB s)))) [] := by
  have c1 := aBb s hs
  refine aJ Tryz.func92 rfl rfl (nb rfl) rfl ?_
  repeat' (first | refine aG ?_ | (refine aI ?_; first | refine aD tabOk rfl rfl rfl (nb rfl) rfl ?_ | refine bE rfl rfl (nb rfl) ?_ | (refine aM rfl rfl rfl (nb rfl) rfl rfl rfl (fun hq => ?_) (fun hq => ?_) <;> (first | (simp only [sD, sE, sB, sC, sN, sM, sT, sF] at hq; try (exfalso; omega)) | skip))| (refine bT rfl rfl rfl (nb rfl) rfl rfl rfl (c1) (fun hq => ?_) (fun hq => ?_)) | refine bP rfl rfl rfl (nb rfl) rfl rfl (by omega) ?_ | refine bY rfl rfl rfl (nb rfl) rfl rfl rfl (by omega) (by omega) ?_ | refine bV rfl rfl rfl (nb rfl) rfl rfl rfl (by omega) (by omega) ?_ | refine cH tabOk rfl rfl rfl (nb rfl) rfl rfl rfl rfl rfl rfl rfl rfl rfl ?_ | refine bB tabOk rfl rfl (nb rfl) rfl ?_ | refine cJ tabOk rfl rfl rfl (nb rfl) rfl rfl rfl rfl rfl rfl ?_ | refine bO tabOk rfl rfl rfl (nb rfl) rfl rfl rfl rfl ?_ | refine bJ tabOk rfl rfl rfl rfl rfl rfl rfl rfl rfl rfl rfl ?_ | refine bG tabOk rfl rfl rfl (nb rfl) rfl rfl rfl rfl (by first | assumption | omega) ?_ | refine bN tabOk rfl rfl rfl (nb rfl) rfl rfl rfl rfl (by first | rfl | omega) (by first | omega | simp) ?_ | refine bC tabOk rfl rfl rfl (nb rfl) rfl rfl rfl (by assumption) ?_ | refine bC tabOk rfl rfl rfl (nb rfl) rfl rfl rfl (bX _ _ (by first | assumption | omega)) ?_ | refine bP rfl rfl rfl (nb rfl) rfl rfl (by omega) ?_ | ((fail_if_success (refine cB (b := true) rfl rfl rfl ?_)); (fail_if_success (refine cB (b := false) rfl rfl rfl ?_)); refine cR rfl rfl rfl (fun hq => ?_) (fun hq => ?_) <;> first | subst hq | (first | (simp only [sD, sE, sB, sC, sN, sM, sT, sF] at hq; try (exfalso; omega)) | skip)) | fail) | (refine aN ?_; first | refine aH ?_ | refine aQ ?_ | refine bH ?_ | refine aY ?_ | refine aT ?_ | refine bW ?_ | refine aU ?_ | refine aA (b := true) rfl (fun _ => ?_) nTf | refine aA (b := false) rfl nFt (fun _ => ?_) | refine cT ?_ | refine cS ?_ | refine cU mixed (by kernel_rfl) ?_ | refine aW mixed (by kernel_rfl) ?_ | (refine aA rfl (fun hq => ?_) (fun hq => ?_) <;> first | subst hq | (first | (simp only [sD, sE, sB, sC, sN, sM, sT, sF] at hq; try (exfalso; omega)) | skip)) | fail) | (refine aK ?_; first | refine aX ?_ | refine bM ?_ | refine aR ?_ | fail) | (refine bA ?_; first | refine bU ?_ | refine bI ?_ | refine cK (by decide) ?_ | refine bF ?_ | fail) | refine bQ (bL (by kernel_rfl)) ?_ | fail)
  all_goals (refine aV (by first | exact .inl rfl | exact .inr rfl) (aZ rfl (aC rfl)) rfl ?_; refine cO ?_; simp_all)
set_option maxHeartbeats 4000000 in
set_option maxRecDepth 10000 in
theorem uN (b : Bool) (l : List ByteArray) (f : FuncId) (R : ByteArray → Bool) (hl : l.length ≤ 1000000)
    (hf : ∀ i (hi : i < l.length), ACalls Tryz.prog f [.imm (.lit (.string l[i]))] [] (.imm (.lit (.bool (R l[i])))) []) :
    ∃ r : Int, (0 ≤ r ↔ l.any R = true) ∧ ACalls Tryz.prog 100 [.imm (.sl b l.length (strs l)), .imm (.func f [] [])] [] (.imm (.lit (.int .i64 r))) [] := by
  have hex : (∃ j, ∃ hj : j < l.length, R l[j] = true ∧ ∀ i (hi : i < l.length), i < j → R l[i] = false) ∨ (∀ i (hi : i < l.length), R l[i] = false) := by
    clear hf
    induction l with
    | nil => exact .inr (fun i hi => by simp at hi)
    | cons x l ih =>
      cases hx : R x with
      | true => exact .inl ⟨0, by simp, hx, fun i hi h => by omega⟩
      | false =>
        rcases ih (by simp at hl; omega) with ⟨j, hj, h1, h2⟩ | h
        · refine .inl ⟨j + 1, by simp; omega, by simpa using h1, fun i hi h => ?_⟩
          cases i with
          | zero => simpa using hx
          | succ i => simpa using h2 i (by simpa using hi) (by omega)
        · refine .inr fun i hi => ?_
          cases i with
          | zero => simpa using hx
          | succ i => simpa using h i (by simpa using hi)
  have walk : ∀ (z : Nat), z ≤ l.length → (∀ i (hi : i < l.length), i < z → R l[i] = false) → (∀ hz : z < l.length, R l[z] = true) →
      ACalls Tryz.prog 100 [.imm (.sl b l.length (strs l)), .imm (.func f [] [])] [] (.imm (.lit (.int .i64 (if z < l.length then (z : Int) else -1)))) [] := by
    intro z hz hno hyes
    refine aJ Tryz.func100 rfl rfl (nb rfl) rfl ?_
    repeat' (first | refine aG ?_ | (refine aI ?_; first | refine aD tabOk rfl rfl rfl (nb rfl) rfl ?_ | refine bE rfl rfl (nb rfl) ?_ | (refine aM rfl rfl rfl (nb rfl) rfl rfl rfl (fun hq => ?_) (fun hq => ?_) <;> (first | (simp only [sD, sE, sB, sC, sN, sM, sT, sF] at hq; try (exfalso; omega)) | skip)) | refine bP rfl rfl rfl (nb rfl) rfl rfl (by omega) ?_ | refine bY rfl rfl rfl (nb rfl) rfl rfl rfl (by omega) (by omega) ?_ | refine bV rfl rfl rfl (nb rfl) rfl rfl rfl (by omega) (by omega) ?_ | refine cH tabOk rfl rfl rfl (nb rfl) rfl rfl rfl rfl rfl rfl rfl rfl rfl ?_ | refine bB tabOk rfl rfl (nb rfl) rfl ?_ | refine cJ tabOk rfl rfl rfl (nb rfl) rfl rfl rfl rfl rfl rfl ?_ | refine bO tabOk rfl rfl rfl (nb rfl) rfl rfl rfl rfl ?_ | refine bJ tabOk rfl rfl rfl rfl rfl rfl rfl rfl rfl rfl rfl ?_ | refine bG tabOk rfl rfl rfl (nb rfl) rfl rfl rfl rfl (by first | assumption | omega) ?_ | refine bN tabOk rfl rfl rfl (nb rfl) rfl rfl rfl rfl (by first | rfl | omega) (by first | omega | simp) ?_ | refine bC tabOk rfl rfl rfl (nb rfl) rfl rfl rfl (by assumption) ?_ | refine bC tabOk rfl rfl rfl (nb rfl) rfl rfl rfl (bX _ _ (by first | assumption | omega)) ?_ | refine bP rfl rfl rfl (nb rfl) rfl rfl (by omega) ?_ | ((fail_if_success (refine cB (b := true) rfl rfl rfl ?_)); (fail_if_success (refine cB (b := false) rfl rfl rfl ?_)); refine cR rfl rfl rfl (fun hq => ?_) (fun hq => ?_) <;> first | subst hq | (first | (simp only [sD, sE, sB, sC, sN, sM, sT, sF] at hq; try (exfalso; omega)) | skip)) | fail) | (refine aN ?_; first | refine aH ?_ | refine aQ ?_ | refine bH ?_ | refine aY ?_ | refine aT ?_ | refine bW ?_ | refine aU ?_ | refine aA (b := true) rfl (fun _ => ?_) nTf | refine aA (b := false) rfl nFt (fun _ => ?_) | refine cT ?_ | refine cS ?_ | refine cU mixed (by kernel_rfl) ?_ | refine aW mixed (by kernel_rfl) ?_ | (refine aA rfl (fun hq => ?_) (fun hq => ?_) <;> first | subst hq | (first | (simp only [sD, sE, sB, sC, sN, sM, sT, sF] at hq; try (exfalso; omega)) | skip)) | fail) | (refine aK ?_; first | refine aX ?_ | refine bM ?_ | refine aR ?_ | fail) | (refine bA ?_; first | refine bU ?_ | refine bI ?_ | refine cK (by decide) ?_ | refine bF ?_ | fail) | refine bQ (bL (by kernel_rfl)) ?_ | fail)
    refine cI (ι := {j : Nat // j ≤ z}) (fun j => S.f ⟨[(8, .imm (.lit (.int .i64 (j.1 : Int)))), (7, .imm (.lit (.int .i64 (l.length : Int)))), (0, .imm (.sl b l.length (strs l))), (1, .imm (.func f [] []))], []⟩) (fun j => l.length - j.1) ⟨0, Nat.zero_le _⟩ (cA (by repeat' first | exact trivial | refine ⟨rfl, ?_⟩) (by repeat' first | exact trivial | refine ⟨rfl, ?_⟩)) ?_
    rintro ⟨j, hj⟩
    dsimp only
    by_cases hlt : j < l.length
    · have c := hf j hlt
      by_cases hjz : j < z
      · rw [hno j hlt hjz] at c
        repeat' (first | refine aG ?_ | (refine aI ?_; first | refine aD tabOk rfl rfl rfl (nb rfl) rfl ?_ | refine bE rfl rfl (nb rfl) ?_ | (refine aM rfl rfl rfl (nb rfl) rfl rfl rfl (fun hq => ?_) (fun hq => ?_) <;> (first | (simp only [sD, sE, sB, sC, sN, sM, sT, sF] at hq; try (exfalso; omega)) | skip))| refine bC tabOk rfl rfl rfl (nb rfl) rfl rfl rfl (hG l j hlt) ?_ | refine aE rfl rfl (nb rfl) rfl rfl rfl rfl (c) ?_ | refine bP rfl rfl rfl (nb rfl) rfl rfl (by omega) ?_ | refine bY rfl rfl rfl (nb rfl) rfl rfl rfl (by omega) (by omega) ?_ | refine bV rfl rfl rfl (nb rfl) rfl rfl rfl (by omega) (by omega) ?_ | refine cH tabOk rfl rfl rfl (nb rfl) rfl rfl rfl rfl rfl rfl rfl rfl rfl ?_ | refine bB tabOk rfl rfl (nb rfl) rfl ?_ | refine cJ tabOk rfl rfl rfl (nb rfl) rfl rfl rfl rfl rfl rfl ?_ | refine bO tabOk rfl rfl rfl (nb rfl) rfl rfl rfl rfl ?_ | refine bJ tabOk rfl rfl rfl rfl rfl rfl rfl rfl rfl rfl rfl ?_ | refine bG tabOk rfl rfl rfl (nb rfl) rfl rfl rfl rfl (by first | assumption | omega) ?_ | refine bN tabOk rfl rfl rfl (nb rfl) rfl rfl rfl rfl (by first | rfl | omega) (by first | omega | simp) ?_ | refine bC tabOk rfl rfl rfl (nb rfl) rfl rfl rfl (by assumption) ?_ | refine bC tabOk rfl rfl rfl (nb rfl) rfl rfl rfl (bX _ _ (by first | assumption | omega)) ?_ | refine bP rfl rfl rfl (nb rfl) rfl rfl (by omega) ?_ | ((fail_if_success (refine cB (b := true) rfl rfl rfl ?_)); (fail_if_success (refine cB (b := false) rfl rfl rfl ?_)); refine cR rfl rfl rfl (fun hq => ?_) (fun hq => ?_) <;> first | subst hq | (first | (simp only [sD, sE, sB, sC, sN, sM, sT, sF] at hq; try (exfalso; omega)) | skip)) | fail) | (refine aN ?_; first | refine aH ?_ | refine aQ ?_ | refine bH ?_ | refine aY ?_ | refine aT ?_ | refine bW ?_ | refine aU ?_ | refine aA (b := true) rfl (fun _ => ?_) nTf | refine aA (b := false) rfl nFt (fun _ => ?_) | refine cT ?_ | refine cS ?_ | refine cU mixed (by kernel_rfl) ?_ | refine aW mixed (by kernel_rfl) ?_ | (refine aA rfl (fun hq => ?_) (fun hq => ?_) <;> first | subst hq | (first | (simp only [sD, sE, sB, sC, sN, sM, sT, sF] at hq; try (exfalso; omega)) | skip)) | fail) | (refine aK ?_; first | refine aX ?_ | refine bM ?_ | refine aR ?_ | fail) | (refine bA ?_; first | refine bU ?_ | refine bI ?_ | refine cK (by decide) ?_ | refine bF ?_ | fail) | refine bQ (bL (by kernel_rfl)) ?_ | fail)
        all_goals exact ⟨⟨j + 1, hjz⟩, (by show l.length - (j + 1) < l.length - j; omega), (cA (by repeat' first | exact trivial | refine ⟨rfl, ?_⟩) (by repeat' first | exact trivial | refine ⟨rfl, ?_⟩))⟩
      · have e : j = z := by omega
        subst e
        rw [hyes hlt] at c
        repeat' (first | refine aG ?_ | (refine aI ?_; first | refine aD tabOk rfl rfl rfl (nb rfl) rfl ?_ | refine bE rfl rfl (nb rfl) ?_ | (refine aM rfl rfl rfl (nb rfl) rfl rfl rfl (fun hq => ?_) (fun hq => ?_) <;> (first | (simp only [sD, sE, sB, sC, sN, sM, sT, sF] at hq; try (exfalso; omega)) | skip))| refine bC tabOk rfl rfl rfl (nb rfl) rfl rfl rfl (hG l j hlt) ?_ | refine aE rfl rfl (nb rfl) rfl rfl rfl rfl (c) ?_ | refine bP rfl rfl rfl (nb rfl) rfl rfl (by omega) ?_ | refine bY rfl rfl rfl (nb rfl) rfl rfl rfl (by omega) (by omega) ?_ | refine bV rfl rfl rfl (nb rfl) rfl rfl rfl (by omega) (by omega) ?_ | refine cH tabOk rfl rfl rfl (nb rfl) rfl rfl rfl rfl rfl rfl rfl rfl rfl ?_ | refine bB tabOk rfl rfl (nb rfl) rfl ?_ | refine cJ tabOk rfl rfl rfl (nb rfl) rfl rfl rfl rfl rfl rfl ?_ | refine bO tabOk rfl rfl rfl (nb rfl) rfl rfl rfl rfl ?_ | refine bJ tabOk rfl rfl rfl rfl rfl rfl rfl rfl rfl rfl rfl ?_ | refine bG tabOk rfl rfl rfl (nb rfl) rfl rfl rfl rfl (by first | assumption | omega) ?_ | refine bN tabOk rfl rfl rfl (nb rfl) rfl rfl rfl rfl (by first | rfl | omega) (by first | omega | simp) ?_ | refine bC tabOk rfl rfl rfl (nb rfl) rfl rfl rfl (by assumption) ?_ | refine bC tabOk rfl rfl rfl (nb rfl) rfl rfl rfl (bX _ _ (by first | assumption | omega)) ?_ | refine bP rfl rfl rfl (nb rfl) rfl rfl (by omega) ?_ | ((fail_if_success (refine cB (b := true) rfl rfl rfl ?_)); (fail_if_success (refine cB (b := false) rfl rfl rfl ?_)); refine cR rfl rfl rfl (fun hq => ?_) (fun hq => ?_) <;> first | subst hq | (first | (simp only [sD, sE, sB, sC, sN, sM, sT, sF] at hq; try (exfalso; omega)) | skip)) | fail) | (refine aN ?_; first | refine aH ?_ | refine aQ ?_ | refine bH ?_ | refine aY ?_ | refine aT ?_ | refine bW ?_ | refine aU ?_ | refine aA (b := true) rfl (fun _ => ?_) nTf | refine aA (b := false) rfl nFt (fun _ => ?_) | refine cT ?_ | refine cS ?_ | refine cU mixed (by kernel_rfl) ?_ | refine aW mixed (by kernel_rfl) ?_ | (refine aA rfl (fun hq => ?_) (fun hq => ?_) <;> first | subst hq | (first | (simp only [sD, sE, sB, sC, sN, sM, sT, sF] at hq; try (exfalso; omega)) | skip)) | fail) | (refine aK ?_; first | refine aX ?_ | refine bM ?_ | refine aR ?_ | fail) | (refine bA ?_; first | refine bU ?_ | refine bI ?_ | refine cK (by decide) ?_ | refine bF ?_ | fail) | refine bQ (bL (by kernel_rfl)) ?_ | fail)
        all_goals (refine aV (by first | exact .inl rfl | exact .inr rfl) (aZ rfl (aC rfl)) rfl ?_; exact fU (by rw [if_pos hlt]))
    · repeat' (first | refine aG ?_ | (refine aI ?_; first | refine aD tabOk rfl rfl rfl (nb rfl) rfl ?_ | refine bE rfl rfl (nb rfl) ?_ | (refine aM rfl rfl rfl (nb rfl) rfl rfl rfl (fun hq => ?_) (fun hq => ?_) <;> (first | (simp only [sD, sE, sB, sC, sN, sM, sT, sF] at hq; try (exfalso; omega)) | skip)) | refine bP rfl rfl rfl (nb rfl) rfl rfl (by omega) ?_ | refine bY rfl rfl rfl (nb rfl) rfl rfl rfl (by omega) (by omega) ?_ | refine bV rfl rfl rfl (nb rfl) rfl rfl rfl (by omega) (by omega) ?_ | refine cH tabOk rfl rfl rfl (nb rfl) rfl rfl rfl rfl rfl rfl rfl rfl rfl ?_ | refine bB tabOk rfl rfl (nb rfl) rfl ?_ | refine cJ tabOk rfl rfl rfl (nb rfl) rfl rfl rfl rfl rfl rfl ?_ | refine bO tabOk rfl rfl rfl (nb rfl) rfl rfl rfl rfl ?_ | refine bJ tabOk rfl rfl rfl rfl rfl rfl rfl rfl rfl rfl rfl ?_ | refine bG tabOk rfl rfl rfl (nb rfl) rfl rfl rfl rfl (by first | assumption | omega) ?_ | refine bN tabOk rfl rfl rfl (nb rfl) rfl rfl rfl rfl (by first | rfl | omega) (by first | omega | simp) ?_ | refine bC tabOk rfl rfl rfl (nb rfl) rfl rfl rfl (by assumption) ?_ | refine bC tabOk rfl rfl rfl (nb rfl) rfl rfl rfl (bX _ _ (by first | assumption | omega)) ?_ | refine bP rfl rfl rfl (nb rfl) rfl rfl (by omega) ?_ | ((fail_if_success (refine cB (b := true) rfl rfl rfl ?_)); (fail_if_success (refine cB (b := false) rfl rfl rfl ?_)); refine cR rfl rfl rfl (fun hq => ?_) (fun hq => ?_) <;> first | subst hq | (first | (simp only [sD, sE, sB, sC, sN, sM, sT, sF] at hq; try (exfalso; omega)) | skip)) | fail) | (refine aN ?_; first | refine aH ?_ | refine aQ ?_ | refine bH ?_ | refine aY ?_ | refine aT ?_ | refine bW ?_ | refine aU ?_ | refine aA (b := true) rfl (fun _ => ?_) nTf | refine aA (b := false) rfl nFt (fun _ => ?_) | refine cT ?_ | refine cS ?_ | refine cU mixed (by kernel_rfl) ?_ | refine aW mixed (by kernel_rfl) ?_ | (refine aA rfl (fun hq => ?_) (fun hq => ?_) <;> first | subst hq | (first | (simp only [sD, sE, sB, sC, sN, sM, sT, sF] at hq; try (exfalso; omega)) | skip)) | fail) | (refine aK ?_; first | refine aX ?_ | refine bM ?_ | refine aR ?_ | fail) | (refine bA ?_; first | refine bU ?_ | refine bI ?_ | refine cK (by decide) ?_ | refine bF ?_ | fail) | refine bQ (bL (by kernel_rfl)) ?_ | fail)
      all_goals (refine aV (by first | exact .inl rfl | exact .inr rfl) (aZ rfl (aC rfl)) rfl ?_; exact fU (by rw [if_neg (by omega)]))
  rcases hex with ⟨j, hj, h1, h2⟩ | h
  · refine ⟨_, ?_, walk j (by omega) (fun i hi h => h2 i hi h) (fun _ => h1)⟩
    rw [if_pos hj]
    exact ⟨fun _ => List.any_eq_true.2 ⟨l[j], List.getElem_mem hj, h1⟩, fun _ => by omega⟩
  · refine ⟨_, ?_, walk l.length (Nat.le_refl _) (fun i hi _ => h i hi) (fun hz => absurd hz (Nat.lt_irrefl _))⟩
    rw [if_neg (Nat.lt_irrefl _)]
    refine ⟨fun h => by omega, fun ha => ?_⟩
    obtain ⟨x, hx, hR⟩ := List.any_eq_true.1 ha
    obtain ⟨i, hi, rfl⟩ := List.mem_iff_getElem.1 hx
    rw [h i hi] at hR; cases hR
set_option maxHeartbeats 4000000 in
set_option maxRecDepth 10000 in
theorem pF (b : Bool) (l : List ByteArray) (f : FuncId) (R : ByteArray → Bool) (hl : l.length ≤ 1000000)
    (hf : ∀ i (hi : i < l.length), ACalls Tryz.prog f [.imm (.lit (.string l[i]))] [] (.imm (.lit (.bool (R l[i])))) []) :
    ACalls Tryz.prog 94 [.imm (.sl b l.length (strs l)), .imm (.func f [] [])] [] (.imm (.lit (.bool (l.any R)))) [] := by
  obtain ⟨r, hr, c⟩ := uN b l f R hl hf
  generalize l.any R = q at hr
  refine aJ Tryz.func94 rfl rfl (nb rfl) rfl ?_
  repeat' (first | refine aG ?_ | (refine aI ?_; first | refine aD tabOk rfl rfl rfl (nb rfl) rfl ?_ | refine bE rfl rfl (nb rfl) ?_ | (refine aM rfl rfl rfl (nb rfl) rfl rfl rfl (fun hq => ?_) (fun hq => ?_) <;> (first | (simp only [sD, sE, sB, sC, sN, sM, sT, sF] at hq; try (exfalso; omega)) | skip))| refine aE rfl rfl (nb rfl) rfl rfl rfl rfl (c) ?_ | refine bP rfl rfl rfl (nb rfl) rfl rfl (by omega) ?_ | refine bY rfl rfl rfl (nb rfl) rfl rfl rfl (by omega) (by omega) ?_ | refine bV rfl rfl rfl (nb rfl) rfl rfl rfl (by omega) (by omega) ?_ | refine cH tabOk rfl rfl rfl (nb rfl) rfl rfl rfl rfl rfl rfl rfl rfl rfl ?_ | refine bB tabOk rfl rfl (nb rfl) rfl ?_ | refine cJ tabOk rfl rfl rfl (nb rfl) rfl rfl rfl rfl rfl rfl ?_ | refine bO tabOk rfl rfl rfl (nb rfl) rfl rfl rfl rfl ?_ | refine bJ tabOk rfl rfl rfl rfl rfl rfl rfl rfl rfl rfl rfl ?_ | refine bG tabOk rfl rfl rfl (nb rfl) rfl rfl rfl rfl (by first | assumption | omega) ?_ | refine bN tabOk rfl rfl rfl (nb rfl) rfl rfl rfl rfl (by first | rfl | omega) (by first | omega | simp) ?_ | refine bC tabOk rfl rfl rfl (nb rfl) rfl rfl rfl (by assumption) ?_ | refine bC tabOk rfl rfl rfl (nb rfl) rfl rfl rfl (bX _ _ (by first | assumption | omega)) ?_ | refine bP rfl rfl rfl (nb rfl) rfl rfl (by omega) ?_ | ((fail_if_success (refine cB (b := true) rfl rfl rfl ?_)); (fail_if_success (refine cB (b := false) rfl rfl rfl ?_)); refine cR rfl rfl rfl (fun hq => ?_) (fun hq => ?_) <;> first | subst hq | (first | (simp only [sD, sE, sB, sC, sN, sM, sT, sF] at hq; try (exfalso; omega)) | skip)) | fail) | (refine aN ?_; first | refine aH ?_ | refine aQ ?_ | refine bH ?_ | refine aY ?_ | refine aT ?_ | refine bW ?_ | refine aU ?_ | refine aA (b := true) rfl (fun _ => ?_) nTf | refine aA (b := false) rfl nFt (fun _ => ?_) | refine cT ?_ | refine cS ?_ | refine cU mixed (by kernel_rfl) ?_ | refine aW mixed (by kernel_rfl) ?_ | (refine aA rfl (fun hq => ?_) (fun hq => ?_) <;> first | subst hq | (first | (simp only [sD, sE, sB, sC, sN, sM, sT, sF] at hq; try (exfalso; omega)) | skip)) | fail) | (refine aK ?_; first | refine aX ?_ | refine bM ?_ | refine aR ?_ | fail) | (refine bA ?_; first | refine bU ?_ | refine bI ?_ | refine cK (by decide) ?_ | refine bF ?_ | fail) | refine bQ (bL (by kernel_rfl)) ?_ | fail)
  all_goals (refine aV (by first | exact .inl rfl | exact .inr rfl) (aZ rfl (aC rfl)) rfl ?_; refine cO ?_; cases q <;> first | rfl | (exfalso; simp at hr; omega))
theorem uO (l : List ByteArray) (R : ByteArray → Bool) : (l.any fun x => !R x) = !(l.all R) := by
  induction l with
  | nil => rfl
  | cons x l ih => simp [ih, Bool.not_and]
theorem kO (s : ByteArray) : ∀ p ∈ pcsB s, p.size ≤ s.size := by
  have key : ∀ (l : List UInt8), ∀ p ∈ pcs l, p.length ≤ l.length := by
    intro l
    induction l with
    | nil => intro p hp; simp [pcs] at hp; simp [hp]
    | cons b t ih =>
      intro p hp
      rw [pcs] at hp
      split at hp
      · rcases List.mem_cons.1 hp with rfl | hp
        · simp
        · have := ih p hp; simp; omega
      · cases hq : pcs t with
        | nil => exact absurd hq (wP t)
        | cons x r =>
          rw [hq] at hp ih
          simp only [consHead] at hp
          rcases List.mem_cons.1 hp with rfl | hp
          · have := ih x List.mem_cons_self; simp; omega
          · have := ih p (List.mem_cons_of_mem _ hp); simp; omega
  intro p hp
  unfold pcsB at hp
  obtain ⟨q, hq, rfl⟩ := List.mem_map.1 hp
  rw [aAZ, ← fE s]
  exact key _ q hq
set_option maxHeartbeats 4000000 in
set_option maxRecDepth 10000 in
theorem xQ (s : ByteArray) (hs : s.size ≤ 100000) : ACalls Tryz.prog 84 [.imm (.lit (.string s))] [] (.imm (.lit (.bool (longP s)))) [] := by
  have hl := jG s
  have c1 := xP s (by omega)
  have c2 := pF false (pcsB s) 92 (fun x => !nameB x) (by omega) (fun i hi => aCC _ (Nat.le_trans (kO s _ (List.getElem_mem hi)) (by omega)))
  rw [uO] at c2
  unfold longP
  generalize (pcsB s).all nameB = q at c2
  refine aJ Tryz.func84 rfl rfl (nb rfl) rfl ?_
  repeat' (first | refine aG ?_ | (refine aI ?_; first | refine aD tabOk rfl rfl rfl (nb rfl) rfl ?_ | refine bE rfl rfl (nb rfl) ?_ | (refine aM rfl rfl rfl (nb rfl) rfl rfl rfl (fun hq => ?_) (fun hq => ?_) <;> (first | (simp only [sD, sE, sB, sC, sN, sM, sT, sF] at hq; try (exfalso; omega)) | skip))| refine aE rfl rfl (nb rfl) rfl rfl rfl rfl (c1) ?_ | (refine bT rfl rfl rfl (nb rfl) rfl rfl rfl (c2) (fun hq => ?_) (fun hq => ?_)) | refine bP rfl rfl rfl (nb rfl) rfl rfl (by omega) ?_ | refine bY rfl rfl rfl (nb rfl) rfl rfl rfl (by omega) (by omega) ?_ | refine bV rfl rfl rfl (nb rfl) rfl rfl rfl (by omega) (by omega) ?_ | refine cH tabOk rfl rfl rfl (nb rfl) rfl rfl rfl rfl rfl rfl rfl rfl rfl ?_ | refine bB tabOk rfl rfl (nb rfl) rfl ?_ | refine cJ tabOk rfl rfl rfl (nb rfl) rfl rfl rfl rfl rfl rfl ?_ | refine bO tabOk rfl rfl rfl (nb rfl) rfl rfl rfl rfl ?_ | refine bJ tabOk rfl rfl rfl rfl rfl rfl rfl rfl rfl rfl rfl ?_ | refine bG tabOk rfl rfl rfl (nb rfl) rfl rfl rfl rfl (by first | assumption | omega) ?_ | refine bN tabOk rfl rfl rfl (nb rfl) rfl rfl rfl rfl (by first | rfl | omega) (by first | omega | simp) ?_ | refine bC tabOk rfl rfl rfl (nb rfl) rfl rfl rfl (by assumption) ?_ | refine bC tabOk rfl rfl rfl (nb rfl) rfl rfl rfl (bX _ _ (by first | assumption | omega)) ?_ | refine bP rfl rfl rfl (nb rfl) rfl rfl (by omega) ?_ | ((fail_if_success (refine cB (b := true) rfl rfl rfl ?_)); (fail_if_success (refine cB (b := false) rfl rfl rfl ?_)); refine cR rfl rfl rfl (fun hq => ?_) (fun hq => ?_) <;> first | subst hq | (first | (simp only [sD, sE, sB, sC, sN, sM, sT, sF] at hq; try (exfalso; omega)) | skip)) | fail) | (refine aN ?_; first | refine aH ?_ | refine aQ ?_ | refine bH ?_ | refine aY ?_ | refine aT ?_ | refine bW ?_ | refine aU ?_ | refine aA (b := true) rfl (fun _ => ?_) nTf | refine aA (b := false) rfl nFt (fun _ => ?_) | refine cT ?_ | refine cS ?_ | refine cU mixed (by kernel_rfl) ?_ | refine aW mixed (by kernel_rfl) ?_ | (refine aA rfl (fun hq => ?_) (fun hq => ?_) <;> first | subst hq | (first | (simp only [sD, sE, sB, sC, sN, sM, sT, sF] at hq; try (exfalso; omega)) | skip)) | fail) | (refine aK ?_; first | refine aX ?_ | refine bM ?_ | refine aR ?_ | fail) | (refine bA ?_; first | refine bU ?_ | refine bI ?_ | refine cK (by decide) ?_ | refine bF ?_ | fail) | refine bQ (bL (by kernel_rfl)) ?_ | fail)
  all_goals (refine aV (by first | exact .inl rfl | exact .inr rfl) (aZ rfl (aC rfl)) rfl ?_; refine cO ?_; cases q <;> simp_all <;> omega)
set_option maxHeartbeats 4000000 in
set_option maxRecDepth 10000 in
theorem aBc (s : ByteArray) (hs : s.size ≤ 100000) : ACalls Tryz.prog 85 [.imm (.lit (.string s))] [] (.imm (.sl false (splitP s).length (strs (splitP s)))) [] := by
  have c1 := xQ s hs
  have c2 := xP s (by omega)
  unfold splitP
  cases h : longP s with
  | true =>
    rw [h] at c1
    rw [if_pos rfl]
    refine aJ Tryz.func85 rfl rfl (nb rfl) rfl ?_
    repeat' (first | refine aG ?_ | (refine aI ?_; first | refine aD tabOk rfl rfl rfl (nb rfl) rfl ?_ | refine bE rfl rfl (nb rfl) ?_ | (refine aM rfl rfl rfl (nb rfl) rfl rfl rfl (fun hq => ?_) (fun hq => ?_) <;> (first | (simp only [sD, sE, sB, sC, sN, sM, sT, sF] at hq; try (exfalso; omega)) | skip))| refine aE rfl rfl (nb rfl) rfl rfl rfl rfl (c1) ?_ | refine aE rfl rfl (nb rfl) rfl rfl rfl rfl (c2) ?_ | refine bP rfl rfl rfl (nb rfl) rfl rfl (by omega) ?_ | refine bY rfl rfl rfl (nb rfl) rfl rfl rfl (by omega) (by omega) ?_ | refine bV rfl rfl rfl (nb rfl) rfl rfl rfl (by omega) (by omega) ?_ | refine cH tabOk rfl rfl rfl (nb rfl) rfl rfl rfl rfl rfl rfl rfl rfl rfl ?_ | refine bB tabOk rfl rfl (nb rfl) rfl ?_ | refine cJ tabOk rfl rfl rfl (nb rfl) rfl rfl rfl rfl rfl rfl ?_ | refine bO tabOk rfl rfl rfl (nb rfl) rfl rfl rfl rfl ?_ | refine bJ tabOk rfl rfl rfl rfl rfl rfl rfl rfl rfl rfl rfl ?_ | refine bG tabOk rfl rfl rfl (nb rfl) rfl rfl rfl rfl (by first | assumption | omega) ?_ | refine bN tabOk rfl rfl rfl (nb rfl) rfl rfl rfl rfl (by first | rfl | omega) (by first | omega | simp) ?_ | refine bC tabOk rfl rfl rfl (nb rfl) rfl rfl rfl (by assumption) ?_ | refine bC tabOk rfl rfl rfl (nb rfl) rfl rfl rfl (bX _ _ (by first | assumption | omega)) ?_ | refine bP rfl rfl rfl (nb rfl) rfl rfl (by omega) ?_ | ((fail_if_success (refine cB (b := true) rfl rfl rfl ?_)); (fail_if_success (refine cB (b := false) rfl rfl rfl ?_)); refine cR rfl rfl rfl (fun hq => ?_) (fun hq => ?_) <;> first | subst hq | (first | (simp only [sD, sE, sB, sC, sN, sM, sT, sF] at hq; try (exfalso; omega)) | skip)) | fail) | (refine aN ?_; first | refine aH ?_ | refine aQ ?_ | refine bH ?_ | refine aY ?_ | refine aT ?_ | refine bW ?_ | refine aU ?_ | refine aA (b := true) rfl (fun _ => ?_) nTf | refine aA (b := false) rfl nFt (fun _ => ?_) | refine cT ?_ | refine cS ?_ | refine cU mixed (by kernel_rfl) ?_ | refine aW mixed (by kernel_rfl) ?_ | (refine aA rfl (fun hq => ?_) (fun hq => ?_) <;> first | subst hq | (first | (simp only [sD, sE, sB, sC, sN, sM, sT, sF] at hq; try (exfalso; omega)) | skip)) | fail) | (refine aK ?_; first | refine aX ?_ | refine bM ?_ | refine aR ?_ | fail) | (refine bA ?_; first | refine bU ?_ | refine bI ?_ | refine cK (by decide) ?_ | refine bF ?_ | fail) | refine bQ (bL (by kernel_rfl)) ?_ | fail)
    all_goals (refine aV (by first | exact .inl rfl | exact .inr rfl) (aZ rfl (aC rfl)) rfl ?_; rfl)
  | false =>
    rw [h] at c1
    rw [if_neg (by simp)]
    refine aJ Tryz.func85 rfl rfl (nb rfl) rfl ?_
    repeat' (first | refine aG ?_ | (refine aI ?_; first | refine aD tabOk rfl rfl rfl (nb rfl) rfl ?_ | refine bE rfl rfl (nb rfl) ?_ | (refine aM rfl rfl rfl (nb rfl) rfl rfl rfl (fun hq => ?_) (fun hq => ?_) <;> (first | (simp only [sD, sE, sB, sC, sN, sM, sT, sF] at hq; try (exfalso; omega)) | skip))| refine aE rfl rfl (nb rfl) rfl rfl rfl rfl (c1) ?_ | refine aE rfl rfl (nb rfl) rfl rfl rfl rfl (c2) ?_ | refine bP rfl rfl rfl (nb rfl) rfl rfl (by omega) ?_ | refine bY rfl rfl rfl (nb rfl) rfl rfl rfl (by omega) (by omega) ?_ | refine bV rfl rfl rfl (nb rfl) rfl rfl rfl (by omega) (by omega) ?_ | refine cH tabOk rfl rfl rfl (nb rfl) rfl rfl rfl rfl rfl rfl rfl rfl rfl ?_ | refine bB tabOk rfl rfl (nb rfl) rfl ?_ | refine cJ tabOk rfl rfl rfl (nb rfl) rfl rfl rfl rfl rfl rfl ?_ | refine bO tabOk rfl rfl rfl (nb rfl) rfl rfl rfl rfl ?_ | refine bJ tabOk rfl rfl rfl rfl rfl rfl rfl rfl rfl rfl rfl ?_ | refine bG tabOk rfl rfl rfl (nb rfl) rfl rfl rfl rfl (by first | assumption | omega) ?_ | refine bN tabOk rfl rfl rfl (nb rfl) rfl rfl rfl rfl (by first | rfl | omega) (by first | omega | simp) ?_ | refine bC tabOk rfl rfl rfl (nb rfl) rfl rfl rfl (by assumption) ?_ | refine bC tabOk rfl rfl rfl (nb rfl) rfl rfl rfl (bX _ _ (by first | assumption | omega)) ?_ | refine bP rfl rfl rfl (nb rfl) rfl rfl (by omega) ?_ | ((fail_if_success (refine cB (b := true) rfl rfl rfl ?_)); (fail_if_success (refine cB (b := false) rfl rfl rfl ?_)); refine cR rfl rfl rfl (fun hq => ?_) (fun hq => ?_) <;> first | subst hq | (first | (simp only [sD, sE, sB, sC, sN, sM, sT, sF] at hq; try (exfalso; omega)) | skip)) | fail) | (refine aN ?_; first | refine aH ?_ | refine aQ ?_ | refine bH ?_ | refine aY ?_ | refine aT ?_ | refine bW ?_ | refine aU ?_ | refine aA (b := true) rfl (fun _ => ?_) nTf | refine aA (b := false) rfl nFt (fun _ => ?_) | refine cT ?_ | refine cS ?_ | refine cU mixed (by kernel_rfl) ?_ | refine aW mixed (by kernel_rfl) ?_ | (refine aA rfl (fun hq => ?_) (fun hq => ?_) <;> first | subst hq | (first | (simp only [sD, sE, sB, sC, sN, sM, sT, sF] at hq; try (exfalso; omega)) | skip)) | fail) | (refine aK ?_; first | refine aX ?_ | refine bM ?_ | refine aR ?_ | fail) | (refine bA ?_; first | refine bU ?_ | refine bI ?_ | refine cK (by decide) ?_ | refine bF ?_ | fail) | refine bQ (bL (by kernel_rfl)) ?_ | fail)
    all_goals (refine aV (by first | exact .inl rfl | exact .inr rfl) (aZ rfl (tF (aC rfl))) rfl ?_; rfl)
end Go.Proofs.YtdajnmffoopcaaaGreatDoor.Ab
namespace Go.Proofs.YtdajnmffoopcaaaGreatDoor.Ab
set_option linter.unusedVariables false
set_option linter.unusedSimpArgs false
open Go.RowKit Go.Proofs.YtdajnmffoopcaaaGreatDoor.RP
attribute [local irreducible] AWP AOps AExit AThen ABlock ANoGoto FeetOk
theorem dN (a b : ByteArray) : (a ++ b).size = a.size + b.size := by rw [← fE, ByteArray.data_append, Array.toList_append, List.length_append, fE, fE]
theorem pG (s : ByteArray) : (splitP s).length ≤ s.size + 1 ∧ ∀ p ∈ splitP s, p.size ≤ s.size := by
  unfold splitP
  split
  · exact ⟨jG s, kO s⟩
  · exact ⟨by simp, by simp⟩
theorem aBd (s : ByteArray) (h : longP s = true) : splitP s ≠ [] := by
  unfold splitP pcsB
  rw [if_pos h]
  intro e
  exact wP _ (List.map_eq_nil_iff.1 e)
/-- The label that is asked for: the last name's of a space, the others' of modules. -/
def labS (space : ByteArray) (last : Bool) (s : ByteArray) : ByteArray := if last then (space ++ ⟨#[58]⟩) ++ s else ⟨#[109, 58]⟩ ++ s
def atS (space : ByteArray) : List ByteArray → Tree → Tree × Int
  | [], t => (t, 0)
  | s :: ss, t => if (fieldP (labS space ss.isEmpty s) t.kids).2 = true then atS space ss (fieldP (labS space ss.isEmpty s) t.kids).1 else (.nil, 8)
def spOk (space : ByteArray) : Bool := eqB space ⟨#[118]⟩ || eqB space ⟨#[116]⟩ || eqB space ⟨#[109]⟩
def sAtP (t : Tree) (space long : ByteArray) : Tree × Int :=
  if checkP sformP t ≠ 0 then (.nil, checkP sformP t) else if (isSigP t && spOk space) = false then (.nil, 16) else if longP long = false then (.nil, 2) else atS space (splitP long) t
theorem aBe (space s : ByteArray) : labS space true s = (space ++ ⟨#[58]⟩) ++ s := by unfold labS; rw [if_pos rfl]
theorem aBf (space s : ByteArray) : labS space false s = ⟨#[109, 58]⟩ ++ s := by unfold labS; rw [if_neg (by simp)]
theorem pH (l : List ByteArray) (j : Nat) (h : j < l.length) : (l.drop (j + 1)).isEmpty = decide (j + 1 = l.length) := by
  by_cases e : j + 1 = l.length
  · rw [decide_eq_true e, e, List.drop_length]; rfl
  · rw [decide_eq_false e, List.isEmpty_eq_false_iff]
    intro h0
    have := congrArg List.length h0
    rw [List.length_drop, List.length_nil] at this
    omega
theorem aBg (space : ByteArray) : ∀ (l : List ByteArray) (t : Tree), isSigP t = true → t.whole = true → (atS space l t).2 = 0 → isSigP (atS space l t).1 = true ∧ (atS space l t).1.whole = true ∧ (atS space l t).1.size ≤ t.size
  | [], t, hs, hw, _ => ⟨hs, hw, Nat.le_refl _⟩
  | s :: ss, t, hs, hw, h0 => by
    rw [atS] at h0 ⊢
    split at h0
    · rename_i h
      rw [if_pos h]
      obtain ⟨g1, g2, g3⟩ := kN hs hw _ h
      have := aBg space ss _ g1 g2 h0
      exact ⟨this.1, this.2.1, by omega⟩
    · cases h0
set_option maxHeartbeats 4000000 in
set_option maxRecDepth 10000 in
theorem zU (t : Tree) (label : ByteArray) (hw : t.whole = true) : ACalls Tryz.prog 87 [.imm t.iv, .obj 1001 0] [(1001, .cells [.imm (.lit (.string label))])] (.imm (.lit (.bool (isLab label t)))) [(1001, .cells [.imm (.lit (.string label))])] := by
  obtain ⟨k, n, a, b, kids, rfl⟩ := cF hw
  have e : isLab label (.node k n a b kids) = (decide (k = 163) && eqB a label) := rfl
  rw [e]
  refine cD [1001] Tryz.func87 rfl rfl (nb rfl) rfl rfl ?_
  repeat' (first | refine aG ?_ | (refine aI ?_;  first | refine aD tabOk rfl rfl rfl (nb rfl) rfl ?_ | refine bE rfl rfl (nb rfl) ?_ | (refine aM rfl rfl rfl (nb rfl) rfl rfl rfl (fun hq => ?_) (fun hq => ?_) <;> (first | (simp only [sD, sE, sB, sC, sN, sM, sT, sF] at hq; try (exfalso; omega)) | skip)) | refine bO tabOk rfl rfl rfl (nb rfl) rfl rfl rfl rfl ?_) | (refine aN ?_;  first | refine aH ?_ | refine aQ ?_ | refine aT ?_ | refine aW mixed (by kernel_rfl) ?_) | (refine aK ?_;  first | refine aX ?_) | refine bQ (bL (by kernel_rfl)) ?_)
  all_goals (refine cN (cE (by first | exact .inl rfl | exact .inr rfl) (aZ rfl (aC rfl)) rfl (by repeat' first | exact trivial | refine ⟨rfl, ?_⟩) rfl ?_); refine cO ?_; simp_all [eqB])
set_option maxHeartbeats 16000000 in
set_option maxRecDepth 10000 in
theorem At_a (t : Tree) (space long : ByteArray) (hs : t.size ≤ 100000) (hp : space.size ≤ 100000) (hl : long.size ≤ 100000) : ACalls Tryz.prog 63 [.imm t.iv, .imm (.lit (.string space)), .imm (.lit (.string long))] [] (.imm (.tup [(sAtP t space long).1.iv, .lit (.int .i64 (sAtP t space long).2)])) [] := by
  have c1 := fA t (by omega)
  obtain ⟨Q, hQ⟩ : ∃ Q, sAtP t space long = Q := ⟨_, rfl⟩
  rw [hQ]
  unfold sAtP at hQ
  by_cases hc : checkP sformP t = 0
  · rw [if_neg (by simpa using hc)] at hQ
    rw [hc] at c1
    obtain ⟨hw, hz, _⟩ := bK hc
    have c2 := jR t hw (by omega)
    cases hsig : isSigP t with
    | false =>
      rw [hsig] at c2 hQ
      rw [Bool.false_and, if_pos rfl] at hQ
      subst hQ
      refine aJ Tryz.func63 rfl rfl (nb rfl) rfl ?_
      repeat' (first | refine aG ?_ | (refine aI ?_;  first | refine aD tabOk rfl rfl rfl (nb rfl) rfl ?_ | refine bE rfl rfl (nb rfl) ?_ | (refine aM rfl rfl rfl (nb rfl) rfl rfl rfl (fun hq => ?_) (fun hq => ?_) <;> (first | (simp only [sD, sE, sB, sC, sN, sM, sT, sF] at hq; try (exfalso; omega)) | skip)) | refine aE rfl rfl (nb rfl) rfl rfl rfl rfl (c1) ?_ | refine aE rfl rfl (nb rfl) rfl rfl rfl rfl (c2) ?_) | (refine aN ?_;  first | refine aH ?_ | refine aQ ?_ | refine aY ?_ | refine aT ?_ | refine aU ?_ | refine aA (b := true) rfl (fun _ => ?_) nTf | refine aA (b := false) rfl nFt (fun _ => ?_)) | (refine aK ?_;  first | refine aX ?_ | refine aR ?_) | (refine bA ?_;  first | refine bF ?_))
      all_goals first
        | exact absurd rfl (by assumption)
        | (refine aV (by first | exact .inl rfl | exact .inr rfl) (bD rfl (aC rfl) (aC rfl)) rfl ?_; rfl)
    | true =>
      rw [hsig] at c2 hQ
      rw [Bool.true_and] at hQ
      cases hsp : spOk space with
      | false =>
        rw [hsp] at hQ
        rw [if_pos rfl] at hQ
        subst hQ
        unfold spOk at hsp
        refine aJ Tryz.func63 rfl rfl (nb rfl) rfl ?_
        repeat' (first | refine aG ?_ | (refine aI ?_;  first | refine aD tabOk rfl rfl rfl (nb rfl) rfl ?_ | refine bE rfl rfl (nb rfl) ?_ | (refine aM rfl rfl rfl (nb rfl) rfl rfl rfl (fun hq => ?_) (fun hq => ?_) <;> (first | (simp only [sD, sE, sB, sC, sN, sM, sT, sF] at hq; try (exfalso; omega)) | skip)) | refine aE rfl rfl (nb rfl) rfl rfl rfl rfl (c1) ?_ | refine aE rfl rfl (nb rfl) rfl rfl rfl rfl (c2) ?_) | (refine aN ?_;  first | refine aH ?_ | refine aQ ?_ | refine aY ?_ | refine aT ?_ | refine aU ?_ | refine aA (b := true) rfl (fun _ => ?_) nTf | refine aA (b := false) rfl nFt (fun _ => ?_)) | (refine aK ?_;  first | refine aX ?_ | refine aR ?_) | (refine bA ?_;  first | refine bF ?_))
        all_goals first
          | exact absurd rfl (by assumption)
          | (refine aV (by first | exact .inl rfl | exact .inr rfl) (bD rfl (aC rfl) (aC rfl)) rfl ?_; rfl)
          | (exfalso; simp_all [eqB]; done)
      | true =>
        rw [hsp] at hQ
        rw [if_neg (by simp)] at hQ
        unfold spOk at hsp
        have c3 := xQ long hl
        have c4 := aBc long hl
        obtain ⟨hsl, hsz⟩ := pG long
        cases hlg : longP long with
        | false =>
          rw [hlg] at c3 hQ
          rw [if_pos rfl] at hQ
          subst hQ
          clear c4
          refine aJ Tryz.func63 rfl rfl (nb rfl) rfl ?_
          repeat' (first | refine aG ?_ | (refine aI ?_;  first | refine aD tabOk rfl rfl rfl (nb rfl) rfl ?_ | refine bE rfl rfl (nb rfl) ?_ | (refine aM rfl rfl rfl (nb rfl) rfl rfl rfl (fun hq => ?_) (fun hq => ?_) <;> (first | (simp only [sD, sE, sB, sC, sN, sM, sT, sF] at hq; try (exfalso; omega)) | skip)) | refine aE rfl rfl (nb rfl) rfl rfl rfl rfl (c1) ?_ | refine aE rfl rfl (nb rfl) rfl rfl rfl rfl (c2) ?_ | refine aE rfl rfl (nb rfl) rfl rfl rfl rfl (c3) ?_) | (refine aN ?_;  first | refine aH ?_ | refine aQ ?_ | refine aY ?_ | refine aT ?_ | refine aU ?_ | refine aA (b := true) rfl (fun _ => ?_) nTf | refine aA (b := false) rfl nFt (fun _ => ?_)) | (refine aK ?_;  first | refine aX ?_ | refine aR ?_) | (refine bA ?_;  first | refine bF ?_))
          all_goals first
            | exact absurd rfl (by assumption)
            | (exfalso; simp_all [eqB]; done)
            | (refine aV (by first | exact .inl rfl | exact .inr rfl) (bD rfl (aC rfl) (aC rfl)) rfl ?_; rfl)
        | true =>
          rw [hlg] at c3 hQ
          rw [if_neg (by simp)] at hQ
          generalize splitP long = l at *
          refine aJ Tryz.func63 rfl rfl (nb rfl) rfl ?_
          repeat' (first | refine aG ?_ | (refine aI ?_;  first | refine aD tabOk rfl rfl rfl (nb rfl) rfl ?_ | refine bE rfl rfl (nb rfl) ?_ | (refine aM rfl rfl rfl (nb rfl) rfl rfl rfl (fun hq => ?_) (fun hq => ?_) <;> (first | (simp only [sD, sE, sB, sC, sN, sM, sT, sF] at hq; try (exfalso; omega)) | skip)) | refine aE rfl rfl (nb rfl) rfl rfl rfl rfl (c1) ?_ | refine aE rfl rfl (nb rfl) rfl rfl rfl rfl (c2) ?_ | refine aE rfl rfl (nb rfl) rfl rfl rfl rfl (c3) ?_ | refine aE rfl rfl (nb rfl) rfl rfl rfl rfl (c4) ?_ | refine bB tabOk rfl rfl (nb rfl) rfl ?_) | (refine aN ?_;  first | refine aH ?_ | refine aQ ?_ | refine aY ?_ | refine aT ?_ | refine aU ?_ | refine aA (b := true) rfl (fun _ => ?_) nTf | refine aA (b := false) rfl nFt (fun _ => ?_)) | (refine aK ?_;  first | refine aX ?_ | refine aR ?_) | (refine bA ?_;  first | refine bU ?_ | refine bF ?_))
          all_goals first
            | exact absurd rfl (by assumption)
            | (exfalso; simp_all [eqB]; done)
            | skip
          all_goals (
            clear hsp
            refine cI (ι := {p : Nat × Tree // p.1 ≤ l.length ∧ isSigP p.2 = true ∧ p.2.whole = true ∧ p.2.size ≤ 100000 ∧ atS space (l.drop p.1) p.2 = Q}) (fun p => S.f ⟨[(43, .imm (.lit (.int .i64 (p.1.1 : Int)))), (42, .imm (.lit (.int .i64 (l.length : Int)))), (41, .imm (.sl false l.length (strs l))), (9, .imm (.sl false l.length (strs l))), (0, .imm p.1.2.iv), (1, .imm (.lit (.string space)))], []⟩) (fun p => l.length - p.1.1) ⟨(0, t), Nat.zero_le _, hsig, hw, hs, hQ⟩ (cA (by repeat' first | exact trivial | refine ⟨rfl, ?_⟩) (by repeat' first | exact trivial | refine ⟨rfl, ?_⟩)) ?_
            rintro ⟨⟨j, u⟩, hj, us, uw, uz, hu⟩
            dsimp only at hj us uw uz hu ⊢
            clear c1 c2 c3 c4 hw hz hsig hs hc hQ hlg
            by_cases hlt : j < l.length
            · rw [List.drop_eq_getElem_cons hlt, atS, pH l j hlt] at hu
              have hget := hG l j hlt
              have hsj := hsz _ (List.getElem_mem hlt)
              have s1 : (⟨#[109, 58]⟩ : ByteArray).size = 2 := rfl
              have s2 : (⟨#[58]⟩ : ByteArray).size = 1 := rfl
              have hf := kN us uw (labS space (decide (j + 1 = l.length)) l[j])
              have hkf := jA us
              generalize l[j] = s at *
              obtain ⟨k, n, a, b, kids, rfl⟩ := cF uw
              have hkl : kids.length < 1000000000 := by have := cC kids uw; simp only [Tree.size] at uz; omega
              change ∀ t ∈ kids, _ at hkf
              have ekk : (Tree.node k n a b kids).kids = kids := rfl
              rw [ekk] at hu hf
              have ci := fun label => rP kids 87 (.lit (.string label)) (isLab label) hkl (fun j h => zU _ label (bS uw (List.getElem_mem h)))
              by_cases hlast : j + 1 = l.length
              · rw [decide_eq_true hlast] at hu hf
                rw [aBe] at hu hf
                replace ci := ci ((space ++ ⟨#[58]⟩) ++ s)
                rcases eO ((space ++ ⟨#[58]⟩) ++ s) kids 0 with ⟨h1, h2⟩ | ⟨i, h1, h2, h3, h4⟩
                · rw [h2] at hu
                  rw [if_neg (by simp)] at hu
                  subst hu
                  generalize findP (isLab ((space ++ ⟨#[58]⟩) ++ s)) kids 0 = Z at *
                  repeat' (first | refine aG ?_ | (refine aI ?_;  first | refine aD tabOk rfl rfl rfl (nb rfl) rfl ?_ | (refine aM rfl rfl rfl (nb rfl) rfl rfl rfl (fun hq => ?_) (fun hq => ?_) <;> (first | (simp only [sD, sE, sB, sC, sN, sM, sT, sF] at hq; try (exfalso; omega)) | skip)) | refine bC tabOk rfl rfl rfl (nb rfl) rfl rfl rfl hget ?_ | refine dY rfl rfl rfl (nb rfl) rfl rfl (by first | omega | (simp only [dN]; omega)) ?_ | refine cP 1001 tabOk rfl rfl rfl (nb rfl) rfl rfl rfl rfl rfl rfl ?_ | refine cG rfl rfl (nb rfl) rfl rfl rfl rfl ci (by repeat' first | exact trivial | refine ⟨rfl, ?_⟩) rfl (by show ([1001] : List Nat).Nodup; decide) ?_ | refine bV rfl rfl rfl (nb rfl) rfl rfl rfl (by omega) (by omega) ?_ | refine bB tabOk rfl rfl (nb rfl) rfl ?_ | refine bJ tabOk rfl rfl rfl rfl rfl rfl rfl rfl rfl rfl rfl ?_ | refine bG tabOk rfl rfl rfl (nb rfl) rfl rfl rfl rfl (by first | assumption | omega) ?_) | (refine aN ?_;  first | refine aH ?_ | refine aQ ?_ | refine bH ?_ | refine aY ?_ | refine aT ?_ | refine aU ?_ | refine aA (b := true) rfl (fun _ => ?_) nTf) | (refine aK ?_;  first | refine aX ?_ | refine aR ?_) | (refine bA ?_;  first | refine bF ?_))
                  all_goals first
                    | (exfalso; omega)
                    | (refine aV (by first | exact .inl rfl | exact .inr rfl) (bD rfl (aC rfl) (aC rfl)) rfl ?_; rfl)
                · rw [h3] at hu hf
                  rw [if_pos rfl] at hu
                  rw [h2, Nat.add_zero] at ci
                  obtain ⟨g1, g2, g3⟩ := hf rfl
                  dsimp only at hu g1 g2 g3
                  have hm := List.getElem_mem h1
                  unfold isLab at h4
                  rw [Bool.and_eq_true, decide_eq_true_eq] at h4
                  obtain ⟨n', a', b', c, e⟩ := hkf _ hm h4.1
                  have hget2 := bX kids i h1
                  rw [e] at hget2 hu g1 g2 g3
                  dsimp only [kid0] at hu g1 g2 g3
                  clear h2 h3 h4 e hm hf hkf
                  repeat' (first | refine aG ?_ | (refine aI ?_;  first | refine aD tabOk rfl rfl rfl (nb rfl) rfl ?_ | (refine aM rfl rfl rfl (nb rfl) rfl rfl rfl (fun hq => ?_) (fun hq => ?_) <;> (first | (simp only [sD, sE, sB, sC, sN, sM, sT, sF] at hq; try (exfalso; omega)) | skip)) | refine bC tabOk rfl rfl rfl (nb rfl) rfl rfl rfl hget ?_ | refine dY rfl rfl rfl (nb rfl) rfl rfl (by first | omega | (simp only [dN]; omega)) ?_ | refine bC tabOk rfl rfl rfl (nb rfl) rfl rfl rfl hget2 ?_ | refine cP 1001 tabOk rfl rfl rfl (nb rfl) rfl rfl rfl rfl rfl rfl ?_ | refine cG rfl rfl (nb rfl) rfl rfl rfl rfl ci (by repeat' first | exact trivial | refine ⟨rfl, ?_⟩) rfl (by show ([1001] : List Nat).Nodup; decide) ?_ | refine bP rfl rfl rfl (nb rfl) rfl rfl (by omega) ?_ | refine bV rfl rfl rfl (nb rfl) rfl rfl rfl (by omega) (by omega) ?_ | refine bB tabOk rfl rfl (nb rfl) rfl ?_ | refine bJ tabOk rfl rfl rfl rfl rfl rfl rfl rfl rfl rfl rfl ?_ | refine bG tabOk rfl rfl rfl (nb rfl) rfl rfl rfl rfl (by first | assumption | omega) ?_ | refine bN tabOk rfl rfl rfl (nb rfl) rfl rfl rfl rfl (by first | rfl | omega) (by first | omega | simp) ?_) | (refine aN ?_;  first | refine aH ?_ | refine aQ ?_ | refine bH ?_ | refine aY ?_ | refine aU ?_ | refine aA (b := true) rfl (fun _ => ?_) nTf | refine aA (b := false) rfl nFt (fun _ => ?_)) | (refine aK ?_;  first | refine aX ?_) | (refine bA ?_;  first | refine bU ?_))
                  all_goals first
                    | (exfalso; omega)
                    | exact ⟨⟨(j + 1, c), hlt, g1, g2, Nat.le_trans (Nat.le_of_lt g3) uz, hu⟩, (by show l.length - (j + 1) < l.length - j; omega), (cA (by repeat' first | exact trivial | refine ⟨rfl, ?_⟩) (by repeat' first | exact trivial | refine ⟨rfl, ?_⟩))⟩
              · rw [decide_eq_false hlast] at hu hf
                rw [aBf] at hu hf
                replace ci := ci (⟨#[109, 58]⟩ ++ s)
                rcases eO (⟨#[109, 58]⟩ ++ s) kids 0 with ⟨h1, h2⟩ | ⟨i, h1, h2, h3, h4⟩
                · rw [h2] at hu
                  rw [if_neg (by simp)] at hu
                  subst hu
                  generalize findP (isLab (⟨#[109, 58]⟩ ++ s)) kids 0 = Z at *
                  repeat' (first | refine aG ?_ | (refine aI ?_;  first | refine aD tabOk rfl rfl rfl (nb rfl) rfl ?_ | (refine aM rfl rfl rfl (nb rfl) rfl rfl rfl (fun hq => ?_) (fun hq => ?_) <;> (first | (simp only [sD, sE, sB, sC, sN, sM, sT, sF] at hq; try (exfalso; omega)) | skip)) | refine bC tabOk rfl rfl rfl (nb rfl) rfl rfl rfl hget ?_ | refine dY rfl rfl rfl (nb rfl) rfl rfl (by first | omega | (simp only [dN]; omega)) ?_ | refine cP 1001 tabOk rfl rfl rfl (nb rfl) rfl rfl rfl rfl rfl rfl ?_ | refine cG rfl rfl (nb rfl) rfl rfl rfl rfl ci (by repeat' first | exact trivial | refine ⟨rfl, ?_⟩) rfl (by show ([1001] : List Nat).Nodup; decide) ?_ | refine bV rfl rfl rfl (nb rfl) rfl rfl rfl (by omega) (by omega) ?_ | refine bB tabOk rfl rfl (nb rfl) rfl ?_ | refine bJ tabOk rfl rfl rfl rfl rfl rfl rfl rfl rfl rfl rfl ?_ | refine bG tabOk rfl rfl rfl (nb rfl) rfl rfl rfl rfl (by first | assumption | omega) ?_) | (refine aN ?_;  first | refine aH ?_ | refine aQ ?_ | refine aY ?_ | refine aT ?_ | refine aU ?_ | refine aA (b := true) rfl (fun _ => ?_) nTf | refine aA (b := false) rfl nFt (fun _ => ?_)) | (refine aK ?_;  first | refine aX ?_ | refine aR ?_) | (refine bA ?_;  first | refine bF ?_))
                  all_goals first
                    | (exfalso; omega)
                    | (refine aV (by first | exact .inl rfl | exact .inr rfl) (bD rfl (aC rfl) (aC rfl)) rfl ?_; rfl)
                · rw [h3] at hu hf
                  rw [if_pos rfl] at hu
                  rw [h2, Nat.add_zero] at ci
                  obtain ⟨g1, g2, g3⟩ := hf rfl
                  dsimp only at hu g1 g2 g3
                  have hm := List.getElem_mem h1
                  unfold isLab at h4
                  rw [Bool.and_eq_true, decide_eq_true_eq] at h4
                  obtain ⟨n', a', b', c, e⟩ := hkf _ hm h4.1
                  have hget2 := bX kids i h1
                  rw [e] at hget2 hu g1 g2 g3
                  dsimp only [kid0] at hu g1 g2 g3
                  clear h2 h3 h4 e hm hf hkf
                  repeat' (first | refine aG ?_ | (refine aI ?_;  first | refine aD tabOk rfl rfl rfl (nb rfl) rfl ?_ | (refine aM rfl rfl rfl (nb rfl) rfl rfl rfl (fun hq => ?_) (fun hq => ?_) <;> (first | (simp only [sD, sE, sB, sC, sN, sM, sT, sF] at hq; try (exfalso; omega)) | skip)) | refine bC tabOk rfl rfl rfl (nb rfl) rfl rfl rfl hget ?_ | refine dY rfl rfl rfl (nb rfl) rfl rfl (by first | omega | (simp only [dN]; omega)) ?_ | refine bC tabOk rfl rfl rfl (nb rfl) rfl rfl rfl hget2 ?_ | refine cP 1001 tabOk rfl rfl rfl (nb rfl) rfl rfl rfl rfl rfl rfl ?_ | refine cG rfl rfl (nb rfl) rfl rfl rfl rfl ci (by repeat' first | exact trivial | refine ⟨rfl, ?_⟩) rfl (by show ([1001] : List Nat).Nodup; decide) ?_ | refine bP rfl rfl rfl (nb rfl) rfl rfl (by omega) ?_ | refine bV rfl rfl rfl (nb rfl) rfl rfl rfl (by omega) (by omega) ?_ | refine bB tabOk rfl rfl (nb rfl) rfl ?_ | refine bJ tabOk rfl rfl rfl rfl rfl rfl rfl rfl rfl rfl rfl ?_ | refine bG tabOk rfl rfl rfl (nb rfl) rfl rfl rfl rfl (by first | assumption | omega) ?_ | refine bN tabOk rfl rfl rfl (nb rfl) rfl rfl rfl rfl (by first | rfl | omega) (by first | omega | simp) ?_) | (refine aN ?_;  first | refine aH ?_ | refine aQ ?_ | refine bH ?_ | refine aY ?_ | refine aU ?_ | refine aA (b := true) rfl (fun _ => ?_) nTf | refine aA (b := false) rfl nFt (fun _ => ?_)) | (refine aK ?_;  first | refine aX ?_) | (refine bA ?_;  first | refine bU ?_))
                  all_goals first
                    | (exfalso; omega)
                    | exact ⟨⟨(j + 1, c), hlt, g1, g2, Nat.le_trans (Nat.le_of_lt g3) uz, hu⟩, (by show l.length - (j + 1) < l.length - j; omega), (cA (by repeat' first | exact trivial | refine ⟨rfl, ?_⟩) (by repeat' first | exact trivial | refine ⟨rfl, ?_⟩))⟩
            · have ej : j = l.length := by omega
              subst ej
              rw [List.drop_length, atS] at hu
              subst hu
              obtain ⟨pu, hpu⟩ := dT (dG uw)
              dsimp only
              rw [hpu]
              repeat' (first | refine aG ?_ | (refine aI ?_;  first | refine aD tabOk rfl rfl rfl (nb rfl) rfl ?_ | (refine aM rfl rfl rfl (nb rfl) rfl rfl rfl (fun hq => ?_) (fun hq => ?_) <;> (first | (simp only [sD, sE, sB, sC, sN, sM, sT, sF] at hq; try (exfalso; omega)) | skip))) | (refine aN ?_;  first | refine aH ?_ | refine aQ ?_ | refine aT ?_ | refine bW ?_ | refine aA (b := false) rfl nFt (fun _ => ?_)) | (refine aK ?_;  first | refine aX ?_ | refine bM ?_) | (refine bA ?_;  first | refine bI ?_))
              all_goals first
                | (exfalso; omega)
                | (refine aV (by first | exact .inl rfl | exact .inr rfl) (bD rfl (aC rfl) (aC rfl)) rfl ?_; rfl))
  · rw [if_pos hc] at hQ
    subst hQ
    generalize checkP sformP t = C at *
    refine aJ Tryz.func63 rfl rfl (nb rfl) rfl ?_
    repeat' (first | refine aG ?_ | (refine aI ?_;  first | refine aD tabOk rfl rfl rfl (nb rfl) rfl ?_ | (refine aM rfl rfl rfl (nb rfl) rfl rfl rfl (fun hq => ?_) (fun hq => ?_) <;> (first | (simp only [sD, sE, sB, sC, sN, sM, sT, sF] at hq; try (exfalso; omega)) | skip)) | refine aE rfl rfl (nb rfl) rfl rfl rfl rfl (c1) ?_) | (refine aN ?_;  first | refine aH ?_ | refine aQ ?_ | refine aT ?_ | refine aA (b := true) rfl (fun _ => ?_) nTf) | (refine aK ?_;  first | refine aR ?_))
    all_goals first
      | exact absurd rfl (by assumption)
      | exact absurd (by assumption) hc
      | (refine aV (by first | exact .inl rfl | exact .inr rfl) (bD rfl (aC rfl) (aC rfl)) rfl ?_; rfl)
end Go.Proofs.YtdajnmffoopcaaaGreatDoor.Ab
namespace Go.Proofs.YtdajnmffoopcaaaGreatDoor.Ab
set_option linter.unusedVariables false
set_option linter.unusedSimpArgs false
attribute [local irreducible] AWP AOps AExit AThen ABlock ANoGoto FeetOk
set_option maxHeartbeats 8000000 in
set_option maxRecDepth 10000 in
theorem aCh {σ : Type} (V : Int → Int → σ → Tree × σ) (F : FuncId) (X0 X1 : σ → IV) (J : σ → Prop)
    (hV : ∀ (n d : Int) s, J s → 0 ≤ n → n ≤ 65536 → 0 ≤ d → d ≤ 1000000 → ACalls Tryz.prog F ([.imm (varT n).iv, .imm (.lit (.int .i64 d)), .obj 1000 0, .obj 1001 0]) [(1000, .cells [.imm (X0 s)]), (1001, .cells [.imm (X1 s)])] (.imm (V n d s).1.iv) [(1000, .cells [.imm (X0 ((V n d s).2))]), (1001, .cells [.imm (X1 ((V n d s).2))])] ∧ J (V n d s).2 ∧ (V n d s).1 ≠ .nil) (t : Tree) :
    ∀ (d : Int) s, okVars t = true → t.whole = true → 0 ≤ d → d + t.size ≤ 1000000 → J s → ACalls Tryz.prog 43 [.imm t.iv, .imm (.lit (.int .i64 d)), .func F [] [.obj 1000 0, .obj 1001 0]] [(1000, .cells [.imm (X0 s)]), (1001, .cells [.imm (X1 s)])] (.imm (walkS V t d s).1.iv) [(1000, .cells [.imm (X0 ((walkS V t d s).2))]), (1001, .cells [.imm (X1 ((walkS V t d s).2))])] ∧ J (walkS V t d s).2 ∧ (walkS V t d s).1 ≠ .nil := by
  induction t using Tree.ind with
  | h1 => intro d s _ h; simp [Tree.whole] at h
  | h2 k n a b kids ih =>
    intro d s hv hw hd hs hJ
    have hl := cC kids hw
    have hsz : (Tree.node k n a b kids).size = 1 + Tree.sizes kids := by rw [Tree.size]
    rw [hsz] at hs
    by_cases k110 : k = 110
    · obtain ⟨q1, q2, rfl, rfl, rfl⟩ := dB k110 hv
      subst k110
      have hc := hV n d s hJ q1 q2 hd (by omega)
      rw [dP]
      refine ⟨?_, hc.2⟩
      have hc := hc.1
      generalize V n d s = R at *
      obtain ⟨R1, R2⟩ := R
      dsimp only at hc ⊢
      refine cD [1000, 1001] Tryz.func43 rfl rfl (nb rfl) rfl rfl ?_
      repeat' (first | refine aG ?_ | (refine aI ?_;  first | refine aD tabOk rfl rfl rfl (nb rfl) rfl ?_ | (refine aM rfl rfl rfl (nb rfl) rfl rfl rfl (fun hq => ?_) (fun hq => ?_) <;> (first | (simp only [sD, sE, sB, sC, sN, sM, sT, sF] at hq; try (exfalso; omega)) | skip)) | refine cG rfl rfl (nb rfl) rfl rfl rfl rfl hc (by repeat' first | exact trivial | refine ⟨rfl, ?_⟩) rfl (by show ([1000, 1001] : List Nat).Nodup; decide) ?_) | (refine aN ?_;  first | refine aH ?_ | refine aQ ?_ | refine aT ?_ | refine aA (b := true) rfl (fun _ => ?_) nTf) | (refine aK ?_;  first | refine aR ?_))
      all_goals first
        | exact absurd rfl (by assumption)
        | (refine cN (cE (by first | exact .inl rfl | exact .inr rfl) (aZ rfl (aC rfl)) rfl (by repeat' first | exact trivial | refine ⟨rfl, ?_⟩) rfl ?_); rfl)
    · by_cases hk0 : kids.length = 0
      · have e0 : kids = [] := List.eq_nil_of_length_eq_zero hk0
        subst e0
        rw [fX _ _ _ _ k110]
        refine ⟨?_, hJ, by simp⟩
        refine cD [1000, 1001] Tryz.func43 rfl rfl (nb rfl) rfl rfl ?_
        repeat' (first | refine aG ?_ | (refine aI ?_;  first | refine aD tabOk rfl rfl rfl (nb rfl) rfl ?_ | (refine aM rfl rfl rfl (nb rfl) rfl rfl rfl (fun hq => ?_) (fun hq => ?_) <;> (first | (simp only [sD, sE, sB, sC, sN, sM, sT, sF] at hq; try (exfalso; omega)) | skip)) | refine bB tabOk rfl rfl (nb rfl) rfl ?_) | (refine aN ?_;  first | refine aH ?_ | refine aQ ?_ | refine aT ?_ | refine aU ?_ | refine aA (b := true) rfl (fun _ => ?_) nTf | refine aA (b := false) rfl nFt (fun _ => ?_)) | (refine aK ?_;  first | refine aX ?_ | refine aR ?_))
        all_goals first
          | exact absurd rfl (by assumption)
          | exact absurd (by assumption) k110
          | (refine cN (cE (by first | exact .inl rfl | exact .inr rfl) (aZ rfl (aC rfl)) rfl (by repeat' first | exact trivial | refine ⟨rfl, ?_⟩) rfl ?_); rfl)
      · rw [fY _ _ _ _ k110 hk0]
        dsimp only
        have hb := eI k
        have hvs := dA k110 hv
        have hind : ∀ j (h : j < kids.length) s', J s' → ACalls Tryz.prog 43 [.imm kids[j].iv, .imm (.lit (.int .i64 (d + bindsP k))), .func F [] [.obj 1000 0, .obj 1001 0]] [(1000, .cells [.imm (X0 s')]), (1001, .cells [.imm (X1 s')])] (.imm (walkS V kids[j] (d + bindsP k) s').1.iv) [(1000, .cells [.imm (X0 ((walkS V kids[j] (d + bindsP k) s').2))]), (1001, .cells [.imm (X1 ((walkS V kids[j] (d + bindsP k) s').2))])] ∧ J (walkS V kids[j] (d + bindsP k) s').2 ∧ (walkS V kids[j] (d + bindsP k) s').1 ≠ .nil := fun j h s' hJ' => by
          have hm := List.getElem_mem h
          have hz := dE hm
          exact ih _ hm _ s' (hvs _ hm) (bS hw hm) (by omega) (by omega) hJ'
        clear ih
        have hJs : ∀ j, j ≤ kids.length → J (walkSs V (kids.take j) (d + bindsP k) s).2 := by
          intro j
          induction j with
          | zero => intro _; rw [List.take_zero, dD]; exact hJ
          | succ j ihj =>
            intro hj
            rw [dZ V (d + bindsP k) s hj]
            exact (hind j hj _ (ihj (by omega))).2.1
        have hJe := hJs kids.length (Nat.le_refl _)
        rw [List.take_length] at hJe
        refine ⟨?_, hJe, by simp⟩
        clear hJe
        have cb := rM k n a b kids
        refine cD [1000, 1001] Tryz.func43 rfl rfl (nb rfl) rfl rfl ?_
        repeat' (first | refine aG ?_ | (refine aI ?_;  first | refine aD tabOk rfl rfl rfl (nb rfl) rfl ?_ | (refine aM rfl rfl rfl (nb rfl) rfl rfl rfl (fun hq => ?_) (fun hq => ?_) <;> (first | (simp only [sD, sE, sB, sC, sN, sM, sT, sF] at hq; try (exfalso; omega)) | skip)) | refine bB tabOk rfl rfl (nb rfl) rfl ?_ | refine cJ tabOk rfl rfl rfl (nb rfl) rfl rfl rfl rfl rfl rfl ?_ | refine bJ tabOk rfl rfl rfl rfl rfl rfl rfl rfl rfl rfl rfl ?_) | (refine aN ?_;  first | refine aH ?_ | refine aQ ?_ | refine aY ?_ | refine aU ?_ | refine aA (b := false) rfl nFt (fun _ => ?_)) | (refine aK ?_;  first | refine aX ?_))
        all_goals first
          | exact absurd (by assumption) k110
          | (exfalso; omega)
          | skip
        refine dH (dU (h0 := 7) (k0 := 4) 500 25 1 rfl rfl (by simp) rfl rfl) ?_
        refine cI (ι := {j : Nat // j ≤ kids.length}) (fun j => S.f ⟨[(35, .imm (.lit (.int .i64 (j.1 : Int)))), (34, .imm (.lit (.int .i64 (kids.length : Int)))), (33, .imm (.sl false kids.length (Tree.ivs kids))), (7, .obj 7 0), (0, .imm (Tree.iv (.node k n a b kids))), (1, .imm (.lit (.int .i64 d))), (2, .func F [] [.obj 1000 0, .obj 1001 0])], (500, .arr 25 1 j.1 (Tree.ivs (walkSs V (kids.take j.1) (d + bindsP k) s).1)) :: (7, .cells [.imm (.lit (.int .i64 k)), .imm (.lit (.int .i64 n)), .imm (.lit (.string a)), .imm (.lit (.string b)), .ref 500 j.1]) :: [(1000, .cells [.imm (X0 ((walkSs V (kids.take j.1) (d + bindsP k) s).2))]), (1001, .cells [.imm (X1 ((walkSs V (kids.take j.1) (d + bindsP k) s).2))])]⟩) (fun j => kids.length - j.1) ⟨0, Nat.zero_le _⟩ (cA (by repeat' first | exact trivial | refine ⟨rfl, ?_⟩) (by repeat' first | exact trivial | refine ⟨rfl, ?_⟩)) ?_
        rintro ⟨j, hj⟩
        dsimp only
        by_cases hlt : j < kids.length
        · have hget := bX kids j hlt
          have hnx := dZ V (d + bindsP k) s hlt
          obtain ⟨hc, _, hnn⟩ := hind j hlt _ (hJs j hj)
          obtain ⟨pc, hpc⟩ := dT hnn
          rw [hpc] at hc
          have hll := dS V (kids.take j) (d + bindsP k) s
          rw [List.length_take, Nat.min_eq_left hj] at hll
          have hiv : Tree.ivs (walkSs V (kids.take (j + 1)) (d + bindsP k) s).1 = Tree.ivs (walkSs V (kids.take j) (d + bindsP k) s).1 ++ [(walkS V kids[j] (d + bindsP k) (walkSs V (kids.take j) (d + bindsP k) s).2).1.iv] := by
            rw [hnx, dL, dL, List.map_append]; rfl
          rw [hpc] at hiv
          clear hpc hnn
          have hst : (walkSs V (kids.take (j + 1)) (d + bindsP k) s).2 = (walkS V kids[j] (d + bindsP k) (walkSs V (kids.take j) (d + bindsP k) s).2).2 := by rw [hnx]
          clear hnx hind hJs
          have hil := eG (walkSs V (kids.take j) (d + bindsP k) s).1
          rw [hll] at hil
          generalize walkS V kids[j] (d + bindsP k) (walkSs V (kids.take j) (d + bindsP k) s).2 = W at *
          generalize walkSs V (kids.take j) (d + bindsP k) s = Z at *
          obtain ⟨W1, W2⟩ := W
          obtain ⟨Z1, Z2⟩ := Z
          dsimp only at *
          generalize Tree.ivs Z1 = ZI at *
          generalize hsum : d + bindsP k = dk at *
          repeat' (first | refine aG ?_ | (refine aI ?_;  first | refine aD tabOk rfl rfl rfl (nb rfl) rfl ?_ | (refine aM rfl rfl rfl (nb rfl) rfl rfl rfl (fun hq => ?_) (fun hq => ?_) <;> (first | (simp only [sD, sE, sB, sC, sN, sM, sT, sF] at hq; try (exfalso; omega)) | skip)) | refine bC tabOk rfl rfl rfl (nb rfl) rfl rfl rfl hget ?_ | refine aE rfl rfl (nb rfl) rfl rfl rfl rfl (cb) ?_ | refine bY (z := dk) rfl rfl rfl (nb rfl) rfl rfl hsum (by omega) (by omega) ?_ | refine cG rfl rfl (nb rfl) rfl rfl rfl rfl hc (by repeat' first | exact trivial | refine ⟨rfl, ?_⟩) rfl (by show ([1000, 1001] : List Nat).Nodup; decide) ?_ | refine dF tabOk rfl rfl rfl (nb rfl) rfl rfl rfl rfl rfl rfl rfl (by first | omega | decide) rfl (by first | omega | (dsimp only; omega)) (by first | omega | (dsimp only; omega)) ?_ | refine bP rfl rfl rfl (nb rfl) rfl rfl (by omega) ?_ | refine cH tabOk rfl rfl rfl (nb rfl) rfl rfl rfl rfl rfl rfl rfl rfl rfl ?_ | refine bO tabOk rfl rfl rfl (nb rfl) rfl rfl rfl rfl ?_ | refine bJ tabOk rfl rfl rfl rfl rfl rfl rfl rfl rfl rfl rfl ?_ | refine bG tabOk rfl rfl rfl (nb rfl) rfl rfl rfl rfl (by first | assumption | omega) ?_) | (refine aN ?_;  first | refine aH ?_ | refine aQ ?_ | refine bH ?_ | refine aY ?_ | refine aU ?_ | refine aA (b := true) rfl (fun _ => ?_) nTf | refine aW mixed (by kernel_rfl) ?_) | (refine aK ?_;  first | refine aX ?_) | (refine bA ?_;  first | refine bU ?_) | refine bQ (bL (by kernel_rfl)) ?_)
          all_goals first
            | (exfalso; omega)
            | (refine ⟨⟨j + 1, hlt⟩, (by show kids.length - (j + 1) < kids.length - j; omega), ?_⟩; dsimp only; rw [hiv, hst]; exact (cA (by repeat' first | exact trivial | refine ⟨rfl, ?_⟩) (by repeat' first | exact trivial | refine ⟨rfl, ?_⟩)))
        · have ej : j = kids.length := by omega
          subst ej
          rw [List.take_length]
          have hll := dS V kids (d + bindsP k) s
          clear hind hJs
          generalize walkSs V kids (d + bindsP k) s = Z at *
          obtain ⟨Z1, Z2⟩ := Z
          dsimp only at *
          have hiv : (Tree.node k n a b Z1).iv = .ptr [.lit (.int .i64 k), .lit (.int .i64 n), .lit (.string a), .lit (.string b), .sl false kids.length (Tree.ivs Z1)] 0 := by rw [Tree.iv, hll]
          rw [hiv]
          generalize Tree.ivs Z1 = ZI at *
          repeat' (first | refine aG ?_ | (refine aI ?_;  first | refine aD tabOk rfl rfl rfl (nb rfl) rfl ?_ | (refine aM rfl rfl rfl (nb rfl) rfl rfl rfl (fun hq => ?_) (fun hq => ?_) <;> (first | (simp only [sD, sE, sB, sC, sN, sM, sT, sF] at hq; try (exfalso; omega)) | skip))) | (refine aN ?_;  first | refine aH ?_ | refine aQ ?_ | refine aT ?_ | refine bW ?_ | refine aA (b := false) rfl nFt (fun _ => ?_)) | (refine aK ?_;  first | refine aX ?_ | refine bM ?_) | (refine bA ?_;  first | refine bI ?_))
          all_goals first
            | (exfalso; omega)
            | (refine gV ((Imp.of_le (σ' := S.f ⟨[(6, .obj 7 0)], (500, .arr 25 1 kids.length ZI) :: (7, .cells [.imm (.lit (.int .i64 k)), .imm (.lit (.int .i64 n)), .imm (.lit (.string a)), .imm (.lit (.string b)), .ref 500 kids.length]) :: [(1000, .cells [.imm (X0 Z2)]), (1001, .cells [.imm (X1 Z2)])]⟩) (cA (by repeat' first | exact trivial | refine ⟨rfl, ?_⟩) (by repeat' first | exact trivial | refine ⟨rfl, ?_⟩))).trans ((dC (g := 500) rfl (by repeat' first | exact trivial | exact fun _ => rfl | refine ⟨?_, ?_⟩) (by repeat' first | exact trivial | exact fun _ => rfl | refine ⟨?_, ?_⟩)).trans (dI (g := 7) rfl rfl))) ?_
               refine cE (by first | exact .inl rfl | exact .inr rfl) (aZ rfl (aC rfl)) rfl (by repeat' first | exact trivial | refine ⟨rfl, ?_⟩) rfl rfl)
end Go.Proofs.YtdajnmffoopcaaaGreatDoor.Ab
namespace Go.Proofs.YtdajnmffoopcaaaGreatDoor.Ab
set_option linter.unusedVariables false
set_option linter.unusedSimpArgs false
/-- What Occurs makes of a variable. -/
def occV (i n d : Int) (s : Bool) : Tree × Bool := (varT n, s || decide (0 ≤ i ∧ d ≤ n ∧ n - d = i))
def occP (c : Tree) (i : Int) : Bool := decide (checkP isConP c = 0) && decide (0 ≤ i ∧ 0 < cntP i c 0)
theorem aCi (i : Int) (t : Tree) : ∀ d s, okVars t = true → (walkS (occV i) t d s).2 = (s || decide (0 ≤ i ∧ 0 < cntP i t d)) := by
  induction t using Tree.ind with
  | h1 => intro d s h; simp [okVars] at h
  | h2 k n a b kids ih =>
    intro d s hv
    by_cases hk : k = 110
    · obtain ⟨_, _, rfl, rfl, rfl⟩ := dB hk hv
      subst hk
      rw [dP, cntP, cntPs]
      unfold occV
      dsimp only
      congr 1
      by_cases h : d ≤ n ∧ n - d = i
      · rw [if_pos ⟨rfl, h⟩]
        exact decide_eq_decide.2 ⟨fun h1 => ⟨h1.1, by omega⟩, fun h1 => ⟨h1.1, h⟩⟩
      · rw [if_neg fun h1 => h h1.2]
        exact decide_eq_decide.2 ⟨fun h1 => absurd h1.2 h, fun h1 => absurd h1.2 (by omega)⟩
    · have hvs := dA hk hv
      rw [eE _ _ _ _ kids hk, cntP, if_neg fun h1 => hk h1.1, Nat.zero_add]
      have key : ∀ l : List Tree, (∀ t ∈ l, t ∈ kids) → ∀ s, (walkSs (occV i) l (d + bindsP k) s).2 = (s || decide (0 ≤ i ∧ 0 < cntPs i l (d + bindsP k))) := by
        intro l
        induction l with
        | nil => intro _ s; rw [walkSs, cntPs]; simp
        | cons t ts ih2 =>
          intro hm s
          rw [walkSs, cntPs]
          dsimp only
          rw [ih2 (fun t' h' => hm t' (by simp [h'])), ih t (hm t (by simp)) _ _ (hvs t (hm t (by simp))), Bool.or_assoc]
          congr 1
          rw [← Bool.decide_or]
          exact decide_eq_decide.2 (by omega)
      exact key kids (fun _ h => h) s
theorem aBh {σ : Type} (V : Int → Int → σ → Tree × σ) (B : Nat) (hB : 1 ≤ B) (hV : ∀ n d s, (V n d s).1.size ≤ B) (t : Tree) : ∀ d s, okVars t = true → (walkS V t d s).1.size ≤ t.size * B := by
  induction t using Tree.ind with
  | h1 => intro d s h; simp [okVars] at h
  | h2 k n a b kids ih =>
    intro d s hv
    by_cases hk : k = 110
    · obtain ⟨_, _, rfl, rfl, rfl⟩ := dB hk hv
      subst hk
      rw [dP]
      have := hV n d s
      have e : (Tree.node 110 n emptyB emptyB []).size = 1 := rfl
      rw [e]; omega
    · have hvs := dA hk hv
      rw [eE _ _ _ _ kids hk]
      have key : ∀ l : List Tree, (∀ t ∈ l, t ∈ kids) → ∀ s, Tree.sizes (walkSs V l (d + bindsP k) s).1 ≤ Tree.sizes l * B := by
        intro l
        induction l with
        | nil => intro _ s; rw [walkSs]; simp [Tree.sizes]
        | cons t ts ih2 =>
          intro hm s
          rw [walkSs]
          dsimp only
          rw [Tree.sizes, Tree.sizes, Nat.add_mul]
          exact Nat.add_le_add (ih t (hm t (by simp)) _ _ (hvs t (hm t (by simp)))) (ih2 (fun t' h' => hm t' (by simp [h'])) _)
      have := key kids (fun _ h => h) s
      rw [Tree.size, Tree.size, Nat.add_mul]
      omega
theorem wQ {t : Tree} (h : checkP isConP t = 0) : 1 ≤ t.size := tI (bK h).1
theorem zV (t : Tree) (i : Int) (by_ : Tree) (h : (substP t i by_).2 = 0) : (substP t i by_).1.size ≤ t.size * by_.size := by
  obtain ⟨_, _, ht, hb⟩ := iZ t i by_ h
  have hi : ¬ i < 0 := fun hi => by unfold substP at h; rw [if_neg (by simpa using ht), if_neg (by simpa using hb), if_pos hi] at h; cases h
  unfold substP at h ⊢
  rw [if_neg (by simpa using ht), if_neg (by simpa using hb), if_neg hi] at h ⊢
  split at h
  · cases h
  · rename_i hq
    rw [if_neg hq]
    have hb1 := wQ hb
    refine aBh _ by_.size hb1 (fun n d s => ?_) t 0 (0, 0) (cY t (bK ht).2.2)
    unfold substV
    split
    · exact hb1
    · split
      · exact hb1
      · split
        · exact hb1
        · rename_i h3
          have : (shiftP by_ d 0).2 = 0 := by
            by_cases hz : (shiftP by_ d 0).2 = 0
            · exact hz
            · exact absurd (.inr hz) h3
          exact (fF by_ d 0 this).2.1
theorem lL : Tree.nil.size = 0 := by simp [Tree.size]
theorem kP (t : Tree) (i : Int) (by_ : Tree) (h : (substP t i by_).2 ≠ 0) : (substP t i by_).1 = .nil := by
  unfold substP at h ⊢
  split
  · rfl
  · rename_i h1
    rw [if_neg h1] at h
    split
    · rfl
    · rename_i h2
      rw [if_neg h2] at h
      split
      · rfl
      · rename_i h3
        rw [if_neg h3] at h
        split
        · rfl
        · rename_i h4; rw [if_neg h4] at h; exact absurd rfl h
theorem aBi (i : Int) (by_ t : Tree) (d : Int) (ht : checkP isConP t = 0) (hb : checkP isConP by_ = 0) : (ssubC i by_ t d).1.size ≤ t.size * by_.size := by
  have hb1 := wQ hb
  unfold ssubC
  split
  · exact Nat.le_mul_of_pos_right _ hb1
  · split
    · rw [lL]; exact Nat.zero_le _
    · rename_i h
      have h0 : (shiftP by_ d 0).2 = 0 := by simpa using h
      have hs := (fF by_ d 0 h0).2.1
      by_cases h2 : (substP t (i + d) (shiftP by_ d 0).1).2 = 0
      · exact Nat.le_trans (zV _ _ _ h2) (Nat.mul_le_mul_left _ hs)
      · rw [kP _ _ _ h2, lL]; exact Nat.zero_le _
theorem aBj (C : Tree → Int → Tree × Int) (B : Nat) (hB : 1 ≤ B) (hC : ∀ c d, checkP isConP c = 0 → (C c d).1.size ≤ c.size * B) (t : Tree) : ∀ d K, okW t K = true → (swalkP C t d).1.size ≤ t.size * B := by
  induction t using Tree.ind with
  | h1 => intro d K h; simp [okW] at h
  | h2 k n a b kids ih =>
    intro d K hv
    rw [okW] at hv
    rw [swalkP]
    by_cases hk : k < 160
    · rw [if_pos hk] at hv ⊢
      exact hC _ d (by simpa using hv)
    · rw [if_neg hk] at hv ⊢
      rw [Bool.and_eq_true] at hv
      split
      · rw [lL]; exact Nat.zero_le _
      · have key : ∀ l : List Tree, (∀ t ∈ l, t ∈ kids) → Tree.sizes (swalkPs C l (d + sbindsP k n)).1 ≤ Tree.sizes l * B := by
          intro l
          induction l with
          | nil => intro _; rw [swalkPs]; simp [Tree.sizes]
          | cons t ts ih2 =>
            intro hm
            rw [swalkPs]
            split
            · simp [Tree.sizes]
            · split
              · simp [Tree.sizes]
              · dsimp only
                rw [Tree.sizes, Tree.sizes, Nat.add_mul]
                exact Nat.add_le_add (ih t (hm t (by simp)) _ _ (lE hv.2 t (hm t (by simp)))) (ih2 fun t' h' => hm t' (by simp [h']))
        have := key kids fun _ h => h
        dsimp only
        rw [Tree.size, Tree.size, Nat.add_mul]
        omega
theorem xR (i : Int) (by_ t : Tree) (hc : checkP sformP t = 0) (hb : checkP isConP by_ = 0) : (swalkP (ssubC i by_) t 0).1.size ≤ t.size * by_.size :=
  aBj _ _ (wQ hb) (fun c d h => aBi i by_ c d h hb) t 0 16384 (oL (bK hc).2.2)
end Go.Proofs.YtdajnmffoopcaaaGreatDoor.Ab
namespace Go.Proofs.YtdajnmffoopcaaaGreatDoor.Ab
set_option linter.unusedVariables false
set_option linter.unusedSimpArgs false
open Go.Proofs.YtdajnmffoopcaaaGreatDoor.RP
def Tree.num : Tree → Int
  | .nil => 0
  | .node _ n _ _ _ => n
def exT (N : Int) (s : Tree) : Tree := .node 164 N emptyB emptyB [s]
def solve3 (N : Int) (S : Tree × Int) : Tree × Int := if S.2 ≠ 0 then (.nil, S.2) else if ssmallP S.1 ≠ 0 then (.nil, ssmallP S.1) else (exT (N - 1) S.1, 0)
def solve2 (N : Int) (s : Tree) (i : Int) (B : Tree × Int) : Tree × Int := if B.2 ≠ 0 then (.nil, B.2) else solve3 N (ssubstP s i B.1)
def solve1 (N : Int) (s : Tree) (i : Int) (c : Tree) : Tree × Int := if i < 0 ∨ N ≤ i then (.nil, 2) else if occP c i = true then (.nil, 13) else solve2 N s i (shiftP c (-1) i)
def solveP (n : Tree) (i : Int) (c : Tree) : Tree × Int := if checkP sformP n ≠ 0 then (.nil, checkP sformP n) else if checkP isConP c ≠ 0 then (.nil, checkP isConP c) else if n.kind ≠ 164 then (.nil, 16) else solve1 n.num (kid0 n) i c
def atK (R : Tree × Int) : Tree × Int := if R.2 ≠ 0 then (.nil, R.2) else if R.1.kind ≠ 161 then (.nil, 10) else (kid0 R.1, 0)
def atE (s : Tree) (long : ByteArray) : Tree × Int := atK (sAtP s ⟨#[116]⟩ long)
def boundP (N : Int) (x : Tree) : Bool := decide (x.kind = 110) && decide (x.num < N)
def where1 (n : Tree) (X Y : Tree × Int) : Tree × Int := if X.2 ≠ 0 then (.nil, X.2) else if Y.2 ≠ 0 then (.nil, Y.2) else if boundP n.num X.1 = true then solveP n X.1.num Y.1 else if sameP X.1 Y.1 = true then (n, 0) else (.nil, 12)
def whereP (n : Tree) (long : ByteArray) (c : Tree) : Tree × Int := if checkP sformP n ≠ 0 then (.nil, checkP sformP n) else if checkP isConP c ≠ 0 then (.nil, checkP isConP c) else if n.kind ≠ 164 then (.nil, 16) else where1 n (atE (kid0 n) long) (shiftP c n.num 0)
def share1 (n : Tree) (X Y : Tree × Int) : Tree × Int := if X.2 ≠ 0 then (.nil, X.2) else if Y.2 ≠ 0 then (.nil, Y.2) else if sameP X.1 Y.1 = true then (n, 0) else if boundP n.num X.1 = true then solveP n X.1.num Y.1 else if boundP n.num Y.1 = true then solveP n Y.1.num X.1 else (.nil, 12)
def shareP (n : Tree) (a b : ByteArray) : Tree × Int := if checkP sformP n ≠ 0 then (.nil, checkP sformP n) else if n.kind ≠ 164 then (.nil, 16) else share1 n (atE (kid0 n) a) (atE (kid0 n) b)
theorem nL {n : Int} {a b : ByteArray} {nu : Bool} (h : sbareP n a b false nu = true) : a = emptyB ∧ b = emptyB := by
  unfold sbareP at h
  simp only [Bool.and_eq_true, Bool.false_or] at h
  exact ⟨(dO _ _).1 h.1.2, (dO _ _).1 h.1.1⟩
/-- An abstract signature's form. -/
theorem mT {n : Tree} (hc : checkP sformP n = 0) (hk : n.kind = 164) : ∃ N s, n = exT N s ∧ 0 ≤ N ∧ N ≤ 8192 ∧ isSigP s = true ∧ s.whole = true ∧ s.size + 1 = n.size := by
  obtain ⟨hw, hz, hf⟩ := bK hc
  rcases aAO hf with h | h | h
  · exfalso
    obtain ⟨k, m, a, b, kids, rfl⟩ := cF hw
    have hk : k = 164 := hk
    rcases eV h with ⟨h1, _⟩ | ⟨h1, _⟩ <;> omega
  · obtain ⟨N, a, b, s, rfl, h1, h2, h3⟩ := aBV h
    simp only [isExP, Bool.and_eq_true] at h
    obtain ⟨rfl, rfl⟩ := nL h.1.2
    exact ⟨N, s, rfl, h1, h2, h3, bS hw (by simp), by simp only [Tree.size, Tree.sizes]; omega⟩
  · exfalso
    obtain ⟨N, a, b, s, x, rfl, _⟩ := aAP h
    have hk : (165 : Int) = 164 := hk
    omega
theorem rY {t : Tree} {sp long : ByteArray} (h : (sAtP t sp long).2 = 0) : isSigP (sAtP t sp long).1 = true ∧ (sAtP t sp long).1.whole = true ∧ (sAtP t sp long).1.size ≤ t.size ∧ t.size ≤ 65536 := by
  unfold sAtP at h ⊢
  by_cases h1 : checkP sformP t = 0
  · rw [if_neg (by simpa using h1)] at h ⊢
    obtain ⟨hw, hz, _⟩ := bK h1
    by_cases h2 : (isSigP t && spOk sp) = false
    · rw [if_pos h2] at h; cases h
    · rw [if_neg h2] at h ⊢
      by_cases h3 : longP long = false
      · rw [if_pos h3] at h; cases h
      · rw [if_neg h3] at h ⊢
        have hs : isSigP t = true := by
          cases hq : isSigP t with
          | true => rfl
          | false => rw [hq] at h2; simp at h2
        obtain ⟨g1, g2, g3⟩ := aBg sp (splitP long) t hs hw h
        exact ⟨g1, g2, g3, hz⟩
  · rw [if_pos h1] at h; exact absurd h h1
/-- What stands at a name, as it is asked for by the layers above. -/
theorem mA {s : Tree} {long : ByteArray} (h : (atE s long).2 = 0) : checkP isConP (atE s long).1 = 0 ∧ (atE s long).1.size ≤ s.size ∧ (sAtP s ⟨#[116]⟩ long).2 = 0 ∧ (sAtP s ⟨#[116]⟩ long).1 = .node 161 0 emptyB emptyB [(atE s long).1] := by
  unfold atE atK at h ⊢
  by_cases h1 : (sAtP s ⟨#[116]⟩ long).2 = 0
  · rw [if_neg (by simpa using h1)] at h ⊢
    obtain ⟨g1, g2, g3, _⟩ := rY h1
    generalize sAtP s ⟨#[116]⟩ long = R at *
    obtain ⟨R1, R2⟩ := R
    dsimp only at *
    by_cases h2 : R1.kind = 161
    · rw [if_neg (by simpa using h2)]
      obtain ⟨k, n, a, b, kids, rfl⟩ := cF g2
      have hk : k = 161 := h2
      subst hk
      rcases eV g1 with ⟨_, c, rfl, hc⟩ | ⟨h3, _⟩
      · rw [isSigP, Bool.and_eq_true] at g1
        have hb := g1.1
        obtain ⟨rfl, rfl⟩ := nL hb
        have hn : n = 0 := by
          unfold sbareP at hb
          simp only [Bool.and_eq_true, Bool.false_and, Bool.false_or, beq_iff_eq] at hb
          exact hb.2
        subst hn
        have hsz := cM (k := 161) (n := 0) (a := emptyB) (b := emptyB) (kids := [c]) (t := c) (by simp)
        exact ⟨hc, by show c.size ≤ _; omega, h1, rfl⟩
      · omega
    · rw [if_pos h2] at h; cases h
  · rw [if_pos h1] at h; exact absurd h h1
end Go.Proofs.YtdajnmffoopcaaaGreatDoor.Ab
namespace Go.Proofs.YtdajnmffoopcaaaGreatDoor.Ab
set_option linter.unusedVariables false
set_option linter.unusedSimpArgs false
open Go.Proofs.YtdajnmffoopcaaaGreatDoor.RP
theorem zW (t : Tree) : ∀ d, allV (fun _ _ => true) t d = true := by
  induction t using Tree.ind with
  | h1 => intro d; rw [allV]
  | h2 k n a b kids ih =>
    intro d
    by_cases hk : k = 110
    · subst hk; rw [jE]
    · rw [fO _ _ hk, List.all_eq_true]
      exact fun t ht => ih t ht _
theorem lM {c : Tree} (hc : checkP isConP c = 0) {b f : Int} (hf : 0 ≤ f) (h : (shiftP c b f).2 = 0) : allV (okG b f) c 0 = true ∧ shiftP c b f = (mapV (shG b f) c 0, 0) ∧ checkP isConP (mapV (shG b f) c 0) = 0 ∧ (mapV (shG b f) c 0).size = c.size := by
  obtain ⟨hw, hz, hcon⟩ := bK hc
  have hv := cY c hcon
  have e := lY c hc b f hf
  have hsc := zJ c hc b f hf h
  rw [e] at h hsc ⊢
  by_cases ha : allV (okG b f) c 0 = true
  · rw [if_pos ha] at hsc ⊢
    have hsz := zE (shG b f) c 0 hv
    exact ⟨ha, rfl, by rw [fM isConP _ (wI _ c 0 hw) (by omega), if_pos hsc], hsz⟩
  · rw [if_neg ha] at h; cases h
theorem wR {B : Tree} (hb : checkP isConP B = 0) : shiftP B 0 0 = (B, 0) := by
  obtain ⟨_, _, hcon⟩ := bK hb
  have hv := cY B hcon
  have ha : allV (okG 0 0) B 0 = true := uE _ _ B 0 hv (zW B 0) fun n x h1 h2 h3 _ => by
    unfold okG
    rw [decide_eq_true_eq]
    omega
  rw [lY B hb 0 0 (Int.le_refl _), if_pos ha]
  congr 1
  conv => rhs; rw [← aBW B 0 hv]
  refine wH _ _ _ B 0 hv ha fun n x h1 h2 h3 _ => ?_
  unfold shG
  split <;> omega
theorem kQ {s : Tree} {i : Int} {B : Tree} (h : (ssubstP s i B).2 = 0) : checkP sformP s = 0 ∧ checkP isConP B = 0 ∧ 0 ≤ i ∧ (swalkP (ssubC i B) s 0).2 = 0 ∧ (ssubstP s i B).1 = (swalkP (ssubC i B) s 0).1 ∧ (ssubstP s i B).1.whole = true ∧ (ssubstP s i B).1.size ≤ 65536 := by
  unfold ssubstP at h ⊢
  by_cases h1 : checkP sformP s = 0
  · rw [if_neg (by simpa using h1)] at h ⊢
    by_cases h2 : checkP isConP B = 0
    · rw [if_neg (by simpa using h2)] at h ⊢
      by_cases h3 : i < 0
      · rw [if_pos h3] at h; cases h
      · rw [if_neg h3] at h ⊢
        unfold sizedP at h ⊢
        by_cases h4 : (swalkP (ssubC i B) s 0).2 = 0
        · rw [if_neg (by simpa using h4)] at h ⊢
          by_cases h5 : (wholeP (swalkP (ssubC i B) s 0).1 65536).1 = 0
          · rw [if_neg (by simpa using h5)]
            have g2 := iY (swalkP (ssubC i B) s 0).1 65536 (by omega) h5
            have g3 := eR (swalkP (ssubC i B) s 0).1 65536 (by omega) h5
            exact ⟨h1, h2, by omega, h4, rfl, eT _ _ h5, by dsimp only; omega⟩
          · rw [if_pos h5] at h; exact absurd h h5
        · rw [if_pos h4] at h; exact absurd h h4
    · rw [if_pos h2] at h; exact absurd h h2
  · rw [if_pos h1] at h; exact absurd h h1
theorem zX {N : Int} {s : Tree} {i : Int} {c : Tree} (h : (solve1 N s i c).2 = 0) : 0 ≤ i ∧ i < N ∧ occP c i = false ∧ (shiftP c (-1) i).2 = 0 ∧ (ssubstP s i (shiftP c (-1) i).1).2 = 0 ∧ ssmallP (ssubstP s i (shiftP c (-1) i).1).1 = 0 ∧ (solve1 N s i c).1 = exT (N - 1) (ssubstP s i (shiftP c (-1) i).1).1 := by
  unfold solve1 at h ⊢
  by_cases h1 : i < 0 ∨ N ≤ i
  · rw [if_pos h1] at h; cases h
  · rw [if_neg h1] at h ⊢
    by_cases h2 : occP c i = true
    · rw [if_pos h2] at h; cases h
    · rw [if_neg h2] at h ⊢
      unfold solve2 at h ⊢
      by_cases h3 : (shiftP c (-1) i).2 = 0
      · rw [if_neg (by simpa using h3)] at h ⊢
        unfold solve3 at h ⊢
        by_cases h4 : (ssubstP s i (shiftP c (-1) i).1).2 = 0
        · rw [if_neg (by simpa using h4)] at h ⊢
          by_cases h5 : ssmallP (ssubstP s i (shiftP c (-1) i).1).1 = 0
          · rw [if_neg (by simpa using h5)]
            exact ⟨by omega, by omega, by simpa using h2, h3, h4, h5, rfl⟩
          · rw [if_pos h5] at h; exact absurd h h5
        · rw [if_pos h4] at h; exact absurd h h4
      · rw [if_pos h3] at h; exact absurd h h3
theorem fP {N : Int} {X : Tree} (hc : checkP isConP X = 0) (hb : boundP N X = true) : ∃ i, X = varT i ∧ 0 ≤ i ∧ i ≤ 65536 ∧ i < N := by
  obtain ⟨hw, _, hcon⟩ := bK hc
  obtain ⟨k, n, a, b, kids, rfl⟩ := cF hw
  unfold boundP at hb
  rw [Bool.and_eq_true, decide_eq_true_eq, decide_eq_true_eq] at hb
  have hk : k = 110 := hb.1
  subst hk
  obtain ⟨q1, q2, rfl, rfl, rfl⟩ := dB rfl (cY _ hcon)
  exact ⟨n, rfl, q1, q2, hb.2⟩
theorem zY {n c : Tree} {long : ByteArray} (h : (whereP n long c).2 = 0) : ∃ N s, n = exT N s ∧ checkP sformP (exT N s) = 0 ∧ checkP isConP c = 0 ∧ 0 ≤ N ∧ N ≤ 8192 ∧ isSigP s = true ∧ s.whole = true ∧ s.size + 1 = n.size ∧ (atE s long).2 = 0 ∧ (shiftP c N 0).2 = 0 ∧
    ((boundP N (atE s long).1 = true ∧ whereP n long c = solveP (exT N s) (atE s long).1.num (shiftP c N 0).1) ∨ (boundP N (atE s long).1 = false ∧ (atE s long).1 = (shiftP c N 0).1 ∧ whereP n long c = (exT N s, 0))) := by
  by_cases h1 : checkP sformP n = 0
  · by_cases h2 : checkP isConP c = 0
    · by_cases h3 : n.kind = 164
      · obtain ⟨N, s, rfl, n0, n1, hs, hw, hz⟩ := mT h1 h3
        have E : whereP (exT N s) long c = where1 (exT N s) (atE s long) (shiftP c N 0) := by
          unfold whereP
          rw [if_neg (by simpa using h1), if_neg (by simpa using h2), if_neg (by simpa using h3)]
          rfl
        rw [E] at h
        unfold where1 at E h
        have en : (exT N s).num = N := rfl
        rw [en] at E h
        by_cases hX : (atE s long).2 = 0
        · rw [if_neg (by simpa using hX)] at E h
          by_cases hY : (shiftP c N 0).2 = 0
          · rw [if_neg (by simpa using hY)] at E h
            refine ⟨N, s, rfl, h1, h2, n0, n1, hs, hw, hz, hX, hY, ?_⟩
            by_cases hb : boundP N (atE s long).1 = true
            · rw [if_pos hb] at E
              exact .inl ⟨hb, E⟩
            · rw [if_neg hb] at E h
              by_cases hsm : sameP (atE s long).1 (shiftP c N 0).1 = true
              · rw [if_pos hsm] at E
                exact .inr ⟨by simpa using hb, (gZ _ _).1 hsm, E⟩
              · rw [if_neg hsm] at h; cases h
          · rw [if_pos hY] at h; exact absurd h hY
        · rw [if_pos hX] at h; exact absurd h hX
      · unfold whereP at h
        rw [if_neg (by simpa using h1), if_neg (by simpa using h2), if_pos h3] at h; cases h
    · unfold whereP at h
      rw [if_neg (by simpa using h1), if_pos h2] at h; exact absurd h h2
  · unfold whereP at h
    rw [if_pos h1] at h; exact absurd h h1
end Go.Proofs.YtdajnmffoopcaaaGreatDoor.Ab
namespace Go.Proofs.YtdajnmffoopcaaaGreatDoor.Ab
set_option linter.unusedVariables false
set_option linter.unusedSimpArgs false
open Go.RowKit
attribute [local irreducible] AWP AOps AExit AThen ABlock ANoGoto FeetOk
set_option maxHeartbeats 8000000 in
set_option maxRecDepth 10000 in
theorem aBk (k n : Int) (a b : ByteArray) (kids : List Tree) (label : ByteArray) (hw : Tree.wholes kids = true) (hl : kids.length < 1000000000) (hk : ∀ t ∈ kids, t.kind = 163 → ∃ n' a' b' c, t = .node 163 n' a' b' [c]) :
    ACalls Tryz.prog 89 [.imm (Tree.iv (.node k n a b kids)), .imm (.lit (.string label))] [] (.imm (fieldP label kids).1.iv) [] := by
  obtain ⟨Q, hQ⟩ : ∃ Q, fieldP label kids = Q := ⟨_, rfl⟩
  rw [hQ]
  refine aJ Tryz.func89 rfl rfl (nb rfl) rfl ?_
  repeat' (first | refine aG ?_ | (refine aI ?_;  first | refine aD tabOk rfl rfl rfl (nb rfl) rfl ?_) | (refine aN ?_;  first | refine aH ?_ | refine aQ ?_ | refine aY ?_))
  refine cI (ι := {j : Nat // j ≤ kids.length ∧ fieldP label (kids.drop j) = Q}) (fun j => S.f ⟨[(5, .imm (.lit (.int .i64 (j.1 : Int)))), (0, .imm (Tree.iv (.node k n a b kids))), (1, .imm (.lit (.string label)))], []⟩) (fun j => kids.length - j.1) ⟨0, Nat.zero_le _, hQ⟩ (cA (by repeat' first | exact trivial | refine ⟨rfl, ?_⟩) (by repeat' first | exact trivial | refine ⟨rfl, ?_⟩)) ?_
  rintro ⟨j, hj, hR⟩
  clear hQ
  dsimp only at hj hR ⊢
  by_cases hlt : j < kids.length
  · have hget := bX kids j hlt
    have hm := List.getElem_mem hlt
    have hwm := bS hw hm
    rw [List.drop_eq_getElem_cons hlt, fieldP] at hR
    have hkm := hk _ hm
    clear hk hw
    generalize kids[j] = t at *
    by_cases h163 : t.kind = 163
    · obtain ⟨n', a', b', c, rfl⟩ := hkm h163
      have e : isLab label (.node 163 n' a' b' [c]) = eqB a' label := by
        show (decide ((163 : Int) = 163) && eqB a' label) = _
        simp
      rw [e] at hR
      cases he : eqB a' label with
      | true =>
        rw [he, if_pos rfl] at hR
        subst hR
        dsimp only [kid0]
        unfold eqB at he
        rw [beq_iff_eq] at he
        clear hkm
        repeat' (first | refine aG ?_ | (refine aI ?_;  first | refine aD tabOk rfl rfl rfl (nb rfl) rfl ?_ | (refine aM rfl rfl rfl (nb rfl) rfl rfl rfl (fun hq => ?_) (fun hq => ?_) <;> (first | (simp only [sD, sE, sB, sC, sN, sM, sT, sF] at hq; try (exfalso; omega)) | skip)) | refine bC tabOk rfl rfl rfl (nb rfl) rfl rfl rfl hget ?_ | refine bP rfl rfl rfl (nb rfl) rfl rfl (by omega) ?_ | refine bB tabOk rfl rfl (nb rfl) rfl ?_ | refine bG tabOk rfl rfl rfl (nb rfl) rfl rfl rfl rfl (by first | assumption | omega) ?_ | refine bN tabOk rfl rfl rfl (nb rfl) rfl rfl rfl rfl (by first | rfl | omega) (by first | omega | simp) ?_) | (refine aN ?_;  first | refine aH ?_ | refine aQ ?_ | refine bH ?_ | refine aY ?_ | refine aT ?_ | refine aU ?_ | refine aA (b := true) rfl (fun _ => ?_) nTf | refine aA (b := false) rfl nFt (fun _ => ?_)) | (refine aK ?_;  first | refine aX ?_ | refine aR ?_) | (refine bA ?_;  first | refine bU ?_ | refine bF ?_))
        all_goals first
          | exact absurd rfl (by assumption)
          | exact absurd he (by assumption)
          | (exfalso; omega)
          | (refine aV (by first | exact .inl rfl | exact .inr rfl) (aZ rfl (aC rfl)) rfl ?_; rfl)
      | false =>
        rw [he, if_neg (by simp)] at hR
        unfold eqB at he
        rw [beq_eq_false_iff_ne] at he
        clear hkm
        repeat' (first | refine aG ?_ | (refine aI ?_;  first | refine aD tabOk rfl rfl rfl (nb rfl) rfl ?_ | (refine aM rfl rfl rfl (nb rfl) rfl rfl rfl (fun hq => ?_) (fun hq => ?_) <;> (first | (simp only [sD, sE, sB, sC, sN, sM, sT, sF] at hq; try (exfalso; omega)) | skip)) | refine bC tabOk rfl rfl rfl (nb rfl) rfl rfl rfl hget ?_ | refine bP rfl rfl rfl (nb rfl) rfl rfl (by omega) ?_ | refine bB tabOk rfl rfl (nb rfl) rfl ?_ | refine bG tabOk rfl rfl rfl (nb rfl) rfl rfl rfl rfl (by first | assumption | omega) ?_ | refine bN tabOk rfl rfl rfl (nb rfl) rfl rfl rfl rfl (by first | rfl | omega) (by first | omega | simp) ?_) | (refine aN ?_;  first | refine aH ?_ | refine aQ ?_ | refine bH ?_ | refine aY ?_ | refine aT ?_ | refine aU ?_ | refine aA (b := true) rfl (fun _ => ?_) nTf | refine aA (b := false) rfl nFt (fun _ => ?_)) | (refine aK ?_;  first | refine aX ?_ | refine aR ?_) | (refine bA ?_;  first | refine bU ?_ | refine bF ?_))
        all_goals first
          | exact absurd rfl (by assumption)
          | exact absurd (by assumption) he
          | (exfalso; omega)
          | exact ⟨⟨j + 1, hlt, hR⟩, (by show kids.length - (j + 1) < kids.length - j; omega), (cA (by repeat' first | exact trivial | refine ⟨rfl, ?_⟩) (by repeat' first | exact trivial | refine ⟨rfl, ?_⟩))⟩
    · obtain ⟨kk, n', a', b', ks, rfl⟩ := cF hwm
      change kk ≠ 163 at h163
      have e : isLab label (.node kk n' a' b' ks) = false := by
        show (decide (kk = 163) && eqB a' label) = false
        simp [h163]
      rw [e, if_neg (by simp)] at hR
      clear hkm
      repeat' (first | refine aG ?_ | (refine aI ?_;  first | refine aD tabOk rfl rfl rfl (nb rfl) rfl ?_ | refine bE rfl rfl (nb rfl) ?_ | (refine aM rfl rfl rfl (nb rfl) rfl rfl rfl (fun hq => ?_) (fun hq => ?_) <;> (first | (simp only [sD, sE, sB, sC, sN, sM, sT, sF] at hq; try (exfalso; omega)) | skip)) | refine bC tabOk rfl rfl rfl (nb rfl) rfl rfl rfl hget ?_ | refine bP rfl rfl rfl (nb rfl) rfl rfl (by omega) ?_ | refine bB tabOk rfl rfl (nb rfl) rfl ?_ | refine bG tabOk rfl rfl rfl (nb rfl) rfl rfl rfl rfl (by first | assumption | omega) ?_) | (refine aN ?_;  first | refine aH ?_ | refine aQ ?_ | refine bH ?_ | refine aY ?_ | refine aU ?_ | refine aA (b := true) rfl (fun _ => ?_) nTf | refine aA (b := false) rfl nFt (fun _ => ?_)) | (refine aK ?_;  first | refine aX ?_) | (refine bA ?_;  first | refine bU ?_))
      all_goals first
        | exact absurd (by assumption) h163
        | (exfalso; omega)
        | exact ⟨⟨j + 1, hlt, hR⟩, (by show kids.length - (j + 1) < kids.length - j; omega), (cA (by repeat' first | exact trivial | refine ⟨rfl, ?_⟩) (by repeat' first | exact trivial | refine ⟨rfl, ?_⟩))⟩
  · have ej : j = kids.length := by omega
    subst ej
    rw [List.drop_length, fieldP] at hR
    subst hR
    repeat' (first | refine aG ?_ | (refine aI ?_;  first | refine aD tabOk rfl rfl rfl (nb rfl) rfl ?_ | (refine aM rfl rfl rfl (nb rfl) rfl rfl rfl (fun hq => ?_) (fun hq => ?_) <;> (first | (simp only [sD, sE, sB, sC, sN, sM, sT, sF] at hq; try (exfalso; omega)) | skip)) | refine bB tabOk rfl rfl (nb rfl) rfl ?_) | (refine aN ?_;  first | refine aH ?_ | refine aQ ?_ | refine aT ?_ | refine bW ?_ | refine aA (b := false) rfl nFt (fun _ => ?_)) | (refine aK ?_;  first | refine aX ?_ | refine bM ?_) | (refine bA ?_;  first | refine bI ?_))
    all_goals first
      | (exfalso; omega)
      | (refine aV (by first | exact .inl rfl | exact .inr rfl) (aZ rfl (aC rfl)) rfl ?_; rfl)
mutual
/-- Is a constructor in it too large? -/
def bigP : Tree → Bool
  | .nil => false
  | .node k n a b kids => if k < 160 then decide (((Tree.node k n a b kids).size : Int) > 512) else bigPs kids
def bigPs : List Tree → Bool
  | [] => false
  | t :: ts => bigP t || bigPs ts
end
theorem zZ (t : Tree) : ∀ d, (swalkP smallC t d).2 = if bigP t = true then 3 else 0 := by
  induction t using Tree.ind with
  | h1 => intro d; rw [swalkP, bigP]; rfl
  | h2 k n a b kids ih =>
    intro d
    rw [swalkP, bigP]
    by_cases hk : k < 160
    · rw [if_pos hk, if_pos hk]
      unfold smallC
      by_cases h : ((Tree.node k n a b kids).size : Int) > 512
      · rw [if_pos h, if_pos (by simpa using h)]
      · rw [if_neg h, if_neg (by simpa using h)]
    · rw [if_neg hk, if_neg hk]
      have key : ∀ l : List Tree, (∀ t ∈ l, t ∈ kids) → ∀ d, (swalkPs smallC l d).2 = if bigPs l = true then 3 else 0 := by
        intro l
        induction l with
        | nil => intro _ d; rw [swalkPs, bigPs]; rfl
        | cons t ts ih2 =>
          intro hm d
          rw [swalkPs, bigPs, ih t (hm t (by simp)) d, ih2 (fun t' h' => hm t' (by simp [h'])) d]
          cases bigP t <;> cases bigPs ts <;> rfl
      rw [key kids (fun _ h => h)]
      cases bigPs kids <;> rfl
set_option maxHeartbeats 8000000 in
set_option maxRecDepth 10000 in
theorem aBl (t : Tree) : t.whole = true → t.size ≤ 1000000 → ACalls Tryz.prog 62 [.imm t.iv] [] (.imm (.lit (.bool (bigP t)))) [] := by
  induction t using Tree.ind with
  | h1 => intro h; simp [Tree.whole] at h
  | h2 k n a b kids ih =>
    intro hw hs
    have cs := nJ (.node k n a b kids) hw hs
    obtain ⟨Q, hQ⟩ : ∃ Q, bigP (.node k n a b kids) = Q := ⟨_, rfl⟩
    rw [hQ]
    rw [bigP] at hQ
    have hl := cC kids hw
    have hsz : (Tree.node k n a b kids).size = 1 + Tree.sizes kids := by rw [Tree.size]
    by_cases hk : k < 160
    · rw [if_pos hk] at hQ
      clear ih hsz
      generalize ((Tree.node k n a b kids).size : Int) = Z at *
      refine aJ Tryz.func62 rfl rfl (nb rfl) rfl ?_
      repeat' (first | refine aG ?_ | (refine aI ?_;  first | refine aD tabOk rfl rfl rfl (nb rfl) rfl ?_ | (refine aM rfl rfl rfl (nb rfl) rfl rfl rfl (fun hq => ?_) (fun hq => ?_) <;> (first | (simp only [sD, sE, sB, sC, sN, sM, sT, sF] at hq; try (exfalso; omega)) | skip)) | refine aE rfl rfl (nb rfl) rfl rfl rfl rfl (cs) ?_) | (refine aN ?_;  first | refine aH ?_ | refine aQ ?_ | refine aT ?_ | refine aA (b := true) rfl (fun _ => ?_) nTf) | (refine aK ?_;  first | refine aR ?_))
      all_goals first
        | (exfalso; omega)
        | (refine aV (by first | exact .inl rfl | exact .inr rfl) (aZ rfl (aC rfl)) rfl ?_; refine cO ?_; subst hQ; simp_all; done)
        | (refine aV (by first | exact .inl rfl | exact .inr rfl) (aZ rfl (aC rfl)) rfl ?_; refine cO ?_; subst hQ; simp_all; omega)
    · rw [if_neg hk] at hQ
      clear cs
      refine aJ Tryz.func62 rfl rfl (nb rfl) rfl ?_
      repeat' (first | refine aG ?_ | (refine aI ?_;  first | refine aD tabOk rfl rfl rfl (nb rfl) rfl ?_ | (refine aM rfl rfl rfl (nb rfl) rfl rfl rfl (fun hq => ?_) (fun hq => ?_) <;> (first | (simp only [sD, sE, sB, sC, sN, sM, sT, sF] at hq; try (exfalso; omega)) | skip))) | (refine aN ?_;  first | refine aH ?_ | refine aQ ?_ | refine aY ?_ | refine aU ?_ | refine aA (b := false) rfl nFt (fun _ => ?_)) | (refine aK ?_;  first | refine aX ?_))
      all_goals first
        | exact absurd (by assumption) hk
        | (exfalso; omega)
        | skip
      refine cI (ι := {j : Nat // j ≤ kids.length ∧ bigPs (kids.drop j) = Q}) (fun j => S.f ⟨[(3, .imm (.lit (.int .i64 (j.1 : Int)))), (0, .imm (Tree.iv (.node k n a b kids)))], []⟩) (fun j => kids.length - j.1) ⟨0, Nat.zero_le _, hQ⟩ (cA (by repeat' first | exact trivial | refine ⟨rfl, ?_⟩) (by repeat' first | exact trivial | refine ⟨rfl, ?_⟩)) ?_
      rintro ⟨j, hj, hR⟩
      clear hQ
      dsimp only at hj hR ⊢
      by_cases hlt : j < kids.length
      · have hget := bX kids j hlt
        have hm := List.getElem_mem hlt
        have hz := dE hm
        have hc := ih _ hm (bS hw hm) (by omega)
        rw [List.drop_eq_getElem_cons hlt, bigPs] at hR
        clear ih
        cases hb : bigP kids[j] with
        | true =>
          rw [hb] at hc hR
          rw [Bool.true_or] at hR
          subst hR
          repeat' (first | refine aG ?_ | (refine aI ?_;  first | refine aD tabOk rfl rfl rfl (nb rfl) rfl ?_ | (refine aM rfl rfl rfl (nb rfl) rfl rfl rfl (fun hq => ?_) (fun hq => ?_) <;> (first | (simp only [sD, sE, sB, sC, sN, sM, sT, sF] at hq; try (exfalso; omega)) | skip)) | refine bC tabOk rfl rfl rfl (nb rfl) rfl rfl rfl hget ?_ | refine aE rfl rfl (nb rfl) rfl rfl rfl rfl (hc) ?_ | refine bB tabOk rfl rfl (nb rfl) rfl ?_ | refine bG tabOk rfl rfl rfl (nb rfl) rfl rfl rfl rfl (by first | assumption | omega) ?_) | (refine aN ?_;  first | refine aH ?_ | refine aQ ?_ | refine aY ?_ | refine aT ?_ | refine aU ?_ | refine aA (b := true) rfl (fun _ => ?_) nTf) | (refine aK ?_;  first | refine aX ?_ | refine aR ?_) | (refine bA ?_;  first | refine bF ?_))
          all_goals first
            | (exfalso; omega)
            | (refine aV (by first | exact .inl rfl | exact .inr rfl) (aZ rfl (aC rfl)) rfl ?_; rfl)
        | false =>
          rw [hb] at hc hR
          rw [Bool.false_or] at hR
          repeat' (first | refine aG ?_ | (refine aI ?_;  first | refine aD tabOk rfl rfl rfl (nb rfl) rfl ?_ | (refine aM rfl rfl rfl (nb rfl) rfl rfl rfl (fun hq => ?_) (fun hq => ?_) <;> (first | (simp only [sD, sE, sB, sC, sN, sM, sT, sF] at hq; try (exfalso; omega)) | skip)) | refine bC tabOk rfl rfl rfl (nb rfl) rfl rfl rfl hget ?_ | refine aE rfl rfl (nb rfl) rfl rfl rfl rfl (hc) ?_ | refine bP rfl rfl rfl (nb rfl) rfl rfl (by omega) ?_ | refine bB tabOk rfl rfl (nb rfl) rfl ?_ | refine bG tabOk rfl rfl rfl (nb rfl) rfl rfl rfl rfl (by first | assumption | omega) ?_) | (refine aN ?_;  first | refine aH ?_ | refine aQ ?_ | refine bH ?_ | refine aY ?_ | refine aU ?_ | refine aA (b := true) rfl (fun _ => ?_) nTf | refine aA (b := false) rfl nFt (fun _ => ?_)) | (refine aK ?_;  first | refine aX ?_) | (refine bA ?_;  first | refine bU ?_))
          all_goals first
            | (exfalso; omega)
            | exact ⟨⟨j + 1, hlt, hR⟩, (by show kids.length - (j + 1) < kids.length - j; omega), (cA (by repeat' first | exact trivial | refine ⟨rfl, ?_⟩) (by repeat' first | exact trivial | refine ⟨rfl, ?_⟩))⟩
      · have ej : j = kids.length := by omega
        subst ej
        rw [List.drop_length, bigPs] at hR
        subst hR
        repeat' (first | refine aG ?_ | (refine aI ?_;  first | refine aD tabOk rfl rfl rfl (nb rfl) rfl ?_ | (refine aM rfl rfl rfl (nb rfl) rfl rfl rfl (fun hq => ?_) (fun hq => ?_) <;> (first | (simp only [sD, sE, sB, sC, sN, sM, sT, sF] at hq; try (exfalso; omega)) | skip)) | refine bB tabOk rfl rfl (nb rfl) rfl ?_) | (refine aN ?_;  first | refine aH ?_ | refine aQ ?_ | refine aT ?_ | refine bW ?_ | refine aA (b := false) rfl nFt (fun _ => ?_)) | (refine aK ?_;  first | refine aX ?_ | refine bM ?_) | (refine bA ?_;  first | refine bI ?_))
        all_goals first
          | (exfalso; omega)
          | (refine aV (by first | exact .inl rfl | exact .inr rfl) (aZ rfl (aC rfl)) rfl ?_; rfl)
set_option maxHeartbeats 4000000 in
set_option maxRecDepth 10000 in
theorem aBm (t : Tree) (hw : t = .nil ∨ t.whole = true) (hs : t.size ≤ 65536) : ACalls Tryz.prog 28 [.imm t.iv] [] (.imm (.lit (.int .i64 (ssmallP t)))) [] := by
  have c1 := fB t hw hs
  unfold ssmallP
  by_cases hc : checkP sformP t = 0
  · rw [if_neg (by simpa using hc)]
    obtain ⟨hw, hz, hf⟩ := bK hc
    have c2 := aBl t hw (by omega)
    rw [hc] at c1
    rw [zZ]
    cases hb : bigP t <;>
    (rw [hb] at c2
     refine aJ Tryz.func28 rfl rfl (nb rfl) rfl ?_
     repeat' (first | refine aG ?_ | (refine aI ?_;  first | refine aD tabOk rfl rfl rfl (nb rfl) rfl ?_ | (refine aM rfl rfl rfl (nb rfl) rfl rfl rfl (fun hq => ?_) (fun hq => ?_) <;> (first | (simp only [sD, sE, sB, sC, sN, sM, sT, sF] at hq; try (exfalso; omega)) | skip)) | refine aE rfl rfl (nb rfl) rfl rfl rfl rfl (c1) ?_ | refine aE rfl rfl (nb rfl) rfl rfl rfl rfl (c2) ?_) | (refine aN ?_;  first | refine aH ?_ | refine aQ ?_ | refine aT ?_ | refine aU ?_ | refine aA (b := true) rfl (fun _ => ?_) nTf | refine aA (b := false) rfl nFt (fun _ => ?_)) | (refine aK ?_;  first | refine aX ?_ | refine aR ?_))
     all_goals first
       | exact absurd rfl (by assumption)
       | (refine aV (by first | exact .inl rfl | exact .inr rfl) (aZ rfl (aC rfl)) rfl ?_; rfl))
  · rw [if_pos hc]
    generalize checkP sformP t = C at *
    refine aJ Tryz.func28 rfl rfl (nb rfl) rfl ?_
    repeat' (first | refine aG ?_ | (refine aI ?_;  first | refine aD tabOk rfl rfl rfl (nb rfl) rfl ?_ | (refine aM rfl rfl rfl (nb rfl) rfl rfl rfl (fun hq => ?_) (fun hq => ?_) <;> (first | (simp only [sD, sE, sB, sC, sN, sM, sT, sF] at hq; try (exfalso; omega)) | skip)) | refine aE rfl rfl (nb rfl) rfl rfl rfl rfl (c1) ?_) | (refine aN ?_;  first | refine aH ?_ | refine aQ ?_ | refine aT ?_ | refine aA (b := true) rfl (fun _ => ?_) nTf) | (refine aK ?_;  first | refine aR ?_))
    all_goals first
      | exact absurd rfl (by assumption)
      | exact absurd (by assumption) hc
      | (refine aV (by first | exact .inl rfl | exact .inr rfl) (aZ rfl (aC rfl)) rfl ?_; rfl)
end Go.Proofs.YtdajnmffoopcaaaGreatDoor.Ab
namespace Go.Proofs.YtdajnmffoopcaaaGreatDoor.Ab
set_option linter.unusedVariables false
set_option linter.unusedSimpArgs false
open Go.RowKit Go.Proofs.YtdajnmffoopcaaaGreatDoor.RP
attribute [local irreducible] AWP AOps AExit AThen ABlock ANoGoto FeetOk
set_option maxHeartbeats 4000000 in
set_option maxRecDepth 10000 in
theorem aAa (t : Tree) (i : Int) (hs : t.size ≤ 1000000) : ACalls Tryz.prog 25 [.imm t.iv, .imm (.lit (.int .i64 i))] [] (.imm (.lit (.bool (occP t i)))) [] := by
  have c1 := eB t hs
  unfold occP
  by_cases hc : checkP isConP t = 0
  · rw [decide_eq_true hc, Bool.true_and]
    obtain ⟨hw, hz, hf⟩ := bK hc
    rw [hc] at c1
    by_cases hi : 0 ≤ i
    · have c2 := uB i hi t 0 (cY t hf) hw (Int.le_refl _) (by omega)
      clear hc hw hz hf
      generalize cntP i t 0 = Q at *
      refine aJ Tryz.func25 rfl rfl (nb rfl) rfl ?_
      repeat' (first | refine aG ?_ | (refine aI ?_;  first | refine aD tabOk rfl rfl rfl (nb rfl) rfl ?_ | (refine aM rfl rfl rfl (nb rfl) rfl rfl rfl (fun hq => ?_) (fun hq => ?_) <;> (first | (simp only [sD, sE, sB, sC, sN, sM, sT, sF] at hq; try (exfalso; omega)) | skip)) | refine aE rfl rfl (nb rfl) rfl rfl rfl rfl (c1) ?_ | refine aE rfl rfl (nb rfl) rfl rfl rfl rfl (c2) ?_) | (refine aN ?_;  first | refine aH ?_ | refine aT ?_))
      all_goals first
        | exact absurd rfl (by assumption)
        | (exfalso; omega)
        | (refine aV (by first | exact .inl rfl | exact .inr rfl) (aZ rfl (aC rfl)) rfl ?_; refine cO ?_; simp_all; done)
        | (refine aV (by first | exact .inl rfl | exact .inr rfl) (aZ rfl (aC rfl)) rfl ?_; refine cO ?_; simp_all; omega)
    · rw [decide_eq_false fun h => hi h.1]
      refine aJ Tryz.func25 rfl rfl (nb rfl) rfl ?_
      repeat' (first | refine aG ?_ | (refine aI ?_;  first | refine aD tabOk rfl rfl rfl (nb rfl) rfl ?_ | refine bE rfl rfl (nb rfl) ?_ | (refine aM rfl rfl rfl (nb rfl) rfl rfl rfl (fun hq => ?_) (fun hq => ?_) <;> (first | (simp only [sD, sE, sB, sC, sN, sM, sT, sF] at hq; try (exfalso; omega)) | skip)) | refine aE rfl rfl (nb rfl) rfl rfl rfl rfl (c1) ?_) | (refine aN ?_;  first | refine aH ?_ | refine aT ?_))
      all_goals first
        | exact absurd rfl (by assumption)
        | (exfalso; omega)
        | (refine aV (by first | exact .inl rfl | exact .inr rfl) (aZ rfl (aC rfl)) rfl ?_; rfl)
  · rw [decide_eq_false hc, Bool.false_and]
    generalize checkP isConP t = C at *
    refine aJ Tryz.func25 rfl rfl (nb rfl) rfl ?_
    repeat' (first | refine aG ?_ | (refine aI ?_;  first | refine aD tabOk rfl rfl rfl (nb rfl) rfl ?_ | refine bE rfl rfl (nb rfl) ?_ | (refine aM rfl rfl rfl (nb rfl) rfl rfl rfl (fun hq => ?_) (fun hq => ?_) <;> (first | (simp only [sD, sE, sB, sC, sN, sM, sT, sF] at hq; try (exfalso; omega)) | skip)) | refine aE rfl rfl (nb rfl) rfl rfl rfl rfl (c1) ?_) | (refine aN ?_;  first | refine aH ?_ | refine aT ?_))
    all_goals first
      | exact absurd (by assumption) hc
      | (exfalso; omega)
      | (refine aV (by first | exact .inl rfl | exact .inr rfl) (aZ rfl (aC rfl)) rfl ?_; rfl)
theorem wS {t : Tree} {b f : Int} (hc : checkP isConP t = 0) (hf : f < 0) : shiftP t b f = (.nil, 2) := by
  unfold shiftP
  rw [if_pos hc, decide_eq_false (by omega), if_neg]
  have := qN (shiftV b f) (fun s => s = false) (fun n d s h => oX b f n d s h) t 0 false rfl
  rw [this]; simp
set_option maxHeartbeats 8000000 in
set_option maxRecDepth 10000 in
theorem pI (t : Tree) (b f : Int) (hs : t.size ≤ 900000) : ACalls Tryz.prog 26 [.imm t.iv, .imm (.lit (.int .i64 b)), .imm (.lit (.int .i64 f))] [] (.imm (.tup [(shiftP t b f).1.iv, .lit (.int .i64 (shiftP t b f).2)])) [] := by
  have c1 := eB t (by omega)
  by_cases hc : checkP isConP t = 0
  · rw [hc] at c1
    obtain ⟨hw, hz, hcon⟩ := bK hc
    by_cases hf : f < 0
    · rw [wS hc hf]
      refine aJ Tryz.func26 rfl rfl (nb rfl) rfl ?_
      repeat' (first | refine aG ?_ | (refine aI ?_;  first | refine aD tabOk rfl rfl rfl (nb rfl) rfl ?_ | (refine aM rfl rfl rfl (nb rfl) rfl rfl rfl (fun hq => ?_) (fun hq => ?_) <;> (first | (simp only [sD, sE, sB, sC, sN, sM, sT, sF] at hq; try (exfalso; omega)) | skip)) | refine aE rfl rfl (nb rfl) rfl rfl rfl rfl (c1) ?_) | (refine aN ?_;  first | refine aH ?_ | refine aQ ?_ | refine aT ?_ | refine aU ?_ | refine aA (b := true) rfl (fun _ => ?_) nTf | refine aA (b := false) rfl nFt (fun _ => ?_)) | (refine aK ?_;  first | refine aX ?_ | refine aR ?_))
      all_goals first
        | exact absurd rfl (by assumption)
        | (exfalso; omega)
        | (refine aV (by first | exact .inl rfl | exact .inr rfl) (bD rfl (aC rfl) (aC rfl)) rfl ?_; rfl)
    · have c2 := oY b f t 0 (cY t hcon) (iL t hcon) hw (Int.le_refl _) (by omega)
      unfold shiftP
      rw [if_pos hc, decide_eq_true (by omega)]
      generalize walkS (shiftV b f) t 0 true = W at *
      obtain ⟨W1, W2⟩ := W
      cases W2 with
      | true =>
        rw [fN] at c2
        rw [if_pos rfl]
        dsimp only at *
        refine aJ Tryz.func26 rfl rfl (nb rfl) rfl ?_
        repeat' (first | refine aG ?_ | (refine aI ?_;  first | refine aD tabOk rfl rfl rfl (nb rfl) rfl ?_ | (refine aM rfl rfl rfl (nb rfl) rfl rfl rfl (fun hq => ?_) (fun hq => ?_) <;> (first | (simp only [sD, sE, sB, sC, sN, sM, sT, sF] at hq; try (exfalso; omega)) | skip)) | refine aE rfl rfl (nb rfl) rfl rfl rfl rfl (c1) ?_ | refine aE rfl rfl (nb rfl) rfl rfl rfl rfl (c2) ?_) | (refine aN ?_;  first | refine aH ?_ | refine aQ ?_ | refine aT ?_ | refine aU ?_ | refine aA (b := false) rfl nFt (fun _ => ?_)) | (refine aK ?_;  first | refine aX ?_))
        all_goals first
          | exact absurd rfl (by assumption)
          | (exfalso; omega)
          | (refine aV (by first | exact .inl rfl | exact .inr rfl) (bD rfl (aC rfl) (aC rfl)) rfl ?_; rfl)
      | false =>
        rw [iN] at c2
        rw [if_neg (by simp)]
        dsimp only at *
        refine aJ Tryz.func26 rfl rfl (nb rfl) rfl ?_
        repeat' (first | refine aG ?_ | (refine aI ?_;  first | refine aD tabOk rfl rfl rfl (nb rfl) rfl ?_ | (refine aM rfl rfl rfl (nb rfl) rfl rfl rfl (fun hq => ?_) (fun hq => ?_) <;> (first | (simp only [sD, sE, sB, sC, sN, sM, sT, sF] at hq; try (exfalso; omega)) | skip)) | refine aE rfl rfl (nb rfl) rfl rfl rfl rfl (c1) ?_ | refine aE rfl rfl (nb rfl) rfl rfl rfl rfl (c2) ?_) | (refine aN ?_;  first | refine aH ?_ | refine aQ ?_ | refine aT ?_ | refine aU ?_ | refine aA (b := true) rfl (fun _ => ?_) nTf | refine aA (b := false) rfl nFt (fun _ => ?_)) | (refine aK ?_;  first | refine aX ?_ | refine aR ?_))
        all_goals first
          | exact absurd rfl (by assumption)
          | (exfalso; omega)
          | (refine aV (by first | exact .inl rfl | exact .inr rfl) (bD rfl (aC rfl) (aC rfl)) rfl ?_; rfl)
  · have e : shiftP t b f = (.nil, checkP isConP t) := by unfold shiftP; rw [if_neg hc]
    rw [e]
    generalize checkP isConP t = C at *
    refine aJ Tryz.func26 rfl rfl (nb rfl) rfl ?_
    repeat' (first | refine aG ?_ | (refine aI ?_;  first | refine aD tabOk rfl rfl rfl (nb rfl) rfl ?_ | (refine aM rfl rfl rfl (nb rfl) rfl rfl rfl (fun hq => ?_) (fun hq => ?_) <;> (first | (simp only [sD, sE, sB, sC, sN, sM, sT, sF] at hq; try (exfalso; omega)) | skip)) | refine aE rfl rfl (nb rfl) rfl rfl rfl rfl (c1) ?_) | (refine aN ?_;  first | refine aH ?_ | refine aQ ?_ | refine aT ?_ | refine aA (b := true) rfl (fun _ => ?_) nTf) | (refine aK ?_;  first | refine aR ?_))
    all_goals first
      | exact absurd rfl (by assumption)
      | exact absurd (by assumption) hc
      | (refine aV (by first | exact .inl rfl | exact .inr rfl) (bD rfl (aC rfl) (aC rfl)) rfl ?_; rfl)
set_option maxHeartbeats 4000000 in
set_option maxRecDepth 10000 in
theorem wT (k n : Int) (a b : ByteArray) (kids : List Tree) (hk : k < 164) : ACalls Tryz.prog 83 [.imm (Tree.iv (.node k n a b kids))] [] (.imm (.lit (.int .i64 0))) [] := by
  refine aJ Tryz.func83 rfl rfl (nb rfl) rfl ?_
  repeat' (first | refine aG ?_ | (refine aI ?_;  first | refine aD tabOk rfl rfl rfl (nb rfl) rfl ?_ | (refine aM rfl rfl rfl (nb rfl) rfl rfl rfl (fun hq => ?_) (fun hq => ?_) <;> (first | (simp only [sD, sE, sB, sC, sN, sM, sT, sF] at hq; try (exfalso; omega)) | skip))) | (refine aN ?_;  first | refine aH ?_ | refine aQ ?_ | refine aT ?_ | refine aU ?_ | refine aA (b := false) rfl nFt (fun _ => ?_)) | (refine aK ?_;  first | refine aX ?_))
  all_goals first
    | (exfalso; omega)
    | (refine aV (by first | exact .inl rfl | exact .inr rfl) (aZ rfl (aC rfl)) rfl ?_; rfl)
theorem jV (i : Int) (by_ t : Tree) (d : Int) (h : (ssubC i by_ t d).2 ≠ 0) : (ssubC i by_ t d).1 = .nil := by
  unfold ssubC at h ⊢
  split
  · rename_i h1; rw [if_pos h1] at h; exact absurd rfl h
  · rename_i h1
    rw [if_neg h1] at h
    split
    · rfl
    · rename_i h2
      rw [if_neg h2] at h
      exact kP _ _ _ h
set_option maxHeartbeats 8000000 in
set_option maxRecDepth 10000 in
theorem aAb (i : Int) (by_ t : Tree) (d : Int) (hi : 0 ≤ i) (ht : checkP isConP t = 0) (hb : checkP isConP by_ = 0) (hd0 : 0 ≤ d) (hd : d ≤ 20000) : ACalls Tryz.prog 60 [.imm t.iv, .imm (.lit (.int .i64 i)), .imm by_.iv, .imm (.lit (.int .i64 d))] [] (.imm (ssubC i by_ t d).1.iv) [] := by
  obtain ⟨hw, hz, hcon⟩ := bK ht
  obtain ⟨bw, bz, bcon⟩ := bK hb
  obtain ⟨k, n, a, b, kids, rfl, hk⟩ := rQ ht
  obtain ⟨Q, hQ⟩ : ∃ Q, ssubC i by_ (.node k n a b kids) d = Q := ⟨_, rfl⟩
  rw [hQ]
  unfold ssubC at hQ
  by_cases h1 : i > 65536
  · rw [if_pos h1] at hQ
    subst hQ
    refine cZ Tryz.func60 rfl rfl (nb rfl) rfl ?_
    repeat' (first | refine aG ?_ | (refine aI ?_;  first | refine aD tabOk rfl rfl rfl (nb rfl) rfl ?_ | (refine aM rfl rfl rfl (nb rfl) rfl rfl rfl (fun hq => ?_) (fun hq => ?_) <;> (first | (simp only [sD, sE, sB, sC, sN, sM, sT, sF] at hq; try (exfalso; omega)) | skip))) | (refine aN ?_;  first | refine aH ?_ | refine aQ ?_ | refine aT ?_ | refine aA (b := true) rfl (fun _ => ?_) nTf) | (refine aK ?_;  first | refine aR ?_))
    all_goals first
      | (exfalso; omega)
      | (refine eA ?_; refine aV (by first | exact .inl rfl | exact .inr rfl) (aZ rfl (aC rfl)) rfl ?_; rfl)
  · rw [if_neg h1] at hQ
    have c1 := oY d 0 by_ 0 (cY by_ bcon) (iL by_ bcon) bw (Int.le_refl _) (by omega)
    have hsh := mR by_ hb d
    have hshf := fF by_ d 0
    rw [hsh] at hQ hshf
    generalize walkS (shiftV d 0) by_ 0 true = W at *
    obtain ⟨W1, W2⟩ := W
    dsimp only at hQ c1 hshf
    cases W2 with
    | true =>
      rw [fN] at c1
      rw [if_pos rfl] at hQ hshf
      rw [if_neg (by simp)] at hQ
      dsimp only at hQ hshf
      obtain ⟨s1, s2, _⟩ := hshf rfl
      have c2 := aAN (.node k n a b kids) (i + d) W1 (by omega) (by omega)
      rw [hQ] at c2
      by_cases hq : Q.2 = 0
      · rw [hq] at c2
        refine cZ Tryz.func60 rfl rfl (nb rfl) rfl ?_
        repeat' (first | refine aG ?_ | (refine aI ?_;  first | refine aD tabOk rfl rfl rfl (nb rfl) rfl ?_ | (refine aM rfl rfl rfl (nb rfl) rfl rfl rfl (fun hq => ?_) (fun hq => ?_) <;> (first | (simp only [sD, sE, sB, sC, sN, sM, sT, sF] at hq; try (exfalso; omega)) | skip)) | refine aE rfl rfl (nb rfl) rfl rfl rfl rfl (c1) ?_ | refine aE rfl rfl (nb rfl) rfl rfl rfl rfl (c2) ?_ | refine bY (z := i + d) rfl rfl rfl (nb rfl) rfl rfl rfl (by omega) (by omega) ?_) | (refine aN ?_;  first | refine aH ?_ | refine aQ ?_ | refine aT ?_ | refine aU ?_ | refine aA (b := true) rfl (fun _ => ?_) nTf | refine aA (b := false) rfl nFt (fun _ => ?_)) | (refine aK ?_;  first | refine aX ?_ | refine aR ?_))
        all_goals first
          | exact absurd rfl (by assumption)
          | (exfalso; omega)
          | (refine eA ?_; refine aV (by first | exact .inl rfl | exact .inr rfl) (aZ rfl (aC rfl)) rfl ?_; rfl)
      · have hn := kP (.node k n a b kids) (i + d) W1 (by rw [hQ]; exact hq)
        rw [hQ] at hn
        rw [hn] at c2 ⊢
        generalize Q.2 = E at *
        refine cZ Tryz.func60 rfl rfl (nb rfl) rfl ?_
        repeat' (first | refine aG ?_ | (refine aI ?_;  first | refine aD tabOk rfl rfl rfl (nb rfl) rfl ?_ | (refine aM rfl rfl rfl (nb rfl) rfl rfl rfl (fun hq => ?_) (fun hq => ?_) <;> (first | (simp only [sD, sE, sB, sC, sN, sM, sT, sF] at hq; try (exfalso; omega)) | skip)) | refine aE rfl rfl (nb rfl) rfl rfl rfl rfl (c1) ?_ | refine aE rfl rfl (nb rfl) rfl rfl rfl rfl (c2) ?_ | refine bY (z := i + d) rfl rfl rfl (nb rfl) rfl rfl rfl (by omega) (by omega) ?_) | (refine aN ?_;  first | refine aH ?_ | refine aQ ?_ | refine aT ?_ | refine aU ?_ | refine aA (b := true) rfl (fun _ => ?_) nTf | refine aA (b := false) rfl nFt (fun _ => ?_)) | (refine aK ?_;  first | refine aX ?_ | refine aR ?_))
        all_goals first
          | exact absurd rfl (by assumption)
          | exact absurd (by assumption) hq
          | (exfalso; omega)
          | (refine eA ?_; refine aV (by first | exact .inl rfl | exact .inr rfl) (aZ rfl (aC rfl)) rfl ?_; rfl)
    | false =>
      rw [iN] at c1
      have ef : (if (false = true) then (W1, (0 : Int)) else (Tree.nil, 2)) = (Tree.nil, 2) := if_neg (by simp)
      rw [ef, if_pos (by simp)] at hQ
      subst hQ
      refine cZ Tryz.func60 rfl rfl (nb rfl) rfl ?_
      repeat' (first | refine aG ?_ | (refine aI ?_;  first | refine aD tabOk rfl rfl rfl (nb rfl) rfl ?_ | (refine aM rfl rfl rfl (nb rfl) rfl rfl rfl (fun hq => ?_) (fun hq => ?_) <;> (first | (simp only [sD, sE, sB, sC, sN, sM, sT, sF] at hq; try (exfalso; omega)) | skip)) | refine aE rfl rfl (nb rfl) rfl rfl rfl rfl (c1) ?_) | (refine aN ?_;  first | refine aH ?_ | refine aQ ?_ | refine aT ?_ | refine aU ?_ | refine aA (b := true) rfl (fun _ => ?_) nTf | refine aA (b := false) rfl nFt (fun _ => ?_)) | (refine aK ?_;  first | refine aX ?_ | refine aR ?_))
      all_goals first
        | exact absurd rfl (by assumption)
        | (exfalso; omega)
        | (refine eA ?_; refine aV (by first | exact .inl rfl | exact .inr rfl) (aZ rfl (aC rfl)) rfl ?_; rfl)
end Go.Proofs.YtdajnmffoopcaaaGreatDoor.Ab
namespace Go.Proofs.YtdajnmffoopcaaaGreatDoor.Ab
set_option linter.unusedVariables false
set_option linter.unusedSimpArgs false
open Go.RowKit Go.Proofs.YtdajnmffoopcaaaGreatDoor.RP
attribute [local irreducible] AWP AOps AExit AThen ABlock ANoGoto FeetOk
theorem mB (C : Tree → Int → Tree × Int) (hC : ∀ t d, (C t d).2 ≠ 0 → (C t d).1 = .nil) (t : Tree) (d : Int) (h : (swalkP C t d).2 ≠ 0) : (swalkP C t d).1 = .nil := by
  cases t with
  | nil => rw [swalkP]
  | node k n a b kids =>
    rw [swalkP] at h ⊢
    by_cases h1 : k < 160
    · rw [if_pos h1] at h ⊢; exact hC _ _ h
    · rw [if_neg h1] at h ⊢
      by_cases h2 : (swalkPs C kids (d + sbindsP k n)).2 ≠ 0
      · rw [if_pos h2]
      · rw [if_neg h2] at h; exact absurd rfl h
theorem uP (C : Tree → Int → Tree × Int) (hC : ∀ t, checkP isConP t = 0 → ((C t 0).2 = 0 ∨ (C t 0).2 = 3) ∧ ((C t 0).2 = 0 → (C t 0).1.whole = true)) (t : Tree) : isSigP t = true → t.whole = true → ((swalkP C t 0).2 = 0 ∨ (swalkP C t 0).2 = 3) ∧ ((swalkP C t 0).2 = 0 → (swalkP C t 0).1.whole = true) := by
  induction t using Tree.sind with
  | h t ih =>
    intro hs hw
    obtain ⟨k, n, a, b, kids, rfl⟩ := cF hw
    have node : ∀ (k n : Int) (a b : ByteArray) (kids : List Tree), ¬ k < 160 → sbindsP k n = 0 → (∀ u ∈ kids, ((swalkP C u 0).2 = 0 ∨ (swalkP C u 0).2 = 3) ∧ ((swalkP C u 0).2 = 0 → (swalkP C u 0).1.whole = true)) → ((swalkP C (.node k n a b kids) 0).2 = 0 ∨ (swalkP C (.node k n a b kids) 0).2 = 3) ∧ ((swalkP C (.node k n a b kids) 0).2 = 0 → (swalkP C (.node k n a b kids) 0).1.whole = true) := fun k n a b kids hk hsb hu => by
      refine ⟨?_, fun h0 => ?_⟩
      · have key : ∀ l : List Tree, (∀ u ∈ l, u ∈ kids) → (swalkPs C l 0).2 = 0 ∨ (swalkPs C l 0).2 = 3 := by
          intro l
          induction l with
          | nil => intro _; rw [swalkPs]; exact .inl rfl
          | cons u us ih2 =>
            intro hm
            rw [swalkPs]
            split
            · exact (hu u (hm u (by simp))).1
            · split
              · exact ih2 fun u' h' => hm u' (by simp [h'])
              · exact .inl rfl
        have := key kids fun _ h => h
        rw [swalkP, if_neg hk, hsb, Int.add_zero]
        split
        · exact this
        · exact .inl rfl
      · obtain ⟨g1, g2⟩ := mS hk h0
        rw [hsb, Int.add_zero] at g1 g2
        rw [g2]
        refine lV fun v hv => ?_
        obtain ⟨u, hm, rfl⟩ := List.mem_map.1 hv
        exact (hu u hm).2 (g1 u hm)
    rcases eV hs with ⟨hk, c, rfl, hc⟩ | ⟨rfl, hf, hr⟩
    · refine node k n a b [c] (by omega) (gA (by omega)) fun u hu => ?_
      rw [List.mem_singleton.1 hu, pD hc]
      exact hC c hc
    · refine node 162 n a b kids (by decide) (gA (by decide)) fun f hm => ?_
      have hz := cM (k := 162) (n := n) (a := a) (b := b) hm
      have hwf := bS hw hm
      obtain ⟨n', a', b', c, rfl, hcs⟩ := eJ (hf f hm)
      have hz2 := cM (k := 163) (n := n') (a := a') (b := b') (kids := [c]) (t := c) (by simp)
      refine node 163 n' a' b' [c] (by decide) (gA (by decide)) fun u hu => ?_
      rw [List.mem_singleton.1 hu]
      exact ih c (by omega) hcs (bS hwf (by simp))
theorem pJ {i : Int} (hi : 0 ≤ i) {by_ t : Tree} (ht : checkP isConP t = 0) (hb : checkP isConP by_ = 0) : ((ssubC i by_ t 0).2 = 0 ∨ (ssubC i by_ t 0).2 = 3) ∧ ((ssubC i by_ t 0).2 = 0 → (ssubC i by_ t 0).1.whole = true) := by
  unfold ssubC
  by_cases h1 : i > 65536
  · rw [if_pos h1]; exact ⟨.inl rfl, fun _ => (bK ht).1⟩
  · rw [if_neg h1, wR hb, if_neg (by simp), Int.add_zero]
    dsimp only
    refine ⟨?_, fun h => (iZ _ _ _ h).1⟩
    rw [pA t i by_ ht hb hi]
    split
    · exact .inr rfl
    · exact .inl rfl
set_option maxHeartbeats 16000000 in
set_option maxRecDepth 10000 in
theorem kR (C : Tree → Int → Tree × Int) (i : Int) (by_ : Tree) (k n : Int) (a : ByteArray) (kids : List Tree) (hk1 : 160 ≤ k) (hk2 : k < 164) (hsb : sbindsP k n = 0) (hl : kids.length ≤ 1000000)
    (hk : ∀ j (h : j < kids.length), ACalls Tryz.prog 60 [.imm kids[j].iv, .imm (.lit (.int .i64 i)), .imm by_.iv, .imm (.lit (.int .i64 0))] [] (.imm (swalkP C kids[j] 0).1.iv) [] ∧ ((swalkP C kids[j] 0).2 = 0 → (swalkP C kids[j] 0).1.whole = true) ∧ ((swalkP C kids[j] 0).2 ≠ 0 → (swalkP C kids[j] 0).1 = .nil)) :
    ACalls Tryz.prog 60 [.imm (Tree.iv (.node k n a emptyB kids)), .imm (.lit (.int .i64 i)), .imm by_.iv, .imm (.lit (.int .i64 0))] [] (.imm (swalkP C (.node k n a emptyB kids) 0).1.iv) [] := by
  obtain ⟨Q, hQ⟩ : ∃ Q, (swalkP C (.node k n a emptyB kids) 0).1 = Q := ⟨_, rfl⟩
  rw [hQ]
  have cin := wT k n a emptyB kids hk2
  refine cZ Tryz.func60 rfl rfl (nb rfl) rfl ?_
  refine dH (gE 57 (by simp) rfl rfl) ?_
  repeat' (first | refine aG ?_ | (refine aI ?_;  first | refine aD tabOk rfl rfl rfl (nb rfl) rfl ?_ | (refine aM rfl rfl rfl (nb rfl) rfl rfl rfl (fun hq => ?_) (fun hq => ?_) <;> (first | (simp only [sD, sE, sB, sC, sN, sM, sT, sF] at hq; try (exfalso; omega)) | skip)) | refine dQ (d := 56) tabOk rfl rfl rfl (nb rfl) rfl rfl rfl rfl rfl ?_ | refine eQ 57 (d := 57) rfl rfl rfl (nb rfl) rfl rfl rfl rfl rfl ?_) | (refine aN ?_;  first | refine aH ?_ | refine aQ ?_ | refine aY ?_ | refine aU ?_ | refine aA (b := false) rfl nFt (fun _ => ?_) | refine aW mixed (by kernel_rfl) ?_) | (refine aK ?_;  first | refine aX ?_) | refine bQ (bL (by kernel_rfl)) ?_)
  all_goals first
    | exact absurd rfl (by assumption)
    | (exfalso; omega)
    | skip
  refine dH (dU (h0 := 57) (k0 := 4) 500 25 1 rfl rfl (by simp) rfl rfl) ?_
  refine cI (ι := {j : Nat // j ≤ kids.length ∧ ∀ r (hr : r < kids.length), r < j → (swalkP C kids[r] 0).2 = 0}) (fun j => S.f ⟨[(14, .imm (.lit (.int .i64 (j.1 : Int)))), (13, .obj 57 0), (0, .imm (Tree.iv (.node k n a emptyB kids))), (1, .imm (.lit (.int .i64 i))), (2, .imm by_.iv), (3, .imm (.lit (.int .i64 0)))], [(500, .arr 25 1 j.1 (Tree.ivs ((kids.take j.1).map fun t => (swalkP C t 0).1))), (57, .cells [.imm (.lit (.int .i64 k)), .imm (.lit (.int .i64 n)), .imm (.lit (.string a)), .imm (.lit (.string ⟨#[]⟩)), .ref 500 j.1])]⟩) (fun j => kids.length - j.1) ⟨0, Nat.zero_le _, fun r hr h => absurd h (by omega)⟩ (cA (by repeat' first | exact trivial | refine ⟨rfl, ?_⟩) (by repeat' first | exact trivial | refine ⟨rfl, ?_⟩)) ?_
  rintro ⟨j, hj, hok⟩
  dsimp only
  have hil := eG ((kids.take j).map fun t => (swalkP C t 0).1)
  rw [List.length_map, List.length_take, Nat.min_eq_left hj] at hil
  by_cases hlt : j < kids.length
  · have hget := bX kids j hlt
    obtain ⟨ct, cw, cb⟩ := hk j hlt
    have hnx : Tree.ivs ((kids.take (j + 1)).map fun t => (swalkP C t 0).1) = Tree.ivs ((kids.take j).map fun t => (swalkP C t 0).1) ++ [(swalkP C kids[j] 0).1.iv] := by
      rw [List.take_succ_eq_append_getElem hlt, List.map_append, dL, dL, List.map_append]; rfl
    by_cases h0 : (swalkP C kids[j] 0).2 = 0
    · obtain ⟨pm, hpm⟩ := dT (dG (cw h0))
      have hok2 : ∀ r (hr : r < kids.length), r < j + 1 → (swalkP C kids[r] 0).2 = 0 := fun r hr hr2 => by
        by_cases hrj : r = j
        · subst hrj; exact h0
        · exact hok r hr (by omega)
      rw [hpm] at ct hnx
      clear hk hQ cw cb
      generalize Tree.ivs ((kids.take j).map fun t => (swalkP C t 0).1) = ZI at *
      repeat' (first | refine aG ?_ | (refine aI ?_;  first | refine aD tabOk rfl rfl rfl (nb rfl) rfl ?_ | (refine aM rfl rfl rfl (nb rfl) rfl rfl rfl (fun hq => ?_) (fun hq => ?_) <;> (first | (simp only [sD, sE, sB, sC, sN, sM, sT, sF] at hq; try (exfalso; omega)) | skip)) | refine bC tabOk rfl rfl rfl (nb rfl) rfl rfl rfl hget ?_ | refine aE rfl rfl (nb rfl) rfl rfl rfl rfl (cin) ?_ | refine aE rfl rfl (nb rfl) rfl rfl rfl rfl (ct) ?_ | refine bY (z := 0) rfl rfl rfl (nb rfl) rfl rfl rfl (by omega) (by omega) ?_ | refine dF tabOk rfl rfl rfl (nb rfl) rfl rfl rfl rfl rfl rfl rfl (by first | omega | decide) rfl (by first | omega | (dsimp only; omega)) (by first | omega | (dsimp only; omega)) ?_ | refine bP rfl rfl rfl (nb rfl) rfl rfl (by omega) ?_ | refine cH tabOk rfl rfl rfl (nb rfl) rfl rfl rfl rfl rfl rfl rfl rfl rfl ?_ | refine bB tabOk rfl rfl (nb rfl) rfl ?_ | refine bO tabOk rfl rfl rfl (nb rfl) rfl rfl rfl rfl ?_ | refine bJ tabOk rfl rfl rfl rfl rfl rfl rfl rfl rfl rfl rfl ?_ | refine bG tabOk rfl rfl rfl (nb rfl) rfl rfl rfl rfl (by first | assumption | omega) ?_) | (refine aN ?_;  first | refine aH ?_ | refine aQ ?_ | refine bH ?_ | refine aY ?_ | refine aU ?_ | refine aA (b := true) rfl (fun _ => ?_) nTf | refine aA (b := false) rfl nFt (fun _ => ?_) | refine aW mixed (by kernel_rfl) ?_) | (refine aK ?_;  first | refine aX ?_) | (refine bA ?_;  first | refine bU ?_) | refine bQ (bL (by kernel_rfl)) ?_)
      all_goals first
        | exact absurd rfl (by assumption)
        | (exfalso; omega)
        | (refine ⟨⟨j + 1, hlt, hok2⟩, (by show kids.length - (j + 1) < kids.length - j; omega), ?_⟩; dsimp only; rw [hnx]; exact (cA (by repeat' first | exact trivial | refine ⟨rfl, ?_⟩) (by repeat' first | exact trivial | refine ⟨rfl, ?_⟩)))
    · have hQ2 : Q = .nil := by
        rw [← hQ, swalkP, if_neg (by omega), hsb, Int.add_zero, if_pos]
        intro hz
        exact h0 ((jF C 0 kids hz).1 _ (List.getElem_mem hlt))
      subst hQ2
      rw [cb h0] at ct
      clear hk hQ cw cb hnx
      generalize Tree.ivs ((kids.take j).map fun t => (swalkP C t 0).1) = ZI at *
      repeat' (first | refine aG ?_ | (refine aI ?_;  first | refine aD tabOk rfl rfl rfl (nb rfl) rfl ?_ | (refine aM rfl rfl rfl (nb rfl) rfl rfl rfl (fun hq => ?_) (fun hq => ?_) <;> (first | (simp only [sD, sE, sB, sC, sN, sM, sT, sF] at hq; try (exfalso; omega)) | skip)) | refine bC tabOk rfl rfl rfl (nb rfl) rfl rfl rfl hget ?_ | refine aE rfl rfl (nb rfl) rfl rfl rfl rfl (cin) ?_ | refine aE rfl rfl (nb rfl) rfl rfl rfl rfl (ct) ?_ | refine bY (z := 0) rfl rfl rfl (nb rfl) rfl rfl rfl (by omega) (by omega) ?_ | refine bB tabOk rfl rfl (nb rfl) rfl ?_ | refine bG tabOk rfl rfl rfl (nb rfl) rfl rfl rfl rfl (by first | assumption | omega) ?_) | (refine aN ?_;  first | refine aH ?_ | refine aQ ?_ | refine aY ?_ | refine aT ?_ | refine aU ?_ | refine aA (b := true) rfl (fun _ => ?_) nTf | refine aW mixed (by kernel_rfl) ?_) | (refine aK ?_;  first | refine aX ?_ | refine aR ?_) | (refine bA ?_;  first | refine bF ?_) | refine bQ (bL (by kernel_rfl)) ?_)
      all_goals first
        | exact absurd rfl (by assumption)
        | (exfalso; omega)
        | (refine eA ?_; refine aV (by first | exact .inl rfl | exact .inr rfl) (aZ rfl (aC rfl)) rfl ?_; rfl)
  · have ej : j = kids.length := by omega
    subst ej
    rw [List.take_length] at hil ⊢
    have hQ2 : Q = .node k n a emptyB (kids.map fun t => (swalkP C t 0).1) := by
      rw [← hQ, zI (by omega) (by intro u hu; rw [hsb, Int.add_zero]; obtain ⟨r, hr, rfl⟩ := List.getElem_of_mem hu; exact hok r hr hr), hsb, Int.add_zero]
    have hiv : Q.iv = .ptr [.lit (.int .i64 k), .lit (.int .i64 n), .lit (.string a), .lit (.string ⟨#[]⟩), .sl false kids.length (Tree.ivs (kids.map fun t => (swalkP C t 0).1))] 0 := by
      rw [hQ2, Tree.iv, List.length_map]; rfl
    rw [hiv]
    clear hk hQ hQ2 hiv
    generalize Tree.ivs (kids.map fun t => (swalkP C t 0).1) = ZI at *
    repeat' (first | refine aG ?_ | (refine aI ?_;  first | refine aD tabOk rfl rfl rfl (nb rfl) rfl ?_ | (refine aM rfl rfl rfl (nb rfl) rfl rfl rfl (fun hq => ?_) (fun hq => ?_) <;> (first | (simp only [sD, sE, sB, sC, sN, sM, sT, sF] at hq; try (exfalso; omega)) | skip)) | refine bB tabOk rfl rfl (nb rfl) rfl ?_) | (refine aN ?_;  first | refine aH ?_ | refine aQ ?_ | refine aT ?_ | refine bW ?_ | refine aA (b := false) rfl nFt (fun _ => ?_)) | (refine aK ?_;  first | refine aX ?_ | refine bM ?_) | (refine bA ?_;  first | refine bI ?_))
    all_goals first
      | (exfalso; omega)
      | (refine eH ((Imp.of_le (σ' := S.f ⟨[(8, .obj 57 0)], [(500, .arr 25 1 kids.length ZI), (57, .cells [.imm (.lit (.int .i64 k)), .imm (.lit (.int .i64 n)), .imm (.lit (.string a)), .imm (.lit (.string ⟨#[]⟩)), .ref 500 kids.length])]⟩) (cA (by repeat' first | exact trivial | refine ⟨rfl, ?_⟩) (by repeat' first | exact trivial | refine ⟨rfl, ?_⟩))).trans ((dC (g := 500) rfl (by repeat' first | exact trivial | exact fun _ => rfl | refine ⟨?_, ?_⟩) (by repeat' first | exact trivial | exact fun _ => rfl | refine ⟨?_, ?_⟩)).trans (dI (g := 57) rfl rfl))) ?_
         refine aV (by first | exact .inl rfl | exact .inr rfl) (aZ rfl (aC rfl)) rfl ?_; rfl)
theorem aCD (i : Int) (by_ : Tree) (hi : 0 ≤ i) (hb : checkP isConP by_ = 0) (t : Tree) : isSigP t = true → t.whole = true → t.size ≤ 1000000 → ACalls Tryz.prog 60 [.imm t.iv, .imm (.lit (.int .i64 i)), .imm by_.iv, .imm (.lit (.int .i64 0))] [] (.imm (swalkP (ssubC i by_) t 0).1.iv) [] := by
  induction t using Tree.sind with
  | h t ih =>
    intro hs hw hz0
    have hsw := hs
    obtain ⟨k, n, a, b, kids, rfl⟩ := cF hw
    have hl := cC kids hw
    have hsz : (Tree.node k n a b kids).size = 1 + Tree.sizes kids := by rw [Tree.size]
    rcases eV hs with ⟨hk, c, rfl, hc⟩ | ⟨rfl, hf, hr⟩
    · rw [isSigP, Bool.and_eq_true] at hs
      obtain ⟨rfl, rfl⟩ := nL hs.1
      refine kR (ssubC i by_) i by_ k n emptyB [c] (by omega) (by omega) (gA (by omega)) (by omega) fun j h => ?_
      obtain rfl : j = 0 := by simp only [List.length_cons, List.length_nil] at h; omega
      show ACalls _ _ [.imm c.iv, _, _, _] _ (.imm (swalkP _ c 0).1.iv) _ ∧ ((swalkP _ c 0).2 = 0 → (swalkP _ c 0).1.whole = true) ∧ ((swalkP _ c 0).2 ≠ 0 → (swalkP _ c 0).1 = .nil)
      rw [pD hc]
      exact ⟨aAb i by_ c 0 hi hc hb (Int.le_refl _) (by omega), (pJ hi hc hb).2, jV i by_ c 0⟩
    · rw [isSigP, Bool.and_eq_true] at hs
      obtain ⟨rfl, rfl⟩ := nL hs.1
      refine kR (ssubC i by_) i by_ 162 n emptyB kids (by omega) (by omega) (gA (by decide)) (by omega) fun j h => ?_
      have hm := List.getElem_mem h
      have hz := cM (k := 162) (n := n) (a := emptyB) (b := emptyB) hm
      have hwf := bS hw hm
      have hok := hf _ hm
      generalize kids[j] = f at *
      obtain ⟨n', a', b', c, rfl, hcs⟩ := eJ hok
      have hb' : b' = emptyB := by
        simp only [okSField, Bool.and_eq_true] at hok
        have h1 := hok.1.1.2
        unfold sbareP at h1
        simp only [Bool.and_eq_true] at h1
        exact (dO _ _).1 h1.1.1
      subst hb'
      have hz2 := cM (k := 163) (n := n') (a := a') (b := emptyB) (kids := [c]) (t := c) (by simp)
      have hcw := bS hwf (List.mem_singleton.2 rfl)
      have hwk := uP (ssubC i by_) (fun t ht => pJ hi ht hb) c hcs hcw
      have hwn : (swalkP (ssubC i by_) (.node 163 n' a' emptyB [c]) 0).2 = 0 → (swalkP (ssubC i by_) (.node 163 n' a' emptyB [c]) 0).1.whole = true := fun h0 => by
        obtain ⟨g1, g2⟩ := mS (by decide) h0
        rw [gA (by decide), Int.add_zero] at g1 g2
        rw [g2]
        show Tree.wholes [_] = true
        rw [Tree.wholes, hwk.2 (g1 c (by simp))]; rfl
      refine ⟨?_, hwn, mB _ (jV i by_) _ _⟩
      refine kR (ssubC i by_) i by_ 163 n' a' [c] (by omega) (by omega) (gA (by decide)) (by simp) fun r h => ?_
      obtain rfl : r = 0 := by simp only [List.length_cons, List.length_nil] at h; omega
      exact ⟨ih c (by omega) hcs hcw (by omega), hwk.2, mB _ (jV i by_) _ _⟩
set_option maxHeartbeats 8000000 in
set_option maxRecDepth 10000 in
theorem wU (t : Tree) (i : Int) (by_ : Tree) (hs : isSigP t = true) (hw : t.whole = true) (hz : t.size ≤ 65536) (hb : checkP isConP by_ = 0) (hi : 0 ≤ i) (hrs : (swalkP (ssubC i by_) t 0).1.size ≤ 1000000) : ACalls Tryz.prog 27 [.imm t.iv, .imm (.lit (.int .i64 i)), .imm by_.iv] [] (.imm (.tup [(ssubstP t i by_).1.iv, .lit (.int .i64 (ssubstP t i by_).2)])) [] := by
  have hck : checkP sformP t = 0 := by rw [fM sformP t hw hz, if_pos (by unfold sformP; rw [hs]; rfl)]
  have c1 := fB t (.inr hw) hz
  rw [hck] at c1
  have c2 := eB by_ (by have := (bK hb).2.1; omega)
  rw [hb] at c2
  have c3 := aCD i by_ hi hb t hs hw (by omega)
  have hwk := uP (ssubC i by_) (fun t ht => pJ hi ht hb) t hs hw
  have hbad := mB (ssubC i by_) (jV i by_) t 0
  have E : ssubstP t i by_ = sizedP (swalkP (ssubC i by_) t 0).1 (swalkP (ssubC i by_) t 0).2 := by
    unfold ssubstP
    rw [if_neg (by simpa using hck), if_neg (by simpa using hb), if_neg (by omega)]
  rw [E]
  clear E hck
  generalize swalkP (ssubC i by_) t 0 = W at *
  obtain ⟨W1, W2⟩ := W
  dsimp only at *
  by_cases h0 : W2 = 0
  · subst h0
    have hww := hwk.2 rfl
    have c4 := nJ W1 hww hrs
    rw [aAQ W1 hww]
    obtain ⟨px, hpx⟩ := dT (dG hww)
    rw [hpx] at c3 c4
    by_cases hbig : (W1.size : Int) > 65536
    · rw [if_pos hbig]
      clear hbad hwk hww hrs
      generalize (W1.size : Int) = Z at *
      refine aJ Tryz.func27 rfl rfl (nb rfl) rfl ?_
      repeat' (first | refine aG ?_ | (refine aI ?_;  first | refine aD tabOk rfl rfl rfl (nb rfl) rfl ?_ | (refine aM rfl rfl rfl (nb rfl) rfl rfl rfl (fun hq => ?_) (fun hq => ?_) <;> (first | (simp only [sD, sE, sB, sC, sN, sM, sT, sF] at hq; try (exfalso; omega)) | skip)) | refine aE rfl rfl (nb rfl) rfl rfl rfl rfl (c1) ?_ | refine aE rfl rfl (nb rfl) rfl rfl rfl rfl (c2) ?_ | refine aE rfl rfl (nb rfl) rfl rfl rfl rfl (c3) ?_ | refine aE rfl rfl (nb rfl) rfl rfl rfl rfl (c4) ?_ | refine bB tabOk rfl rfl (nb rfl) rfl ?_) | (refine aN ?_;  first | refine aH ?_ | refine aQ ?_ | refine aT ?_ | refine aU ?_ | refine aA (b := true) rfl (fun _ => ?_) nTf | refine aA (b := false) rfl nFt (fun _ => ?_)) | (refine aK ?_;  first | refine aX ?_ | refine aR ?_))
      all_goals first
        | exact absurd rfl (by assumption)
        | (exfalso; omega)
        | (refine aV (by first | exact .inl rfl | exact .inr rfl) (bD rfl (aC rfl) (aC rfl)) rfl ?_; rfl)
    · rw [if_neg hbig]
      dsimp only
      rw [hpx]
      clear hbad hwk hww hrs
      generalize (W1.size : Int) = Z at *
      refine aJ Tryz.func27 rfl rfl (nb rfl) rfl ?_
      repeat' (first | refine aG ?_ | (refine aI ?_;  first | refine aD tabOk rfl rfl rfl (nb rfl) rfl ?_ | (refine aM rfl rfl rfl (nb rfl) rfl rfl rfl (fun hq => ?_) (fun hq => ?_) <;> (first | (simp only [sD, sE, sB, sC, sN, sM, sT, sF] at hq; try (exfalso; omega)) | skip)) | refine aE rfl rfl (nb rfl) rfl rfl rfl rfl (c1) ?_ | refine aE rfl rfl (nb rfl) rfl rfl rfl rfl (c2) ?_ | refine aE rfl rfl (nb rfl) rfl rfl rfl rfl (c3) ?_ | refine aE rfl rfl (nb rfl) rfl rfl rfl rfl (c4) ?_ | refine bB tabOk rfl rfl (nb rfl) rfl ?_) | (refine aN ?_;  first | refine aH ?_ | refine aQ ?_ | refine aT ?_ | refine aU ?_ | refine aA (b := false) rfl nFt (fun _ => ?_)) | (refine aK ?_;  first | refine aX ?_))
      all_goals first
        | exact absurd rfl (by assumption)
        | (exfalso; omega)
        | (refine aV (by first | exact .inl rfl | exact .inr rfl) (bD rfl (aC rfl) (aC rfl)) rfl ?_; rfl)
  · have h3 := hwk.1.resolve_left h0
    subst h3
    rw [hbad (by decide)] at c3 ⊢
    have e : sizedP .nil 3 = (.nil, 3) := rfl
    rw [e]
    clear hbad hwk hrs
    refine aJ Tryz.func27 rfl rfl (nb rfl) rfl ?_
    repeat' (first | refine aG ?_ | (refine aI ?_;  first | refine aD tabOk rfl rfl rfl (nb rfl) rfl ?_ | refine bE rfl rfl (nb rfl) ?_ | (refine aM rfl rfl rfl (nb rfl) rfl rfl rfl (fun hq => ?_) (fun hq => ?_) <;> (first | (simp only [sD, sE, sB, sC, sN, sM, sT, sF] at hq; try (exfalso; omega)) | skip)) | refine aE rfl rfl (nb rfl) rfl rfl rfl rfl (c1) ?_ | refine aE rfl rfl (nb rfl) rfl rfl rfl rfl (c2) ?_ | refine aE rfl rfl (nb rfl) rfl rfl rfl rfl (c3) ?_ | refine bB tabOk rfl rfl (nb rfl) rfl ?_) | (refine aN ?_;  first | refine aH ?_ | refine aQ ?_ | refine aT ?_ | refine aU ?_ | refine aA (b := true) rfl (fun _ => ?_) nTf | refine aA (b := false) rfl nFt (fun _ => ?_)) | (refine aK ?_;  first | refine aX ?_ | refine aR ?_))
    all_goals first
      | exact absurd rfl (by assumption)
      | (exfalso; omega)
      | (refine aV (by first | exact .inl rfl | exact .inr rfl) (bD rfl (aC rfl) (aC rfl)) rfl ?_; rfl)
end Go.Proofs.YtdajnmffoopcaaaGreatDoor.Ab
namespace Go.Proofs.YtdajnmffoopcaaaGreatDoor.Ab
set_option linter.unusedVariables false
set_option linter.unusedSimpArgs false
open Go.RowKit Go.Lib Go.Proofs.YtdajnmffoopcaaaGreatDoorW.PrintWords Go.Proofs.YtdajnmffoopcaaaGreatDoorW.PrintLast Go.Proofs.YtdajnmffoopcaaaGreatDoorW.PrintMore Go.Proofs.YtdajnmffoopcaaaGreatDoor.RP Go.Proofs.YtdajnmffoopcaaaGreatDoor.RW Go.Proofs.YtdajnmffoopcaaaGreatDoor.PAll
attribute [local irreducible] AWP AOps AExit AThen ABlock ANoGoto FeetOk
theorem qS (l : List ByteArray) (x : ByteArray) : strs (l ++ [x]) = strs l ++ [.lit (.string x)] := by simp [strs]
end Go.Proofs.YtdajnmffoopcaaaGreatDoor.Ab
namespace Go.Proofs.YtdajnmffoopcaaaGreatDoor.Ab
set_option linter.unusedVariables false
set_option linter.unusedSimpArgs false
open Go.RowKit Go.Lib Go.Proofs.YtdajnmffoopcaaaGreatDoorW.PrintWords Go.Proofs.YtdajnmffoopcaaaGreatDoorW.PrintLast Go.Proofs.YtdajnmffoopcaaaGreatDoorW.PrintMore Go.Proofs.YtdajnmffoopcaaaGreatDoor.RP Go.Proofs.YtdajnmffoopcaaaGreatDoor.RW Go.Proofs.YtdajnmffoopcaaaGreatDoor.PAll
attribute [local irreducible] AWP AOps AExit AThen ABlock ANoGoto FeetOk
set_option maxHeartbeats 4000000 in
set_option maxRecDepth 10000 in
theorem aBn (s : ByteArray) (hs : s.size ≤ 1000000) : ACalls Tryz.prog 102 [.imm (.lit (.string s))] [] (.imm (.lit (.bool (nameB s)))) [] := by
  have c1 := zT s hs
  have c2 := zS s
  unfold nameB
  refine aJ Tryz.func102 rfl rfl (nb rfl) rfl ?_
  repeat' (first | refine aG ?_ | (refine aI ?_; first | refine aD tabOk rfl rfl rfl (nb rfl) rfl ?_ | refine bE rfl rfl (nb rfl) ?_ | (refine aM rfl rfl rfl (nb rfl) rfl rfl rfl (fun hq => ?_) (fun hq => ?_) <;> (first | (simp only [sD, sE, sB, sC, sN, sM, sT, sF] at hq; try (exfalso; omega)) | skip))| (refine bT rfl rfl rfl (nb rfl) rfl rfl rfl (c1) (fun hq => ?_) (fun hq => ?_)) | (refine bT rfl rfl rfl (nb rfl) rfl rfl rfl (c2) (fun hq => ?_) (fun hq => ?_)) | refine bP rfl rfl rfl (nb rfl) rfl rfl (by omega) ?_ | refine bY rfl rfl rfl (nb rfl) rfl rfl rfl (by omega) (by omega) ?_ | refine bV rfl rfl rfl (nb rfl) rfl rfl rfl (by omega) (by omega) ?_ | refine cH tabOk rfl rfl rfl (nb rfl) rfl rfl rfl rfl rfl rfl rfl rfl rfl ?_ | refine bB tabOk rfl rfl (nb rfl) rfl ?_ | refine cJ tabOk rfl rfl rfl (nb rfl) rfl rfl rfl rfl rfl rfl ?_ | refine bO tabOk rfl rfl rfl (nb rfl) rfl rfl rfl rfl ?_ | refine bJ tabOk rfl rfl rfl rfl rfl rfl rfl rfl rfl rfl rfl ?_ | refine bG tabOk rfl rfl rfl (nb rfl) rfl rfl rfl rfl (by first | assumption | omega) ?_ | refine bN tabOk rfl rfl rfl (nb rfl) rfl rfl rfl rfl (by first | rfl | omega) (by first | omega | simp) ?_ | refine bC tabOk rfl rfl rfl (nb rfl) rfl rfl rfl (by assumption) ?_ | refine bC tabOk rfl rfl rfl (nb rfl) rfl rfl rfl (bX _ _ (by first | assumption | omega)) ?_ | refine bP rfl rfl rfl (nb rfl) rfl rfl (by omega) ?_ | ((fail_if_success (refine cB (b := true) rfl rfl rfl ?_)); (fail_if_success (refine cB (b := false) rfl rfl rfl ?_)); refine cR rfl rfl rfl (fun hq => ?_) (fun hq => ?_) <;> first | subst hq | (first | (simp only [sD, sE, sB, sC, sN, sM, sT, sF] at hq; try (exfalso; omega)) | skip)) | fail) | (refine aN ?_; first | refine aH ?_ | refine aQ ?_ | refine bH ?_ | refine aY ?_ | refine aT ?_ | refine bW ?_ | refine aU ?_ | refine aA (b := true) rfl (fun _ => ?_) nTf | refine aA (b := false) rfl nFt (fun _ => ?_) | refine cT ?_ | refine cS ?_ | refine cU mixed (by kernel_rfl) ?_ | refine aW mixed (by kernel_rfl) ?_ | (refine aA rfl (fun hq => ?_) (fun hq => ?_) <;> first | subst hq | (first | (simp only [sD, sE, sB, sC, sN, sM, sT, sF] at hq; try (exfalso; omega)) | skip)) | fail) | (refine aK ?_; first | refine aX ?_ | refine bM ?_ | refine aR ?_ | fail) | (refine bA ?_; first | refine bU ?_ | refine bI ?_ | refine cK (by decide) ?_ | refine bF ?_ | fail) | refine bQ (bL (by kernel_rfl)) ?_ | fail)
  all_goals (refine aV (by first | exact .inl rfl | exact .inr rfl) (aZ rfl (aC rfl)) rfl ?_; refine cO ?_; simp_all)
theorem ext_list (s : ByteArray) (i j : Nat) : (s.extract i j).data.toList = (s.data.toList.take j).drop i := by
  rw [ByteArray.data_extract, Array.toList_extract, List.extract_eq_take_drop, List.drop_take]
theorem uQ (s : ByteArray) (i : Nat) (h : i < s.size) : s.data.toList[i]? = some s[i] := by
  rw [List.getElem?_eq_getElem (by rw [fE]; exact h)]
  rfl
theorem aBo (s : ByteArray) (a i : Nat) (ha : a ≤ i) (hi : i < s.size) (hb : s[i] = 46) (hn : (46 : UInt8) ∉ (s.extract a i).data.toList) :
    pcsB (s.extract a s.size) = s.extract a i :: pcsB (s.extract (i + 1) s.size) := by
  have hl : (s.extract a s.size).data.toList = (s.extract a i).data.toList ++ 46 :: (s.extract (i + 1) s.size).data.toList := by
    rw [ext_list, ext_list, ext_list, ← fE, List.take_length]
    have hb' := uQ s i hi
    rw [hb] at hb'
    generalize s.data.toList = l at *
    have h1 : l = l.take i ++ 46 :: l.drop (i + 1) := by
      conv => lhs; rw [← List.take_append_drop i l]
      congr 1
      rw [List.drop_eq_getElem?_toList_append, hb']
      rfl
    have h2 : (l.take i).length = i := by
      rw [List.length_take]
      have : i < l.length := by
        rcases Nat.lt_or_ge i l.length with h | h
        · exact h
        · rw [List.getElem?_eq_none h] at hb'; cases hb'
      omega
    conv => lhs; rw [h1]
    rw [List.drop_append, h2, Nat.sub_eq_zero_of_le ha]
    rfl
  unfold pcsB
  rw [hl, rX, hE _ hn]
  show mkB _ :: (pcs _).map mkB = _
  rw [lK]
theorem aCj (s : ByteArray) (h : (46 : UInt8) ∉ s.data.toList) : pcsB s = [s] := by
  unfold pcsB
  rw [hE _ h]
  show [mkB _] = _
  rw [lK]
theorem uR (s : ByteArray) (a i : Nat) (ha : a ≤ i) (hi : i < s.size) (hb : s[i] ≠ 46) (hn : (46 : UInt8) ∉ (s.extract a i).data.toList) : (46 : UInt8) ∉ (s.extract a (i + 1)).data.toList := by
  have hb' := uQ s i hi
  rw [ext_list] at hn ⊢
  have h2 : (s.data.toList.take i).length = i := by rw [List.length_take, fE]; omega
  rw [List.take_add_one, hb', List.drop_append, h2, Nat.sub_eq_zero_of_le ha, List.mem_append]
  rintro (h | h)
  · exact hn h
  · exact hb (List.mem_singleton.1 h).symm
theorem mU (s : ByteArray) (i : Nat) : (46 : UInt8) ∉ (s.extract i i).data.toList := by
  rw [ext_list, List.drop_eq_nil_of_le (by rw [List.length_take]; omega)]
  exact List.not_mem_nil
structure PcI (s : ByteArray) (i a : Nat) (D : List ByteArray) : Prop where
  le : i ≤ s.size
  ge : a ≤ i
  p : pcsB s = D ++ pcsB (s.extract a s.size)
  n : (46 : UInt8) ∉ (s.extract a i).data.toList
theorem ext_all (s : ByteArray) : s.extract 0 s.size = s := by
  apply rW
  rw [ext_list, ← fE, List.take_length]
  rfl
theorem aCR {b : UInt8} (h : (b.toNat : Int) = 46) : b = 46 := by
  apply UInt8.toNat_inj.1
  have : b.toNat = 46 := by omega
  rw [this]; rfl
set_option maxHeartbeats 8000000 in
set_option maxRecDepth 10000 in
theorem uS (s : ByteArray) (hs : s.size ≤ 100000) : ACalls Tryz.prog 97 [.imm (.lit (.string s))] [] (.imm (.sl false (pcsB s).length (strs (pcsB s)))) [] := by
  have hpl := jG s
  refine cZ Tryz.func97 rfl rfl (nb rfl) rfl ?_
  repeat' (first | refine aG ?_ | (refine aI ?_; first | refine aD tabOk rfl rfl rfl (nb rfl) rfl ?_ | refine bE rfl rfl (nb rfl) ?_ | (refine aM rfl rfl rfl (nb rfl) rfl rfl rfl (fun hq => ?_) (fun hq => ?_) <;> (first | (simp only [sD, sE, sB, sC, sN, sM, sT, sF] at hq; try (exfalso; omega)) | skip)) | refine bP rfl rfl rfl (nb rfl) rfl rfl (by omega) ?_ | refine bY rfl rfl rfl (nb rfl) rfl rfl rfl (by omega) (by omega) ?_ | refine bV rfl rfl rfl (nb rfl) rfl rfl rfl (by omega) (by omega) ?_ | refine cH tabOk rfl rfl rfl (nb rfl) rfl rfl rfl rfl rfl rfl rfl rfl rfl ?_ | refine bB tabOk rfl rfl (nb rfl) rfl ?_ | refine cJ tabOk rfl rfl rfl (nb rfl) rfl rfl rfl rfl rfl rfl ?_ | refine bO tabOk rfl rfl rfl (nb rfl) rfl rfl rfl rfl ?_ | refine bJ tabOk rfl rfl rfl rfl rfl rfl rfl rfl rfl rfl rfl ?_ | refine bG tabOk rfl rfl rfl (nb rfl) rfl rfl rfl rfl (by first | assumption | omega) ?_ | refine bN tabOk rfl rfl rfl (nb rfl) rfl rfl rfl rfl (by first | rfl | omega) (by first | omega | simp) ?_ | refine bC tabOk rfl rfl rfl (nb rfl) rfl rfl rfl (by assumption) ?_ | refine bC tabOk rfl rfl rfl (nb rfl) rfl rfl rfl (bX _ _ (by first | assumption | omega)) ?_ | refine bP rfl rfl rfl (nb rfl) rfl rfl (by omega) ?_ | ((fail_if_success (refine cB (b := true) rfl rfl rfl ?_)); (fail_if_success (refine cB (b := false) rfl rfl rfl ?_)); refine cR rfl rfl rfl (fun hq => ?_) (fun hq => ?_) <;> first | subst hq | (first | (simp only [sD, sE, sB, sC, sN, sM, sT, sF] at hq; try (exfalso; omega)) | skip)) | fail) | (refine aN ?_; first | refine aH ?_ | refine aQ ?_ | refine bH ?_ | refine aY ?_ | refine aT ?_ | refine bW ?_ | refine aU ?_ | refine aA (b := true) rfl (fun _ => ?_) nTf | refine aA (b := false) rfl nFt (fun _ => ?_) | refine cT ?_ | refine cS ?_ | refine cU mixed (by kernel_rfl) ?_ | refine aW mixed (by kernel_rfl) ?_ | (refine aA rfl (fun hq => ?_) (fun hq => ?_) <;> first | subst hq | (first | (simp only [sD, sE, sB, sC, sN, sM, sT, sF] at hq; try (exfalso; omega)) | skip)) | fail) | (refine aK ?_; first | refine aX ?_ | refine bM ?_ | refine aR ?_ | fail) | (refine bA ?_; first | refine bU ?_ | refine bI ?_ | refine cK (by decide) ?_ | refine bF ?_ | fail) | refine bQ (bL (by kernel_rfl)) ?_ | fail)
  refine dH (aBG (t := 3) 500 9 1 rfl (by simp) rfl rfl) ?_
  refine cI (ι := {x : Nat × Nat × List ByteArray // PcI s x.1 x.2.1 x.2.2}) (fun x => S.f ⟨[(5, .imm (.lit (.int .i64 (x.1.1 : Int)))), (4, .imm (.lit (.int .i64 (x.1.2.1 : Int)))), (3, .ref 500 x.1.2.2.length), (0, .imm (.lit (.string s)))], [(500, .arr 9 1 x.1.2.2.length (strs x.1.2.2))]⟩) (fun x => s.size - x.1.1) ⟨(0, 0, []), ⟨Nat.zero_le _, Nat.le_refl _, by rw [ext_all]; rfl, mU s 0⟩⟩ (cA (by repeat' first | exact trivial | refine ⟨rfl, ?_⟩) (by repeat' first | exact trivial | refine ⟨rfl, ?_⟩)) ?_
  rintro ⟨⟨i, a, D⟩, hI⟩
  have hI : PcI s i a D := hI
  obtain ⟨hi, ha, hp, hn⟩ := hI
  dsimp only
  have hDl : D.length ≤ s.size + 1 := by rw [hp, List.length_append] at hpl; omega
  by_cases hlt : i < s.size
  · have hg : s[i]? = some s[i] := getElem?_pos s i hlt
    by_cases hb : s[i] = 46
    · have hst := aBo s a i ha hlt hb hn
      have hD : strs (D ++ [s.extract a i]) = strs D ++ [.lit (.string (s.extract a i))] := qS D _
      rw [hb] at hg
      repeat' (first | refine aG ?_ | (refine aI ?_; first | refine aD tabOk rfl rfl rfl (nb rfl) rfl ?_ | refine bE rfl rfl (nb rfl) ?_ | (refine aM rfl rfl rfl (nb rfl) rfl rfl rfl (fun hq => ?_) (fun hq => ?_) <;> (first | (simp only [sD, sE, sB, sC, sN, sM, sT, sF] at hq; try (exfalso; omega)) | skip))| refine qF tabOk rfl rfl rfl (nb rfl) rfl rfl rfl rfl hg ?_ | refine fV tabOk rfl rfl rfl (nb rfl) rfl rfl rfl rfl (by omega) (by omega) rfl ?_ | refine dF tabOk rfl rfl rfl (nb rfl) rfl rfl rfl rfl rfl rfl rfl (by first | omega | decide) rfl (by first | omega | (dsimp only; omega)) (by first | omega | (dsimp only; omega)) ?_ | refine bP rfl rfl rfl (nb rfl) rfl rfl (by omega) ?_ | refine bY rfl rfl rfl (nb rfl) rfl rfl rfl (by omega) (by omega) ?_ | refine bV rfl rfl rfl (nb rfl) rfl rfl rfl (by omega) (by omega) ?_ | refine cH tabOk rfl rfl rfl (nb rfl) rfl rfl rfl rfl rfl rfl rfl rfl rfl ?_ | refine bB tabOk rfl rfl (nb rfl) rfl ?_ | refine cJ tabOk rfl rfl rfl (nb rfl) rfl rfl rfl rfl rfl rfl ?_ | refine bO tabOk rfl rfl rfl (nb rfl) rfl rfl rfl rfl ?_ | refine bJ tabOk rfl rfl rfl rfl rfl rfl rfl rfl rfl rfl rfl ?_ | refine bG tabOk rfl rfl rfl (nb rfl) rfl rfl rfl rfl (by first | assumption | omega) ?_ | refine bN tabOk rfl rfl rfl (nb rfl) rfl rfl rfl rfl (by first | rfl | omega) (by first | omega | simp) ?_ | refine bC tabOk rfl rfl rfl (nb rfl) rfl rfl rfl (by assumption) ?_ | refine bC tabOk rfl rfl rfl (nb rfl) rfl rfl rfl (bX _ _ (by first | assumption | omega)) ?_ | refine bP rfl rfl rfl (nb rfl) rfl rfl (by omega) ?_ | ((fail_if_success (refine cB (b := true) rfl rfl rfl ?_)); (fail_if_success (refine cB (b := false) rfl rfl rfl ?_)); refine cR rfl rfl rfl (fun hq => ?_) (fun hq => ?_) <;> first | subst hq | (first | (simp only [sD, sE, sB, sC, sN, sM, sT, sF] at hq; try (exfalso; omega)) | skip)) | fail) | (refine aN ?_; first | refine aH ?_ | refine aQ ?_ | refine bH ?_ | refine aY ?_ | refine aT ?_ | refine bW ?_ | refine aU ?_ | refine aA (b := true) rfl (fun _ => ?_) nTf | refine aA (b := false) rfl nFt (fun _ => ?_) | refine cT ?_ | refine cS ?_ | refine cU mixed (by kernel_rfl) ?_ | refine aW mixed (by kernel_rfl) ?_ | (refine aA rfl (fun hq => ?_) (fun hq => ?_) <;> first | subst hq | (first | (simp only [sD, sE, sB, sC, sN, sM, sT, sF] at hq; try (exfalso; omega)) | skip)) | fail) | (refine aK ?_; first | refine aX ?_ | refine bM ?_ | refine aR ?_ | fail) | (refine bA ?_; first | refine bU ?_ | refine bI ?_ | refine cK (by decide) ?_ | refine bF ?_ | fail) | refine bQ (bL (by kernel_rfl)) ?_ | fail)
      all_goals first | (rename_i hq _; exact absurd rfl hq) | (refine ⟨⟨(i + 1, i + 1, D ++ [s.extract a i]), ⟨hlt, Nat.le_refl _, by rw [hp, hst, List.append_assoc]; rfl, mU s _⟩⟩, (by show s.size - (i + 1) < s.size - i; omega), ?_⟩; dsimp only; rw [List.length_append, hD]; exact (cA (by repeat' first | exact trivial | refine ⟨rfl, ?_⟩) (by repeat' first | exact trivial | refine ⟨rfl, ?_⟩)))
    · repeat' (first | refine aG ?_ | (refine aI ?_; first | refine aD tabOk rfl rfl rfl (nb rfl) rfl ?_ | refine bE rfl rfl (nb rfl) ?_ | (refine aM rfl rfl rfl (nb rfl) rfl rfl rfl (fun hq => ?_) (fun hq => ?_) <;> (first | (simp only [sD, sE, sB, sC, sN, sM, sT, sF] at hq; try (exfalso; omega)) | skip))| refine qF tabOk rfl rfl rfl (nb rfl) rfl rfl rfl rfl hg ?_ | refine bP rfl rfl rfl (nb rfl) rfl rfl (by omega) ?_ | refine bY rfl rfl rfl (nb rfl) rfl rfl rfl (by omega) (by omega) ?_ | refine bV rfl rfl rfl (nb rfl) rfl rfl rfl (by omega) (by omega) ?_ | refine cH tabOk rfl rfl rfl (nb rfl) rfl rfl rfl rfl rfl rfl rfl rfl rfl ?_ | refine bB tabOk rfl rfl (nb rfl) rfl ?_ | refine cJ tabOk rfl rfl rfl (nb rfl) rfl rfl rfl rfl rfl rfl ?_ | refine bO tabOk rfl rfl rfl (nb rfl) rfl rfl rfl rfl ?_ | refine bJ tabOk rfl rfl rfl rfl rfl rfl rfl rfl rfl rfl rfl ?_ | refine bG tabOk rfl rfl rfl (nb rfl) rfl rfl rfl rfl (by first | assumption | omega) ?_ | refine bN tabOk rfl rfl rfl (nb rfl) rfl rfl rfl rfl (by first | rfl | omega) (by first | omega | simp) ?_ | refine bC tabOk rfl rfl rfl (nb rfl) rfl rfl rfl (by assumption) ?_ | refine bC tabOk rfl rfl rfl (nb rfl) rfl rfl rfl (bX _ _ (by first | assumption | omega)) ?_ | refine bP rfl rfl rfl (nb rfl) rfl rfl (by omega) ?_ | ((fail_if_success (refine cB (b := true) rfl rfl rfl ?_)); (fail_if_success (refine cB (b := false) rfl rfl rfl ?_)); refine cR rfl rfl rfl (fun hq => ?_) (fun hq => ?_) <;> first | subst hq | (first | (simp only [sD, sE, sB, sC, sN, sM, sT, sF] at hq; try (exfalso; omega)) | skip)) | fail) | (refine aN ?_; first | refine aH ?_ | refine aQ ?_ | refine bH ?_ | refine aY ?_ | refine aT ?_ | refine bW ?_ | refine aU ?_ | refine aA (b := true) rfl (fun _ => ?_) nTf | refine aA (b := false) rfl nFt (fun _ => ?_) | refine cT ?_ | refine cS ?_ | refine cU mixed (by kernel_rfl) ?_ | refine aW mixed (by kernel_rfl) ?_ | (refine aA rfl (fun hq => ?_) (fun hq => ?_) <;> first | subst hq | (first | (simp only [sD, sE, sB, sC, sN, sM, sT, sF] at hq; try (exfalso; omega)) | skip)) | fail) | (refine aK ?_; first | refine aX ?_ | refine bM ?_ | refine aR ?_ | fail) | (refine bA ?_; first | refine bU ?_ | refine bI ?_ | refine cK (by decide) ?_ | refine bF ?_ | fail) | refine bQ (bL (by kernel_rfl)) ?_ | fail)
      · rename_i hq _
        exact absurd (aCR hq) hb
      · exact ⟨⟨(i + 1, a, D), ⟨hlt, (by show a ≤ i + 1; omega), hp, uR s a i ha hlt hb hn⟩⟩, (by show s.size - (i + 1) < s.size - i; omega), (cA (by repeat' first | exact trivial | refine ⟨rfl, ?_⟩) (by repeat' first | exact trivial | refine ⟨rfl, ?_⟩))⟩
  · have ei : i = s.size := by omega
    subst ei
    have hst := aCj _ hn
    have hD : strs (D ++ [s.extract a s.size]) = strs D ++ [.lit (.string (s.extract a s.size))] := qS D _
    rw [hst] at hp
    rw [hp, hD]
    repeat' (first | refine aG ?_ | (refine aI ?_; first | refine aD tabOk rfl rfl rfl (nb rfl) rfl ?_ | refine bE rfl rfl (nb rfl) ?_ | (refine aM rfl rfl rfl (nb rfl) rfl rfl rfl (fun hq => ?_) (fun hq => ?_) <;> (first | (simp only [sD, sE, sB, sC, sN, sM, sT, sF] at hq; try (exfalso; omega)) | skip))| refine fV tabOk rfl rfl rfl (nb rfl) rfl rfl rfl rfl (by omega) (by omega) rfl ?_ | refine dF tabOk rfl rfl rfl (nb rfl) rfl rfl rfl rfl rfl rfl rfl (by first | omega | decide) rfl (by first | omega | (dsimp only; omega)) (by first | omega | (dsimp only; omega)) ?_ | refine bP rfl rfl rfl (nb rfl) rfl rfl (by omega) ?_ | refine bY rfl rfl rfl (nb rfl) rfl rfl rfl (by omega) (by omega) ?_ | refine bV rfl rfl rfl (nb rfl) rfl rfl rfl (by omega) (by omega) ?_ | refine cH tabOk rfl rfl rfl (nb rfl) rfl rfl rfl rfl rfl rfl rfl rfl rfl ?_ | refine bB tabOk rfl rfl (nb rfl) rfl ?_ | refine cJ tabOk rfl rfl rfl (nb rfl) rfl rfl rfl rfl rfl rfl ?_ | refine bO tabOk rfl rfl rfl (nb rfl) rfl rfl rfl rfl ?_ | refine bJ tabOk rfl rfl rfl rfl rfl rfl rfl rfl rfl rfl rfl ?_ | refine bG tabOk rfl rfl rfl (nb rfl) rfl rfl rfl rfl (by first | assumption | omega) ?_ | refine bN tabOk rfl rfl rfl (nb rfl) rfl rfl rfl rfl (by first | rfl | omega) (by first | omega | simp) ?_ | refine bC tabOk rfl rfl rfl (nb rfl) rfl rfl rfl (by assumption) ?_ | refine bC tabOk rfl rfl rfl (nb rfl) rfl rfl rfl (bX _ _ (by first | assumption | omega)) ?_ | refine bP rfl rfl rfl (nb rfl) rfl rfl (by omega) ?_ | ((fail_if_success (refine cB (b := true) rfl rfl rfl ?_)); (fail_if_success (refine cB (b := false) rfl rfl rfl ?_)); refine cR rfl rfl rfl (fun hq => ?_) (fun hq => ?_) <;> first | subst hq | (first | (simp only [sD, sE, sB, sC, sN, sM, sT, sF] at hq; try (exfalso; omega)) | skip)) | fail) | (refine aN ?_; first | refine aH ?_ | refine aQ ?_ | refine bH ?_ | refine aY ?_ | refine aT ?_ | refine bW ?_ | refine aU ?_ | refine aA (b := true) rfl (fun _ => ?_) nTf | refine aA (b := false) rfl nFt (fun _ => ?_) | refine cT ?_ | refine cS ?_ | refine cU mixed (by kernel_rfl) ?_ | refine aW mixed (by kernel_rfl) ?_ | (refine aA rfl (fun hq => ?_) (fun hq => ?_) <;> first | subst hq | (first | (simp only [sD, sE, sB, sC, sN, sM, sT, sF] at hq; try (exfalso; omega)) | skip)) | fail) | (refine aK ?_; first | refine aX ?_ | refine bM ?_ | refine aR ?_ | fail) | (refine bA ?_; first | refine bU ?_ | refine bI ?_ | refine cK (by decide) ?_ | refine bF ?_ | fail) | refine bQ (bL (by kernel_rfl)) ?_ | fail)
    all_goals (refine yL 500 (s' := [(2, .ref 500 (D.length + 1))]) (m' := [(500, .arr 9 1 (D.length + 1) (strs D ++ [.lit (.string (s.extract a s.size))]))]) (cA (by repeat' first | exact trivial | refine ⟨rfl, ?_⟩) (by repeat' first | exact trivial | refine ⟨rfl, ?_⟩)) rfl (by repeat' first | exact trivial | exact fun _ => rfl | refine ⟨?_, ?_⟩) (by repeat' first | exact trivial | exact fun _ => rfl | refine ⟨?_, ?_⟩) ?_
               refine aV (by first | exact .inl rfl | exact .inr rfl) (aZ rfl (aC rfl)) rfl ?_
               rw [List.length_append]; rfl)
end Go.Proofs.YtdajnmffoopcaaaGreatDoor.Ab
namespace Go.Proofs.YtdajnmffoopcaaaGreatDoor.Ab
set_option linter.unusedVariables false
set_option linter.unusedSimpArgs false
open Go.RowKit Go.Lib Go.Proofs.YtdajnmffoopcaaaGreatDoorW.PrintWords Go.Proofs.YtdajnmffoopcaaaGreatDoorW.PrintLast Go.Proofs.YtdajnmffoopcaaaGreatDoorW.PrintMore Go.Proofs.YtdajnmffoopcaaaGreatDoor.RP Go.Proofs.YtdajnmffoopcaaaGreatDoor.RW Go.Proofs.YtdajnmffoopcaaaGreatDoor.PAll
attribute [local irreducible] AWP AOps AExit AThen ABlock ANoGoto FeetOk
theorem pW {l : List ByteArray} {j : Nat} (h : j < l.length) (h1 : ∀ p ∈ l.take j, nameB p = true) (h2 : nameB l[j] = true) : ∀ p ∈ l.take (j + 1), nameB p = true := by
  intro p hp
  rw [List.take_succ_eq_append_getElem h, List.mem_append] at hp
  rcases hp with hp | hp
  · exact h1 p hp
  · rw [List.mem_singleton.1 hp]; exact h2
theorem aBp {s : ByteArray} {l : List ByteArray} {j : Nat} (hl : pcsB s = l) (h : j < l.length) (hn : nameB l[j] = false) : longP s = false := by
  rw [Bool.eq_false_iff]
  intro hc
  have := ((qR s).1 hc).2 l[j] (by rw [hl]; exact List.getElem_mem h)
  rw [hn] at this
  cases this
set_option maxHeartbeats 4000000 in
set_option maxRecDepth 10000 in
theorem aCk (s : ByteArray) (hs : s.size ≤ 100000) : ACalls Tryz.prog 96 [.imm (.lit (.string s))] [] (.imm (.lit (.bool (longP s)))) [] := by
  have hl := jG s
  have c1 := uS s hs
  have hps := kO s
  by_cases hz : s.size ≤ 128
  · have hlg := fun (j : Nat) (h : j < (pcsB s).length) (hn : nameB (pcsB s)[j] = false) => aBp (s := s) rfl h hn
    have hgood : (∀ p ∈ pcsB s, nameB p = true) → longP s = true := fun h => (qR s).2 ⟨hz, h⟩
    generalize pcsB s = l at *
    refine aJ Tryz.func96 rfl rfl (nb rfl) rfl ?_
    repeat' (first | refine aG ?_ | (refine aI ?_; first | refine aD tabOk rfl rfl rfl (nb rfl) rfl ?_ | refine bE rfl rfl (nb rfl) ?_ | (refine aM rfl rfl rfl (nb rfl) rfl rfl rfl (fun hq => ?_) (fun hq => ?_) <;> (first | (simp only [sD, sE, sB, sC, sN, sM, sT, sF] at hq; try (exfalso; omega)) | skip))| refine aE rfl rfl (nb rfl) rfl rfl rfl rfl (c1) ?_ | refine bP rfl rfl rfl (nb rfl) rfl rfl (by omega) ?_ | refine bY rfl rfl rfl (nb rfl) rfl rfl rfl (by omega) (by omega) ?_ | refine bV rfl rfl rfl (nb rfl) rfl rfl rfl (by omega) (by omega) ?_ | refine cH tabOk rfl rfl rfl (nb rfl) rfl rfl rfl rfl rfl rfl rfl rfl rfl ?_ | refine bB tabOk rfl rfl (nb rfl) rfl ?_ | refine cJ tabOk rfl rfl rfl (nb rfl) rfl rfl rfl rfl rfl rfl ?_ | refine bO tabOk rfl rfl rfl (nb rfl) rfl rfl rfl rfl ?_ | refine bJ tabOk rfl rfl rfl rfl rfl rfl rfl rfl rfl rfl rfl ?_ | refine bG tabOk rfl rfl rfl (nb rfl) rfl rfl rfl rfl (by first | assumption | omega) ?_ | refine bN tabOk rfl rfl rfl (nb rfl) rfl rfl rfl rfl (by first | rfl | omega) (by first | omega | simp) ?_ | refine bC tabOk rfl rfl rfl (nb rfl) rfl rfl rfl (by assumption) ?_ | refine bC tabOk rfl rfl rfl (nb rfl) rfl rfl rfl (bX _ _ (by first | assumption | omega)) ?_ | refine bP rfl rfl rfl (nb rfl) rfl rfl (by omega) ?_ | ((fail_if_success (refine cB (b := true) rfl rfl rfl ?_)); (fail_if_success (refine cB (b := false) rfl rfl rfl ?_)); refine cR rfl rfl rfl (fun hq => ?_) (fun hq => ?_) <;> first | subst hq | (first | (simp only [sD, sE, sB, sC, sN, sM, sT, sF] at hq; try (exfalso; omega)) | skip)) | fail) | (refine aN ?_; first | refine aH ?_ | refine aQ ?_ | refine bH ?_ | refine aY ?_ | refine aT ?_ | refine bW ?_ | refine aU ?_ | refine aA (b := true) rfl (fun _ => ?_) nTf | refine aA (b := false) rfl nFt (fun _ => ?_) | refine cT ?_ | refine cS ?_ | refine cU mixed (by kernel_rfl) ?_ | refine aW mixed (by kernel_rfl) ?_ | (refine aA rfl (fun hq => ?_) (fun hq => ?_) <;> first | subst hq | (first | (simp only [sD, sE, sB, sC, sN, sM, sT, sF] at hq; try (exfalso; omega)) | skip)) | fail) | (refine aK ?_; first | refine aX ?_ | refine bM ?_ | refine aR ?_ | fail) | (refine bA ?_; first | refine bU ?_ | refine bI ?_ | refine cK (by decide) ?_ | refine bF ?_ | fail) | refine bQ (bL (by kernel_rfl)) ?_ | fail)
    all_goals first | (exfalso; omega) | skip
    refine cI (ι := {j : Nat // j ≤ l.length ∧ ∀ p ∈ l.take j, nameB p = true}) (fun j => S.f ⟨[(4, .imm (.lit (.int .i64 (j.1 : Int)))), (3, .imm (.sl false l.length (strs l)))], []⟩) (fun j => l.length - j.1) ⟨0, Nat.zero_le _, by simp⟩ (cA (by repeat' first | exact trivial | refine ⟨rfl, ?_⟩) (by repeat' first | exact trivial | refine ⟨rfl, ?_⟩)) ?_
    rintro ⟨j, hj, hall⟩
    dsimp only
    by_cases hlt : j < l.length
    · have c2 := aBn l[j] (Nat.le_trans (hps _ (List.getElem_mem hlt)) (by omega))
      cases hn : nameB l[j] with
      | true =>
        rw [hn] at c2
        repeat' (first | refine aG ?_ | (refine aI ?_; first | refine aD tabOk rfl rfl rfl (nb rfl) rfl ?_ | refine bE rfl rfl (nb rfl) ?_ | (refine aM rfl rfl rfl (nb rfl) rfl rfl rfl (fun hq => ?_) (fun hq => ?_) <;> (first | (simp only [sD, sE, sB, sC, sN, sM, sT, sF] at hq; try (exfalso; omega)) | skip))| refine bC tabOk rfl rfl rfl (nb rfl) rfl rfl rfl (hG l j hlt) ?_ | refine aE rfl rfl (nb rfl) rfl rfl rfl rfl (c2) ?_ | refine bP rfl rfl rfl (nb rfl) rfl rfl (by omega) ?_ | refine bY rfl rfl rfl (nb rfl) rfl rfl rfl (by omega) (by omega) ?_ | refine bV rfl rfl rfl (nb rfl) rfl rfl rfl (by omega) (by omega) ?_ | refine cH tabOk rfl rfl rfl (nb rfl) rfl rfl rfl rfl rfl rfl rfl rfl rfl ?_ | refine bB tabOk rfl rfl (nb rfl) rfl ?_ | refine cJ tabOk rfl rfl rfl (nb rfl) rfl rfl rfl rfl rfl rfl ?_ | refine bO tabOk rfl rfl rfl (nb rfl) rfl rfl rfl rfl ?_ | refine bJ tabOk rfl rfl rfl rfl rfl rfl rfl rfl rfl rfl rfl ?_ | refine bG tabOk rfl rfl rfl (nb rfl) rfl rfl rfl rfl (by first | assumption | omega) ?_ | refine bN tabOk rfl rfl rfl (nb rfl) rfl rfl rfl rfl (by first | rfl | omega) (by first | omega | simp) ?_ | refine bC tabOk rfl rfl rfl (nb rfl) rfl rfl rfl (by assumption) ?_ | refine bC tabOk rfl rfl rfl (nb rfl) rfl rfl rfl (bX _ _ (by first | assumption | omega)) ?_ | refine bP rfl rfl rfl (nb rfl) rfl rfl (by omega) ?_ | ((fail_if_success (refine cB (b := true) rfl rfl rfl ?_)); (fail_if_success (refine cB (b := false) rfl rfl rfl ?_)); refine cR rfl rfl rfl (fun hq => ?_) (fun hq => ?_) <;> first | subst hq | (first | (simp only [sD, sE, sB, sC, sN, sM, sT, sF] at hq; try (exfalso; omega)) | skip)) | fail) | (refine aN ?_; first | refine aH ?_ | refine aQ ?_ | refine bH ?_ | refine aY ?_ | refine aT ?_ | refine bW ?_ | refine aU ?_ | refine aA (b := true) rfl (fun _ => ?_) nTf | refine aA (b := false) rfl nFt (fun _ => ?_) | refine cT ?_ | refine cS ?_ | refine cU mixed (by kernel_rfl) ?_ | refine aW mixed (by kernel_rfl) ?_ | (refine aA rfl (fun hq => ?_) (fun hq => ?_) <;> first | subst hq | (first | (simp only [sD, sE, sB, sC, sN, sM, sT, sF] at hq; try (exfalso; omega)) | skip)) | fail) | (refine aK ?_; first | refine aX ?_ | refine bM ?_ | refine aR ?_ | fail) | (refine bA ?_; first | refine bU ?_ | refine bI ?_ | refine cK (by decide) ?_ | refine bF ?_ | fail) | refine bQ (bL (by kernel_rfl)) ?_ | fail)
        exact ⟨⟨j + 1, hlt, pW hlt hall hn⟩, (by show l.length - (j + 1) < l.length - j; omega), (cA (by repeat' first | exact trivial | refine ⟨rfl, ?_⟩) (by repeat' first | exact trivial | refine ⟨rfl, ?_⟩))⟩
      | false =>
        rw [hn] at c2
        rw [hlg j hlt hn]
        repeat' (first | refine aG ?_ | (refine aI ?_; first | refine aD tabOk rfl rfl rfl (nb rfl) rfl ?_ | refine bE rfl rfl (nb rfl) ?_ | (refine aM rfl rfl rfl (nb rfl) rfl rfl rfl (fun hq => ?_) (fun hq => ?_) <;> (first | (simp only [sD, sE, sB, sC, sN, sM, sT, sF] at hq; try (exfalso; omega)) | skip))| refine bC tabOk rfl rfl rfl (nb rfl) rfl rfl rfl (hG l j hlt) ?_ | refine aE rfl rfl (nb rfl) rfl rfl rfl rfl (c2) ?_ | refine bP rfl rfl rfl (nb rfl) rfl rfl (by omega) ?_ | refine bY rfl rfl rfl (nb rfl) rfl rfl rfl (by omega) (by omega) ?_ | refine bV rfl rfl rfl (nb rfl) rfl rfl rfl (by omega) (by omega) ?_ | refine cH tabOk rfl rfl rfl (nb rfl) rfl rfl rfl rfl rfl rfl rfl rfl rfl ?_ | refine bB tabOk rfl rfl (nb rfl) rfl ?_ | refine cJ tabOk rfl rfl rfl (nb rfl) rfl rfl rfl rfl rfl rfl ?_ | refine bO tabOk rfl rfl rfl (nb rfl) rfl rfl rfl rfl ?_ | refine bJ tabOk rfl rfl rfl rfl rfl rfl rfl rfl rfl rfl rfl ?_ | refine bG tabOk rfl rfl rfl (nb rfl) rfl rfl rfl rfl (by first | assumption | omega) ?_ | refine bN tabOk rfl rfl rfl (nb rfl) rfl rfl rfl rfl (by first | rfl | omega) (by first | omega | simp) ?_ | refine bC tabOk rfl rfl rfl (nb rfl) rfl rfl rfl (by assumption) ?_ | refine bC tabOk rfl rfl rfl (nb rfl) rfl rfl rfl (bX _ _ (by first | assumption | omega)) ?_ | refine bP rfl rfl rfl (nb rfl) rfl rfl (by omega) ?_ | ((fail_if_success (refine cB (b := true) rfl rfl rfl ?_)); (fail_if_success (refine cB (b := false) rfl rfl rfl ?_)); refine cR rfl rfl rfl (fun hq => ?_) (fun hq => ?_) <;> first | subst hq | (first | (simp only [sD, sE, sB, sC, sN, sM, sT, sF] at hq; try (exfalso; omega)) | skip)) | fail) | (refine aN ?_; first | refine aH ?_ | refine aQ ?_ | refine bH ?_ | refine aY ?_ | refine aT ?_ | refine bW ?_ | refine aU ?_ | refine aA (b := true) rfl (fun _ => ?_) nTf | refine aA (b := false) rfl nFt (fun _ => ?_) | refine cT ?_ | refine cS ?_ | refine cU mixed (by kernel_rfl) ?_ | refine aW mixed (by kernel_rfl) ?_ | (refine aA rfl (fun hq => ?_) (fun hq => ?_) <;> first | subst hq | (first | (simp only [sD, sE, sB, sC, sN, sM, sT, sF] at hq; try (exfalso; omega)) | skip)) | fail) | (refine aK ?_; first | refine aX ?_ | refine bM ?_ | refine aR ?_ | fail) | (refine bA ?_; first | refine bU ?_ | refine bI ?_ | refine cK (by decide) ?_ | refine bF ?_ | fail) | refine bQ (bL (by kernel_rfl)) ?_ | fail)
        exact cL (by first | exact .inl rfl | exact .inr rfl) (aZ rfl (aC rfl)) rfl
    · rw [hgood (by rw [List.take_of_length_le (by omega)] at hall; exact hall)]
      repeat' (first | refine aG ?_ | (refine aI ?_; first | refine aD tabOk rfl rfl rfl (nb rfl) rfl ?_ | refine bE rfl rfl (nb rfl) ?_ | (refine aM rfl rfl rfl (nb rfl) rfl rfl rfl (fun hq => ?_) (fun hq => ?_) <;> (first | (simp only [sD, sE, sB, sC, sN, sM, sT, sF] at hq; try (exfalso; omega)) | skip)) | refine bP rfl rfl rfl (nb rfl) rfl rfl (by omega) ?_ | refine bY rfl rfl rfl (nb rfl) rfl rfl rfl (by omega) (by omega) ?_ | refine bV rfl rfl rfl (nb rfl) rfl rfl rfl (by omega) (by omega) ?_ | refine cH tabOk rfl rfl rfl (nb rfl) rfl rfl rfl rfl rfl rfl rfl rfl rfl ?_ | refine bB tabOk rfl rfl (nb rfl) rfl ?_ | refine cJ tabOk rfl rfl rfl (nb rfl) rfl rfl rfl rfl rfl rfl ?_ | refine bO tabOk rfl rfl rfl (nb rfl) rfl rfl rfl rfl ?_ | refine bJ tabOk rfl rfl rfl rfl rfl rfl rfl rfl rfl rfl rfl ?_ | refine bG tabOk rfl rfl rfl (nb rfl) rfl rfl rfl rfl (by first | assumption | omega) ?_ | refine bN tabOk rfl rfl rfl (nb rfl) rfl rfl rfl rfl (by first | rfl | omega) (by first | omega | simp) ?_ | refine bC tabOk rfl rfl rfl (nb rfl) rfl rfl rfl (by assumption) ?_ | refine bC tabOk rfl rfl rfl (nb rfl) rfl rfl rfl (bX _ _ (by first | assumption | omega)) ?_ | refine bP rfl rfl rfl (nb rfl) rfl rfl (by omega) ?_ | ((fail_if_success (refine cB (b := true) rfl rfl rfl ?_)); (fail_if_success (refine cB (b := false) rfl rfl rfl ?_)); refine cR rfl rfl rfl (fun hq => ?_) (fun hq => ?_) <;> first | subst hq | (first | (simp only [sD, sE, sB, sC, sN, sM, sT, sF] at hq; try (exfalso; omega)) | skip)) | fail) | (refine aN ?_; first | refine aH ?_ | refine aQ ?_ | refine bH ?_ | refine aY ?_ | refine aT ?_ | refine bW ?_ | refine aU ?_ | refine aA (b := true) rfl (fun _ => ?_) nTf | refine aA (b := false) rfl nFt (fun _ => ?_) | refine cT ?_ | refine cS ?_ | refine cU mixed (by kernel_rfl) ?_ | refine aW mixed (by kernel_rfl) ?_ | (refine aA rfl (fun hq => ?_) (fun hq => ?_) <;> first | subst hq | (first | (simp only [sD, sE, sB, sC, sN, sM, sT, sF] at hq; try (exfalso; omega)) | skip)) | fail) | (refine aK ?_; first | refine aX ?_ | refine bM ?_ | refine aR ?_ | fail) | (refine bA ?_; first | refine bU ?_ | refine bI ?_ | refine cK (by decide) ?_ | refine bF ?_ | fail) | refine bQ (bL (by kernel_rfl)) ?_ | fail)
      exact cL (by first | exact .inl rfl | exact .inr rfl) (aZ rfl (aC rfl)) rfl
  · have e : longP s = false := by
      unfold longP; rw [decide_eq_false hz]; rfl
    rw [e]
    refine aJ Tryz.func96 rfl rfl (nb rfl) rfl ?_
    repeat' (first | refine aG ?_ | (refine aI ?_; first | refine aD tabOk rfl rfl rfl (nb rfl) rfl ?_ | refine bE rfl rfl (nb rfl) ?_ | (refine aM rfl rfl rfl (nb rfl) rfl rfl rfl (fun hq => ?_) (fun hq => ?_) <;> (first | (simp only [sD, sE, sB, sC, sN, sM, sT, sF] at hq; try (exfalso; omega)) | skip))| refine aE rfl rfl (nb rfl) rfl rfl rfl rfl (c1) ?_ | refine bP rfl rfl rfl (nb rfl) rfl rfl (by omega) ?_ | refine bY rfl rfl rfl (nb rfl) rfl rfl rfl (by omega) (by omega) ?_ | refine bV rfl rfl rfl (nb rfl) rfl rfl rfl (by omega) (by omega) ?_ | refine cH tabOk rfl rfl rfl (nb rfl) rfl rfl rfl rfl rfl rfl rfl rfl rfl ?_ | refine bB tabOk rfl rfl (nb rfl) rfl ?_ | refine cJ tabOk rfl rfl rfl (nb rfl) rfl rfl rfl rfl rfl rfl ?_ | refine bO tabOk rfl rfl rfl (nb rfl) rfl rfl rfl rfl ?_ | refine bJ tabOk rfl rfl rfl rfl rfl rfl rfl rfl rfl rfl rfl ?_ | refine bG tabOk rfl rfl rfl (nb rfl) rfl rfl rfl rfl (by first | assumption | omega) ?_ | refine bN tabOk rfl rfl rfl (nb rfl) rfl rfl rfl rfl (by first | rfl | omega) (by first | omega | simp) ?_ | refine bC tabOk rfl rfl rfl (nb rfl) rfl rfl rfl (by assumption) ?_ | refine bC tabOk rfl rfl rfl (nb rfl) rfl rfl rfl (bX _ _ (by first | assumption | omega)) ?_ | refine bP rfl rfl rfl (nb rfl) rfl rfl (by omega) ?_ | ((fail_if_success (refine cB (b := true) rfl rfl rfl ?_)); (fail_if_success (refine cB (b := false) rfl rfl rfl ?_)); refine cR rfl rfl rfl (fun hq => ?_) (fun hq => ?_) <;> first | subst hq | (first | (simp only [sD, sE, sB, sC, sN, sM, sT, sF] at hq; try (exfalso; omega)) | skip)) | fail) | (refine aN ?_; first | refine aH ?_ | refine aQ ?_ | refine bH ?_ | refine aY ?_ | refine aT ?_ | refine bW ?_ | refine aU ?_ | refine aA (b := true) rfl (fun _ => ?_) nTf | refine aA (b := false) rfl nFt (fun _ => ?_) | refine cT ?_ | refine cS ?_ | refine cU mixed (by kernel_rfl) ?_ | refine aW mixed (by kernel_rfl) ?_ | (refine aA rfl (fun hq => ?_) (fun hq => ?_) <;> first | subst hq | (first | (simp only [sD, sE, sB, sC, sN, sM, sT, sF] at hq; try (exfalso; omega)) | skip)) | fail) | (refine aK ?_; first | refine aX ?_ | refine bM ?_ | refine aR ?_ | fail) | (refine bA ?_; first | refine bU ?_ | refine bI ?_ | refine cK (by decide) ?_ | refine bF ?_ | fail) | refine bQ (bL (by kernel_rfl)) ?_ | fail)
    all_goals first
      | exact cL (by first | exact .inl rfl | exact .inr rfl) (aZ rfl (aC rfl)) rfl
      | (exfalso; omega)
set_option maxHeartbeats 4000000 in
set_option maxRecDepth 10000 in
theorem aBq (s : ByteArray) (hs : s.size ≤ 100000) : ACalls Tryz.prog 88 [.imm (.lit (.string s))] [] (.imm (.sl false (splitP s).length (strs (splitP s)))) [] := by
  have c1 := aCk s hs
  have c2 := uS s hs
  unfold splitP
  cases h : longP s with
  | true =>
    rw [h] at c1
    rw [if_pos rfl]
    refine aJ Tryz.func88 rfl rfl (nb rfl) rfl ?_
    repeat' (first | refine aG ?_ | (refine aI ?_; first | refine aD tabOk rfl rfl rfl (nb rfl) rfl ?_ | refine bE rfl rfl (nb rfl) ?_ | (refine aM rfl rfl rfl (nb rfl) rfl rfl rfl (fun hq => ?_) (fun hq => ?_) <;> (first | (simp only [sD, sE, sB, sC, sN, sM, sT, sF] at hq; try (exfalso; omega)) | skip))| refine aE rfl rfl (nb rfl) rfl rfl rfl rfl (c1) ?_ | refine aE rfl rfl (nb rfl) rfl rfl rfl rfl (c2) ?_ | refine bP rfl rfl rfl (nb rfl) rfl rfl (by omega) ?_ | refine bY rfl rfl rfl (nb rfl) rfl rfl rfl (by omega) (by omega) ?_ | refine bV rfl rfl rfl (nb rfl) rfl rfl rfl (by omega) (by omega) ?_ | refine cH tabOk rfl rfl rfl (nb rfl) rfl rfl rfl rfl rfl rfl rfl rfl rfl ?_ | refine bB tabOk rfl rfl (nb rfl) rfl ?_ | refine cJ tabOk rfl rfl rfl (nb rfl) rfl rfl rfl rfl rfl rfl ?_ | refine bO tabOk rfl rfl rfl (nb rfl) rfl rfl rfl rfl ?_ | refine bJ tabOk rfl rfl rfl rfl rfl rfl rfl rfl rfl rfl rfl ?_ | refine bG tabOk rfl rfl rfl (nb rfl) rfl rfl rfl rfl (by first | assumption | omega) ?_ | refine bN tabOk rfl rfl rfl (nb rfl) rfl rfl rfl rfl (by first | rfl | omega) (by first | omega | simp) ?_ | refine bC tabOk rfl rfl rfl (nb rfl) rfl rfl rfl (by assumption) ?_ | refine bC tabOk rfl rfl rfl (nb rfl) rfl rfl rfl (bX _ _ (by first | assumption | omega)) ?_ | refine bP rfl rfl rfl (nb rfl) rfl rfl (by omega) ?_ | ((fail_if_success (refine cB (b := true) rfl rfl rfl ?_)); (fail_if_success (refine cB (b := false) rfl rfl rfl ?_)); refine cR rfl rfl rfl (fun hq => ?_) (fun hq => ?_) <;> first | subst hq | (first | (simp only [sD, sE, sB, sC, sN, sM, sT, sF] at hq; try (exfalso; omega)) | skip)) | fail) | (refine aN ?_; first | refine aH ?_ | refine aQ ?_ | refine bH ?_ | refine aY ?_ | refine aT ?_ | refine bW ?_ | refine aU ?_ | refine aA (b := true) rfl (fun _ => ?_) nTf | refine aA (b := false) rfl nFt (fun _ => ?_) | refine cT ?_ | refine cS ?_ | refine cU mixed (by kernel_rfl) ?_ | refine aW mixed (by kernel_rfl) ?_ | (refine aA rfl (fun hq => ?_) (fun hq => ?_) <;> first | subst hq | (first | (simp only [sD, sE, sB, sC, sN, sM, sT, sF] at hq; try (exfalso; omega)) | skip)) | fail) | (refine aK ?_; first | refine aX ?_ | refine bM ?_ | refine aR ?_ | fail) | (refine bA ?_; first | refine bU ?_ | refine bI ?_ | refine cK (by decide) ?_ | refine bF ?_ | fail) | refine bQ (bL (by kernel_rfl)) ?_ | fail)
    all_goals (refine aV (by first | exact .inl rfl | exact .inr rfl) (aZ rfl (aC rfl)) rfl ?_; rfl)
  | false =>
    rw [h] at c1
    rw [if_neg (by simp)]
    refine aJ Tryz.func88 rfl rfl (nb rfl) rfl ?_
    repeat' (first | refine aG ?_ | (refine aI ?_; first | refine aD tabOk rfl rfl rfl (nb rfl) rfl ?_ | refine bE rfl rfl (nb rfl) ?_ | (refine aM rfl rfl rfl (nb rfl) rfl rfl rfl (fun hq => ?_) (fun hq => ?_) <;> (first | (simp only [sD, sE, sB, sC, sN, sM, sT, sF] at hq; try (exfalso; omega)) | skip))| refine aE rfl rfl (nb rfl) rfl rfl rfl rfl (c1) ?_ | refine aE rfl rfl (nb rfl) rfl rfl rfl rfl (c2) ?_ | refine bP rfl rfl rfl (nb rfl) rfl rfl (by omega) ?_ | refine bY rfl rfl rfl (nb rfl) rfl rfl rfl (by omega) (by omega) ?_ | refine bV rfl rfl rfl (nb rfl) rfl rfl rfl (by omega) (by omega) ?_ | refine cH tabOk rfl rfl rfl (nb rfl) rfl rfl rfl rfl rfl rfl rfl rfl rfl ?_ | refine bB tabOk rfl rfl (nb rfl) rfl ?_ | refine cJ tabOk rfl rfl rfl (nb rfl) rfl rfl rfl rfl rfl rfl ?_ | refine bO tabOk rfl rfl rfl (nb rfl) rfl rfl rfl rfl ?_ | refine bJ tabOk rfl rfl rfl rfl rfl rfl rfl rfl rfl rfl rfl ?_ | refine bG tabOk rfl rfl rfl (nb rfl) rfl rfl rfl rfl (by first | assumption | omega) ?_ | refine bN tabOk rfl rfl rfl (nb rfl) rfl rfl rfl rfl (by first | rfl | omega) (by first | omega | simp) ?_ | refine bC tabOk rfl rfl rfl (nb rfl) rfl rfl rfl (by assumption) ?_ | refine bC tabOk rfl rfl rfl (nb rfl) rfl rfl rfl (bX _ _ (by first | assumption | omega)) ?_ | refine bP rfl rfl rfl (nb rfl) rfl rfl (by omega) ?_ | ((fail_if_success (refine cB (b := true) rfl rfl rfl ?_)); (fail_if_success (refine cB (b := false) rfl rfl rfl ?_)); refine cR rfl rfl rfl (fun hq => ?_) (fun hq => ?_) <;> first | subst hq | (first | (simp only [sD, sE, sB, sC, sN, sM, sT, sF] at hq; try (exfalso; omega)) | skip)) | fail) | (refine aN ?_; first | refine aH ?_ | refine aQ ?_ | refine bH ?_ | refine aY ?_ | refine aT ?_ | refine bW ?_ | refine aU ?_ | refine aA (b := true) rfl (fun _ => ?_) nTf | refine aA (b := false) rfl nFt (fun _ => ?_) | refine cT ?_ | refine cS ?_ | refine cU mixed (by kernel_rfl) ?_ | refine aW mixed (by kernel_rfl) ?_ | (refine aA rfl (fun hq => ?_) (fun hq => ?_) <;> first | subst hq | (first | (simp only [sD, sE, sB, sC, sN, sM, sT, sF] at hq; try (exfalso; omega)) | skip)) | fail) | (refine aK ?_; first | refine aX ?_ | refine bM ?_ | refine aR ?_ | fail) | (refine bA ?_; first | refine bU ?_ | refine bI ?_ | refine cK (by decide) ?_ | refine bF ?_ | fail) | refine bQ (bL (by kernel_rfl)) ?_ | fail)
    all_goals (refine aV (by first | exact .inl rfl | exact .inr rfl) (aZ rfl (tF (aC rfl))) rfl ?_; rfl)
end Go.Proofs.YtdajnmffoopcaaaGreatDoor.Ab
