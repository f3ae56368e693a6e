/- Words, walks and laws under the claim's statement: what it uses of them. No condition of its own. -/
import Derived.Test.YtdeingogdblddaaDoorBP0
import Derived.Lib.ValidLaws
import Derived.Lib.MapLaws
import Derived.Lib.DecodeN
import Derived.Test.YtdeingogdblddaaDoorBS0
import Derived.WalkKit
import Derived.WalkMore
import Derived.WalkSpells
import Derived.Below
import Derived.Outline
import Derived.Deep.LoopGhost
import Derived.Deep.DeepCutAuto
import Derived.Laws.RangeAny
import Derived.Lib.OthersKept
import Derived.Lib.Hide
import Derived.Deep.QuietTactic
import Derived.BigQuiet
import Derived.Lib.SlicesS
import Derived.WalkLawsBesides
import Derived.OneCell
namespace Go.Proofs.YtdeingogdblddaaDoor.RP
set_option linter.unusedVariables false
set_option linter.unusedSimpArgs false
open Go.RowKit Go.Lib Go.Proofs.YtdeingogdblddaaDoorW.PrintWords Go.Proofs.YtdeingogdblddaaDoorW.PrintLast Go.Proofs.YtdeingogdblddaaDoorW.PrintMore Go.Proofs.YtdeingogdblddaaDoor.PAll
theorem w64 {x : Int} (h0 : -9223372036854775808 ≤ x) (h1 : x ≤ 9223372036854775807) : wrap64 x = x := by unfold wrap64; omega
theorem w32 {x : Int} (h0 : -2147483648 ≤ x) (h1 : x ≤ 2147483647) : wrap32 x = x := by unfold wrap32; omega
theorem w64n (a b : Nat) (h : a + b ≤ 9000000) : wrap64 ((a : Int) + (b : Int)) = ((a + b : Nat) : Int) := by rw [w64] <;> omega
theorem w64s (a : Nat) (h : a ≤ 9000000) : wrap64 ((a : Int) + 1) = ((a + 1 : Nat) : Int) := by rw [w64] <;> omega
theorem bt_get (s : ByteArray) (i : Nat) (h : i < s.size) : bt s (i : Int) = ((s.get! i).toNat : Int) := by
  have e : s.get! i = s[i]'h := by simp [ByteArray.get!, getElem!_pos, h]; rfl
  rw [e]
  simp [bt, h]
def nn (d : Nat × Nat) : Int × Int := if d.1 = 65533 ∧ d.2 = 1 then (0, 0) else (d.1, d.2)
theorem l0_stop (s : ByteArray) (i n x m : Int) (k : Nat) :
    marquetryref01_next.l0 (k + 1) s i n x m n = some (if x < m ∨ x > 1114111 ∨ (55296 ≤ x ∧ x ≤ 57343) then (0, 0) else (wrap32 x, n)) := by
  simp only [marquetryref01_next.l0]
  rw [if_neg (Int.lt_irrefl n)]
  by_cases h1 : x < m
  · rw [if_pos h1, if_pos (Or.inl h1)]
  · rw [if_neg h1]
    by_cases h2 : x > 1114111
    · rw [if_pos h2, if_pos (Or.inr (Or.inl h2))]
    · rw [if_neg h2]
      by_cases h3 : x ≥ 55296
      · rw [if_pos h3]
        by_cases h4 : x ≤ 57343
        · rw [if_pos h4, if_pos (Or.inr (Or.inr ⟨h3, h4⟩))]
        · rw [if_neg h4, if_neg (by omega)]
      · rw [if_neg h3, if_neg (by omega)]
theorem l0_go (s : ByteArray) (i j : Nat) (n x m : Int) (c : Nat) (k : Nat) (hj : (j : Int) < n) (hi : i + j < s.size) (hs : s.size ≤ 140737488351232) (hc : (s.get! (i + j)).toNat = c)
    (hx0 : 0 ≤ x) (hx1 : x ≤ 1000000) :
    marquetryref01_next.l0 (k + 1) s (i : Int) n x m (j : Int) = if c < 128 ∨ 191 < c then some (0, 0) else marquetryref01_next.l0 k s (i : Int) n (64 * x + c - 128) m ((j + 1 : Nat) : Int) := by
  have hlt : c < 256 := by rw [← hc]; exact UInt8.toNat_lt _
  have e1 : wrap64 ((i : Int) + (j : Int)) = ((i + j : Nat) : Int) := by rw [w64] <;> omega
  have e2 : wrap64 (bt s ((i + j : Nat) : Int)) = (c : Int) := by rw [bt_get s _ hi, hc, w64] <;> omega
  have e3 : wrap64 (64 * x) = 64 * x := by rw [w64] <;> omega
  have e4 : wrap64 (64 * x + (c : Int)) = 64 * x + (c : Int) := by clear e1 e2 e3; rw [w64] <;> omega
  have e5 : wrap64 (64 * x + (c : Int) - 128) = 64 * x + (c : Int) - 128 := by clear e1 e2 e3 e4; rw [w64] <;> omega
  have e6 : wrap64 ((j : Int) + 1) = ((j + 1 : Nat) : Int) := by clear e1 e2 e3 e4 e5; rw [w64] <;> omega
  simp only [marquetryref01_next.l0]
  rw [e1, e2, e3, e4, e5, e6]
  clear e1 e2 e3 e4 e5 e6 hc
  rw [if_pos hj, if_pos (by omega), if_pos (by omega)]
  by_cases h1 : c < 128
  · rw [if_pos (by omega), if_pos (Or.inl h1)]
  · rw [if_neg (by omega)]
    by_cases h2 : 191 < c
    · rw [if_pos (by omega), if_pos (Or.inr h2)]
    · rw [if_neg (by omega), if_neg (by omega)]
theorem j2_short (s : ByteArray) (i : Nat) (n x m : Int) (k : Nat) (hn : n ≠ 0) (hs : s.size ≤ 140737488351232) (hi : i < s.size) (h : (s.size : Int) - (i : Int) < n) :
    marquetryref01_next.j2 (k + 2) s (i : Int) n x m = some (0, 0) := by
  have e : wrap64 ((s.size : Int) - (i : Int)) = (s.size : Int) - (i : Int) := by rw [w64] <;> omega
  simp only [marquetryref01_next.j2, marquetryref01_next.j3]
  rw [if_neg hn, e, decide_eq_true h]
  simp
theorem j2_long (s : ByteArray) (i : Nat) (n x m : Int) (k : Nat) (hn : n ≠ 0) (hs : s.size ≤ 140737488351232) (hi : i < s.size) (h : ¬ (s.size : Int) - (i : Int) < n) :
    marquetryref01_next.j2 (k + 2) s (i : Int) n x m = marquetryref01_next.l0 k s (i : Int) n x m 1 := by
  have e : wrap64 ((s.size : Int) - (i : Int)) = (s.size : Int) - (i : Int) := by rw [w64] <;> omega
  simp only [marquetryref01_next.j2, marquetryref01_next.j3]
  rw [if_neg hn, e, decide_eq_false h]
  simp
theorem two (s : ByteArray) (i : Nat) (b0 b1 b2 b3 : Nat) (k : Nat) (hi : i < s.size) (hs : s.size ≤ 140737488351232) (h1 : (s.get! (i + 1)).toNat = b1) (ha : 194 ≤ b0) (hb : b0 < 224) :
    marquetryref01_next.j2 (k + 4) s (i : Int) 2 ((b0 : Int) - 192) 128 = some (nn (decodeN (s.size - i) b0 b1 b2 b3)) := by
  have hd : decodeN (s.size - i) b0 b1 b2 b3 = if 1 < s.size - i ∧ b1 / 64 = 2 then (b0 % 32 * 64 + b1 % 64, 2) else (65533, 1) := by
    unfold decodeN
    rw [if_neg (by omega)]
    by_cases hc : 1 < s.size - i ∧ b1 / 64 = 2
    · rw [if_pos ⟨by omega, hc⟩, if_pos (by omega), if_pos hc]
    · rw [if_neg (fun h => hc h.2), if_neg (by omega), if_neg (by omega), if_neg hc]
  rw [hd]
  have l1 : b1 < 256 := by rw [← h1]; exact UInt8.toNat_lt _
  by_cases hl : (s.size : Int) - (i : Int) < 2
  · rw [j2_short s i 2 _ _ (k + 2) (by omega) hs hi hl, if_neg (by omega)]
    rfl
  · rw [j2_long s i 2 _ _ (k + 2) (by omega) hs hi hl]
    have g := l0_go s i 1 2 ((b0 : Int) - 192) 128 b1 (k + 1) (by omega) (by omega) hs h1 (by omega) (by omega)
    have g' : marquetryref01_next.l0 (k + 2) s (i : Int) 2 ((b0 : Int) - 192) 128 1 = _ := g
    rw [g']
    by_cases hc : b1 < 128 ∨ 191 < b1
    · rw [if_pos hc, if_neg (by omega)]
      rfl
    · rw [if_neg hc, if_pos (by omega)]
      have g2 := l0_stop s (i : Int) 2 (64 * ((b0 : Int) - 192) + b1 - 128) 128 k
      have g2' : marquetryref01_next.l0 (k + 1) s (i : Int) 2 (64 * ((b0 : Int) - 192) + b1 - 128) 128 ((1 + 1 : Nat) : Int) = _ := g2
      rw [g2', if_neg (by omega), w32 (by omega) (by omega)]
      unfold nn
      rw [if_neg (by simp only; omega)]
      simp only [Option.some.injEq, Prod.mk.injEq]
      omega
theorem none_ (n b0 b1 b2 b3 : Nat) (h : 128 ≤ b0 ∧ b0 < 194 ∨ 245 ≤ b0) : decodeN n b0 b1 b2 b3 = (65533, 1) := by
  unfold decodeN
  repeat' split
  all_goals first | rfl | (exfalso; omega)
/-- Is the text valid from a place on? -/
def vf (s : ByteArray) (pos : Nat) : Bool := validD (s.data.toList.drop pos)
/-- The runes from a place on, at most so many. -/
def rl (s : ByteArray) : Nat → Nat → List Int
  | 0, _ => []
  | f + 1, pos => if pos < s.size then ((Utf8.decode s pos).1 : Int) :: rl s f (pos + (Utf8.decode s pos).2) else []
theorem drop_ne (s : ByteArray) (pos : Nat) (h : pos < s.size) : s.data.toList.drop pos ≠ [] := by
  intro e
  have := congrArg List.length e
  rw [List.length_drop] at this
  have h2 : s.data.toList.length = s.size := Array.length_toList
  simp only [List.length_nil] at this
  omega
theorem w_le (s : ByteArray) (pos : Nat) (h : pos < s.size) : pos + (Utf8.decode s pos).2 ≤ s.size := by
  have := decodeL_le (s.data.toList.drop pos) (drop_ne s pos h)
  rw [decodeL_drop, List.length_drop] at this
  have h2 : s.data.toList.length = s.size := Array.length_toList
  omega
/-- runes.Place's loop. -/
def pl (s : ByteArray) (at_ : Int) : Nat → Nat → Int → Int → Int × Int
  | 0, _, l, c => (l, c)
  | f + 1, pos, l, c => if pos < s.size then (if at_ < wrap64 (pos + runeLen (Utf8.decode s pos).1) then (l, c) else if ((Utf8.decode s pos).1 : Int) = 10 then pl s at_ f (pos + (Utf8.decode s pos).2) (wrap64 (l + 1)) 1 else pl s at_ f (pos + (Utf8.decode s pos).2) l (wrap64 (c + 1))) else (l, c)
def high (r : Int) : Int := if 128 ≤ r ∧ r ≤ 1114111 ∧ r ≠ 65533 ∧ (r < 55296 ∨ 57343 < r) then 1 else 0
def blank (r : Int) : Int := if r = 32 ∨ r = 9 ∨ r = 10 then 3 else high r
def digit (r : Int) : Int := if 48 ≤ r ∧ r ≤ 57 then 2 else blank r
/-- A rune's class. -/
def classP (r : Int) : Int := if (65 ≤ r ∧ r ≤ 90) ∨ (97 ≤ r ∧ r ≤ 122) ∨ r = 95 then 1 else digit r
theorem vr_eq (k : Nat) (r : Int) : utf8_ValidRune.f (k + 1) r = some (decide ((0 ≤ r ∧ r < 55296) ∨ (57343 < r ∧ r ≤ 1114111))) := by
  unfold utf8_ValidRune.f
  by_cases h : 0 ≤ r
  · rw [if_pos h]
    by_cases h2 : r < 55296
    · rw [decide_eq_true h2, decide_eq_true (Or.inl ⟨h, h2⟩)]
      simp only [utf8_ValidRune.j0, if_true]
    · rw [decide_eq_false h2]
      simp only [utf8_ValidRune.j0, Bool.false_eq_true, if_false]
      by_cases h3 : 57343 < r
      · rw [if_pos h3]
        by_cases h4 : r ≤ 1114111
        · rw [if_pos h4, decide_eq_true (Or.inr ⟨h3, h4⟩)]
        · rw [if_neg h4, decide_eq_false (by omega)]
      · rw [if_neg h3, decide_eq_false (by omega)]
  · rw [if_neg h, decide_eq_false (by omega)]
    simp only [utf8_ValidRune.j0, Bool.false_eq_true, if_false]
    rw [if_neg (by omega)]
theorem c_j3 (k : Nat) (r : Int) (b : Bool) : runes_Class.j3 (k + 2) r b = some (if b = true then 3 else high r) := by
  cases b with
  | true => simp only [runes_Class.j3, if_true]
  | false =>
    simp only [runes_Class.j3, Bool.false_eq_true, if_false]
    unfold high
    by_cases h : 128 ≤ r
    · rw [if_pos h]
      by_cases h2 : r = 65533
      · rw [if_pos h2, if_neg (by omega)]
      · rw [if_neg h2, vr_eq]
        simp only [Option.bind_some]
        by_cases h3 : (0 ≤ r ∧ r < 55296) ∨ (57343 < r ∧ r ≤ 1114111)
        · rw [decide_eq_true h3, if_pos rfl, if_pos (by omega)]
        · rw [decide_eq_false h3, if_neg (by decide), if_neg (by omega)]
    · rw [if_neg h, if_neg (by omega)]
theorem c_j2 (k : Nat) (r : Int) (b : Bool) : runes_Class.j2 (k + 3) r b = some (if b = true then 2 else blank r) := by
  cases b with
  | true => simp only [runes_Class.j2, if_true]
  | false =>
    simp only [runes_Class.j2, Bool.false_eq_true, if_false, c_j3]
    unfold blank
    by_cases h : r = 32
    · rw [if_pos h, if_pos (by simpa using h), if_pos (by omega)]
    · rw [if_neg h]
      by_cases h2 : r = 9
      · rw [if_pos h2, if_pos (by simpa using h2), if_pos (by omega)]
      · rw [if_neg h2]
        by_cases h3 : r = 10
        · rw [if_pos (by simpa using h3), if_pos (by omega)]
        · rw [if_neg (by simpa using h3), if_neg (by omega)]
theorem c_j1 (k : Nat) (r : Int) (b : Bool) : runes_Class.j1 (k + 4) r b = some (if b = true then 1 else digit r) := by
  cases b with
  | true => simp only [runes_Class.j1, if_true]
  | false =>
    simp only [runes_Class.j1, Bool.false_eq_true, if_false, c_j2]
    unfold digit
    by_cases h : 48 ≤ r
    · rw [if_pos h]
      by_cases h2 : r ≤ 57
      · rw [if_pos (by simpa using h2), if_pos ⟨h, h2⟩]
      · rw [if_neg (by simpa using h2), if_neg (by omega)]
    · rw [if_neg h, if_neg (by omega)]
theorem c_j0 (k : Nat) (r : Int) (b : Bool) : runes_Class.j0 (k + 5) r b = some (if b = true then 1 else if (97 ≤ r ∧ r ≤ 122) ∨ r = 95 then 1 else digit r) := by
  cases b with
  | true => simp only [runes_Class.j0, if_true, c_j1]
  | false =>
    simp only [runes_Class.j0, Bool.false_eq_true, if_false, c_j1]
    by_cases h : 97 ≤ r
    · rw [if_pos h]
      by_cases h2 : r ≤ 122
      · rw [if_pos h2, if_pos (by simpa using h2), if_pos (by omega)]
      · rw [if_neg h2, if_neg (by simp; omega), if_neg (by omega)]
    · rw [if_neg h]
      by_cases h3 : r = 95
      · rw [if_pos (by simpa using h3), if_pos (by omega)]
      · rw [if_neg (by simpa using h3), if_neg (by omega)]
theorem class_eq (k : Nat) (r : Int) : runes_Class.f (k + 5) r = some (classP r) := by
  unfold runes_Class.f classP
  rw [c_j0, c_j0]
  by_cases h : 65 ≤ r
  · rw [if_pos h]
    by_cases h2 : r ≤ 90
    · rw [if_pos (by simpa using h2), if_pos (by omega)]
    · rw [if_neg (by simpa using h2)]
      by_cases h3 : (97 ≤ r ∧ r ≤ 122) ∨ r = 95
      · rw [if_pos h3, if_pos (by omega)]
      · rw [if_neg h3, if_neg (by omega)]
  · rw [if_neg h, if_neg (by decide)]
    by_cases h3 : (97 ≤ r ∧ r ≤ 122) ∨ r = 95
    · rw [if_pos h3, if_pos (by omega)]
    · rw [if_neg h3, if_neg (by omega)]
/-- May a rune not stand in a text? -/
def badR (r : Int) : Prop := r = 65533 ∨ (r < 32 ∧ ¬ classP r = 3) ∨ r = 127
instance (r : Int) : Decidable (badR r) := by unfold badR; infer_instance
/-- runes.Check's loop. -/
def ck (s : ByteArray) : Nat → Nat → Int × Int
  | 0, _ => (0, 0)
  | f + 1, pos => if pos < s.size then (if badR (Utf8.decode s pos).1 then ((pos : Int), 4) else ck s f (pos + (Utf8.decode s pos).2)) else (0, 0)
def checkP (s : ByteArray) : Int × Int := if 16384 < (s.size : Int) then (0, 3) else ck s s.size 0
theorem ck_bad {s : ByteArray} {f pos : Nat} (hp : pos < s.size) (h : badR (Utf8.decode s pos).1) : ck s (f + 1) pos = ((pos : Int), 4) := by simp [ck, hp, h]
theorem ck_on {s : ByteArray} {f pos : Nat} (hp : pos < s.size) (h : ¬ badR (Utf8.decode s pos).1) : ck s (f + 1) pos = ck s f (pos + (Utf8.decode s pos).2) := by simp [ck, hp, h]
theorem ck_end {s : ByteArray} {f pos : Nat} (hp : ¬ pos < s.size) : ck s f pos = (0, 0) := by cases f <;> simp [ck, hp]
/-- Is a rune right within a name (first: at its begin)? -/
def okR (first : Bool) (r : Int) : Bool := decide (classP r = 1) || (!first && (decide (classP r = 2) || decide (r = 39)))
/-- runes.Name's loop. -/
def nm (s : ByteArray) : Nat → Nat → Bool
  | 0, _ => true
  | f + 1, pos => if pos < s.size then (if okR (decide (pos = 0)) (Utf8.decode s pos).1 = true then nm s f (pos + (Utf8.decode s pos).2) else false) else true
def nameP (s : ByteArray) : Bool := decide (1 ≤ s.size ∧ s.size ≤ 32) && validD s.data.toList && nm s s.size 0
theorem nm_on {s : ByteArray} {f pos : Nat} (hp : pos < s.size) (h : okR (decide (pos = 0)) (Utf8.decode s pos).1 = true) : nm s (f + 1) pos = nm s f (pos + (Utf8.decode s pos).2) := by simp [nm, hp, h]
theorem nm_bad {s : ByteArray} {f pos : Nat} (hp : pos < s.size) (h : okR (decide (pos = 0)) (Utf8.decode s pos).1 = false) : nm s (f + 1) pos = false := by simp [nm, hp, h]
theorem nm_end {s : ByteArray} {f pos : Nat} (hp : ¬ pos < s.size) : nm s f pos = true := by cases f <;> simp [nm, hp]
/-- The place behind at most n runes. -/
def cp (s : ByteArray) : Nat → Nat → Int → Int → Nat
  | 0, pos, _, _ => pos
  | f + 1, pos, k, n => if pos < s.size then (if k ≥ n then pos else cp s f (pos + (Utf8.decode s pos).2) (k + 1) n) else pos
theorem decodeN_valid (n b0 b1 b2 b3 : Nat) : (decodeN n b0 b1 b2 b3).1 < 55296 ∨ 57343 < (decodeN n b0 b1 b2 b3).1 := by
  unfold decodeN
  repeat' split
  all_goals (simp only; omega)
theorem decode_valid (s : ByteArray) (pos : Nat) : (Utf8.decode s pos).1 < 55296 ∨ 57343 < (Utf8.decode s pos).1 := by
  rw [decode_at]
  exact decodeN_valid _ _ _ _ _
theorem valid_true (r : Nat) (h : r ≤ 1114111) (hv : r < 55296 ∨ 57343 < r) : Utf8.valid (r : Int) = true := by
  unfold Utf8.valid
  simp
  omega
theorem encode_bytes (r : Nat) (h : r ≤ 1114111) (hv : r < 55296 ∨ 57343 < r) : (Utf8.encode (r : Int)).data.toList = encodeRune (r : Int) := by
  unfold Utf8.encode encodeRune encodeRuneZ
  have e0 : ((r : Int)).toNat = r := by omega
  simp only [e0, valid_true r h hv, if_true]
  by_cases h1 : r < 128
  · rw [if_pos h1, if_pos (by omega)]
    rfl
  · by_cases h2 : r < 2048
    · rw [if_neg h1, if_pos h2, if_neg (by omega), if_pos (by omega)]
      have a : (192 + (r : Int) / 64).toNat = 192 + r / 64 := by omega
      have b : (128 + (r : Int) % 64).toNat = 128 + r % 64 := by omega
      simp only [List.map_cons, List.map_nil, a, b]
    · rw [if_neg h1, if_neg h2]
      by_cases h4 : r < 65536
      · rw [if_pos h4, if_neg (by omega), if_neg (by omega), if_pos (by omega)]
        have a : (224 + (r : Int) / 4096).toNat = 224 + r / 4096 := by omega
        have b : (128 + (r : Int) / 64 % 64).toNat = 128 + r / 64 % 64 := by omega
        have c : (128 + (r : Int) % 64).toNat = 128 + r % 64 := by omega
        simp only [List.map_cons, List.map_nil, a, b, c]
      · rw [if_neg h4, if_neg (by omega), if_neg (by omega), if_neg (by omega), if_pos (by omega)]
        have a : (240 + (r : Int) / 262144).toNat = 240 + r / 262144 := by omega
        have b : (128 + (r : Int) / 4096 % 64).toNat = 128 + r / 4096 % 64 := by omega
        have c : (128 + (r : Int) / 64 % 64).toNat = 128 + r / 64 % 64 := by omega
        have d : (128 + (r : Int) % 64).toNat = 128 + r % 64 := by omega
        simp only [List.map_cons, List.map_nil, a, b, c, d]
theorem ext_list (s : ByteArray) (a b : Nat) : (s.extract a b).data.toList = (s.data.toList.drop a).take (b - a) := by
  simp [ByteArray.data_extract, Array.toList_extract, List.extract_eq_take_drop]
/-- What is read at a valid place, written again behind what stands ahead of it. -/
theorem ext_encode (s : ByteArray) (pos : Nat) (hp : pos < s.size) (hv : ¬ ((Utf8.decode s pos).1 = 65533 ∧ (Utf8.decode s pos).2 = 1)) :
    s.extract 0 pos ++ Utf8.encode ((Utf8.decode s pos).1 : Int) = s.extract 0 (pos + (Utf8.decode s pos).2) := by
  have hd := decodeL_drop s pos
  have he := encode_decode (s.data.toList.drop pos) (drop_ne s pos hp) (by rw [hd]; exact hv)
  rw [hd] at he
  have hb := encode_bytes (Utf8.decode s pos).1 (rune_le s pos) (decode_valid s pos)
  apply ByteArray.ext
  apply Array.ext'
  rw [ByteArray.data_append, Array.toList_append, hb, he, ext_list, ext_list, List.drop_zero, Nat.sub_zero, Nat.sub_zero, List.take_add]
theorem get_eq (s : ByteArray) (i : Nat) (h : i < s.size) : s.get! i = s[i]'h := by
  simp [ByteArray.get!, getElem!_pos, h]
  rfl
theorem rl_succ (s : ByteArray) (f pos : Nat) : rl s (f + 1) pos = if pos < s.size then ((Utf8.decode s pos).1 : Int) :: rl s f (pos + (Utf8.decode s pos).2) else [] := rfl
theorem tail_list (s : ByteArray) (P : Nat) : (s.extract P s.size).data.toList = s.data.toList.drop P := by
  rw [ext_list]
  have h2 : s.data.toList.length = s.size := Array.length_toList
  rw [List.take_of_length_le (by rw [List.length_drop]; omega)]
end Go.Proofs.YtdeingogdblddaaDoor.RP
namespace Go.Proofs.YtdeingogdblddaaDoor.RW
set_option linter.unusedVariables false
set_option linter.unusedSimpArgs false
open Go.RowKit Go.Lib Go.Proofs.YtdeingogdblddaaDoorW.PrintWords Go.Proofs.YtdeingogdblddaaDoorW.PrintLast Go.Proofs.YtdeingogdblddaaDoorW.PrintMore Go.Proofs.YtdeingogdblddaaDoor.RP Go.Proofs.YtdeingogdblddaaDoor.PAll
def Tabs (w : World) : Prop := Lib.Utf8Tabs (Tryd.laysValid_ren.g 3) (Tryd.laysValid_ren.g 4) w
theorem Tabs.below {w w' : World} (h : Tabs w) (hb : Below w.heap.size w w') : Tabs w' := Utf8Tabs_below h hb
theorem ret2_fst {q : Int × Int} {a b : Int} (h : (a, b) = q) : Ending.returned (.tuple #[.int .i64 a, .int .i64 b]) = .returned (.tuple #[.int .i64 q.1, .int .i64 q.2]) := by
  subst h; rfl
theorem ret_bool {a b : Bool} (h : a = b) : Ending.returned (.bool a) = .returned (.bool b) := by rw [h]
theorem below_iter {w w1 : World} (hb : Below w.heap.size w w1) (s : ByteArray) (p : Nat) : Below w.heap.size w (w1.iter s p) := hb.alloc hb.size _
/-- One step of the iterator in block k: a world that is as it was, but for that block. -/
theorem iter_step {P : Program} {w wr : World} {k : Nat} {s : ByteArray} {pos : Nat} (hk : wr.heap[k]? = some (.stringIter s pos)) (hp : pos < s.size) (hw : w.heap.size ≤ k) (hb : Below w.heap.size w wr) :
    ∃ W2 : World, (∀ ty, (Instr.next (.pointer (some ⟨k, 0, none⟩)) true ty).run P wr = .ok (.tuple #[.bool true, .int .i64 pos, .int .i32 (Utf8.decode s pos).1]) W2) ∧
      (∀ j, j ≠ k → W2.heap[j]? = wr.heap[j]?) ∧ W2.heap[k]? = some (.stringIter s (pos + (Utf8.decode s pos).2)) ∧ W2.heap.size = wr.heap.size ∧ Below w.heap.size w W2 :=
  ⟨wr.iterAt k s (pos + (Utf8.decode s pos).2), fun ty => run_next_any_at wr k s pos ty hk hp, fun j hj => iterAt_other wr k j s _ hj, iterAt_heap wr k s pos _ hk, iterAt_size wr k s _, below_iterAt hb hw s _⟩
theorem iter_new {w1 : World} (s : ByteArray) (p : Nat) : (w1.iter s p).heap[w1.heap.size]? = some (.stringIter s p) := by simp [World.iter_heap]
theorem class_any (r : Int) (w : World) : Calls Tryd.prog 53 #[.int .i32 r] w fun e w' => e = .returned (.int .i64 (classP r)) ∧ Drawn0 w w' :=
  runes_Class.calls 5 r _ w (class_eq 0 r)
theorem badR_or {r : Int} (h : (r == 65533) = true ∨ (r == 127) = true) : badR r := by
  simp only [beq_iff_eq] at h
  unfold badR
  omega
theorem notbad1 {r : Int} (h1 : r < 32) (h2 : classP r = 3) (h : (r == 65533) = false ∧ (r == 127) = false) : ¬ badR r := by
  simp only [beq_eq_false_iff_ne, ne_eq] at h
  unfold badR
  omega
theorem notbad2 {r : Int} (h1 : 32 ≤ r) (h : (r == 65533) = false ∧ (r == 127) = false) : ¬ badR r := by
  simp only [beq_eq_false_iff_ne, ne_eq] at h
  unfold badR
  omega
theorem check_any (s : ByteArray) (w : World) (hs : s.size ≤ 1000000) :
    Calls Tryd.prog 20 #[.string s] w fun e w' => e = .returned (.tuple #[.int .i64 (checkP s).1, .int .i64 (checkP s).2]) ∧ Below w.heap.size w w' := by
  unfold checkP
  by_cases h : 16384 < (s.size : Int)
  · rw [if_pos h]
    go_enter Tryd.func20, Tryd.ntmps20
    go_wp2
    go_ret2
    exact ⟨rfl, Below.refl _ _⟩
  · rw [if_neg h]
    go_enter Tryd.func20, Tryd.ntmps20
    go_wp2
    go_loopg [4] (s.size + 1) (fun gk v4 wr => ∃ (f pos : Nat), gk = f + 1 ∧ Aside0 (Below w.heap.size w wr) ∧ Aside0 (wr.heap[w.heap.size]? = some (.stringIter s pos)) ∧ Aside0 (ck s f pos = ck s s.size 0 ∧ s.size ≤ pos + f))
    case atStart => exact ⟨s.size, 0, rfl, ⟨below_iter (Below.refl _ _) _ _⟩, ⟨iter_new s 0⟩, ⟨rfl, by omega⟩⟩
    case round =>
      obtain ⟨f, pos, rfl, HB, HI, HA⟩ := hrel
      by_cases hp : pos < s.size
      · obtain ⟨W2, hnx, hm, hi, hz, hb2⟩ := iter_step (P := Tryd.prog) HI.out hp (Nat.le_refl _) HB.out
        have HB2 := Aside0.mk hb2
        have HI2 := Aside0.mk hi
        clear hm hi hz hb2 HI HB
        have hwd := width_pos s pos
        obtain ⟨f, rfl⟩ : ∃ f', f = f' + 1 := ⟨f - 1, by have := HA.out.2; omega⟩
        go_wp2_with (go_at_call 53; refine (class_any _ _).mono ?_; rintro e w3 ⟨rfl, ⟨nd, rfl⟩⟩)
        all_goals first
          | (go_ret2; exact ⟨ret2_fst ((ck_bad hp (by first | exact Or.inl ‹_› | exact badR_or ‹_› | exact Or.inr (Or.inl ⟨‹_›, ‹_›⟩))).symm.trans HA.out.1), by repeat (first | exact HB2.out | apply pw_below_drewN)⟩)
          | (go_roundg (f + 1)
             case measure => omega
             case rel => exact ⟨f, pos + (Utf8.decode s pos).2, rfl, ⟨by repeat (first | exact HB2.out | apply pw_below_drewN)⟩, ⟨HI2.out⟩, ⟨by rw [← HA.out.1, ck_on hp (by first | exact notbad1 ‹_› ‹_› ‹_› | exact notbad2 ‹_› ‹_›)], by have := HA.out.2; omega⟩⟩)
      · have hnx : ∀ ty, (Instr.next (.pointer (some ⟨w.heap.size, 0, none⟩)) true ty).run Tryd.prog wr = _ := fun ty => run_next_end_at wr _ s pos ty HI.out hp
        go_wp2
        go_ret2
        exact ⟨ret2_fst ((ck_end hp).symm.trans HA.out.1), HB.out⟩
theorem name_empty (s : ByteArray) (w : World) (h : s.toList = []) :
    Calls Tryd.prog 60 #[.string s] w fun e w' => e = .returned (.bool false) ∧ Below w.heap.size w w' := by
  have h2 : s.toList.isEmpty = true := by rw [h]; rfl
  go_enter Tryd.func60, Tryd.ntmps60
  go_wp2
  go_ret
  exact ⟨rfl, Below.refl _ _⟩
theorem name_long (s : ByteArray) (w : World) (hs : s.size ≤ 1000000) (h : s.toList.isEmpty = false) (h2 : 32 < (s.size : Int)) :
    Calls Tryd.prog 60 #[.string s] w fun e w' => e = .returned (.bool false) ∧ Below w.heap.size w w' := by
  go_enter Tryd.func60, Tryd.ntmps60
  go_wp2
  go_ret
  exact ⟨rfl, Below.refl _ _⟩
theorem name_text (s : ByteArray) (w : World) (hs : s.size ≤ 1000000) (hT : Tabs w) (h : s.toList.isEmpty = false) (h2 : (s.size : Int) ≤ 32) (hv : validD s.data.toList = false) :
    Calls Tryd.prog 60 #[.string s] w fun e w' => e = .returned (.bool false) ∧ Below w.heap.size w w' := by
  have cV := Any.utf8_ValidString Tryd.laysValid s w (by omega) hT
  rw [hv] at cV
  clear hv hT
  go_enter Tryd.func60, Tryd.ntmps60
  go_wp2_with (go_at_call 84; refine cV.mono ?_; rintro e w1 ⟨rfl, hb⟩)
  go_ret
  exact ⟨rfl, hb⟩
theorem ok1 {r : Int} {b : Bool} (h : (classP r == 1) = true) : okR b r = true := by
  unfold okR; simp only [beq_iff_eq] at h; simp [h]
theorem ok2 {r : Int} {pos : Nat} (h : (classP r == 2) = true) (h0 : ((pos : Int) == 0) = false) : okR (decide (pos = 0)) r = true := by
  have : ¬ pos = 0 := by simp only [beq_eq_false_iff_ne] at h0; omega
  unfold okR; simp only [beq_iff_eq] at h; simp [h, this]
theorem ok3 {r : Int} {pos : Nat} (h : ((pos : Int) == 0) = false ∧ (r != 39) = false) : okR (decide (pos = 0)) r = true := by
  have : ¬ pos = 0 := by have h0 := h.1; simp only [beq_eq_false_iff_ne] at h0; omega
  have h2 := h.2
  simp only [bne_eq_false_iff_eq] at h2
  unfold okR; simp [h2, this]
theorem no1 {r : Int} {pos : Nat} (c1 : (classP r == 1) = false) (c2 : (classP r == 2) = true) (h0 : ((pos : Int) == 0) = true) : okR (decide (pos = 0)) r = false := by
  have : pos = 0 := by simp only [beq_iff_eq] at h0; omega
  simp only [beq_eq_false_iff_ne] at c1
  unfold okR; simp [c1, this]
theorem no2 {r : Int} {pos : Nat} (c1 : (classP r == 1) = false) (c2 : (classP r == 2) = false) (h0 : pos = 0) : okR (decide (pos = 0)) r = false := by
  simp only [beq_eq_false_iff_ne] at c1
  unfold okR; simp [c1, h0]
theorem no3 {r : Int} {pos : Nat} (c1 : (classP r == 1) = false) (c2 : (classP r == 2) = false) (h : ((pos : Int) == 0) = true ∨ (r != 39) = true) : okR (decide (pos = 0)) r = false := by
  simp only [beq_eq_false_iff_ne] at c1 c2
  rcases h with h | h
  · have : pos = 0 := by simp only [beq_iff_eq] at h; omega
    unfold okR; simp [c1, this]
  · simp only [bne_iff_ne] at h
    unfold okR; simp [c1, c2, h]
theorem toList_eq (s : ByteArray) : s.toList = s.data.toList := by
  have h := ByteArray.toList_mk s.data.toList
  have e : (ByteArray.mk s.data.toList.toArray) = s := by cases s; simp
  rw [e] at h
  exact h
theorem toList_size (s : ByteArray) : s.toList.length = s.size := by
  rw [toList_eq]
  exact Array.length_toList
theorem name_ok (s : ByteArray) (w : World) (hs : s.size ≤ 1000000) (hT : Tabs w) (h : s.toList.isEmpty = false) (h2 : (s.size : Int) ≤ 32) (hv : validD s.data.toList = true) :
    Calls Tryd.prog 60 #[.string s] w fun e w' => e = .returned (.bool (nm s s.size 0)) ∧ Below w.heap.size w w' := by
  have cV := Any.utf8_ValidString Tryd.laysValid s w (by omega) hT
  rw [hv] at cV
  clear hv hT
  go_enter Tryd.func60, Tryd.ntmps60
  go_wp2_with (go_at_call 84; refine cV.mono ?_; rintro e w1 ⟨rfl, hb⟩)
  have HBs := Aside0.mk hb.size
  go_loopg [3] (s.size + 1) (fun gk v3 wr => ∃ (f pos : Nat), gk = f + 1 ∧ Aside0 (Below w.heap.size w wr) ∧ Aside0 (wr.heap[w1.heap.size]? = some (.stringIter s pos)) ∧ Aside0 (nm s f pos = nm s s.size 0 ∧ s.size ≤ pos + f))
  case atStart => exact ⟨s.size, 0, rfl, ⟨below_iter hb _ _⟩, ⟨iter_new s 0⟩, ⟨rfl, by omega⟩⟩
  case round =>
    obtain ⟨f, pos, rfl, HB, HI, HA⟩ := hrel
    by_cases hp : pos < s.size
    · obtain ⟨W2, hnx, hm, hi, hz, hb2⟩ := iter_step (P := Tryd.prog) HI.out hp HBs.out HB.out
      have HB2 := Aside0.mk hb2
      have HI2 := Aside0.mk hi
      clear hm hi hz hb2 HI HB
      have hwd := width_pos s pos
      obtain ⟨f, rfl⟩ : ∃ f', f = f' + 1 := ⟨f - 1, by have := HA.out.2; omega⟩
      go_wp2_with (go_at_call 53; refine (class_any _ _).mono ?_; rintro e w3 ⟨rfl, ⟨nd, rfl⟩⟩)
      all_goals first
        | (go_ret; exact ⟨ret_bool ((nm_bad hp (by first | exact no1 ‹_› ‹_› ‹_› | exact no2 ‹_› ‹_› ‹_› | exact no3 ‹_› ‹_› ‹_›)).symm.trans HA.out.1), by repeat (first | exact HB2.out | apply pw_below_drewN)⟩)
        | (go_roundg (f + 1)
           case measure => omega
           case rel => exact ⟨f, pos + (Utf8.decode s pos).2, rfl, ⟨by repeat (first | exact HB2.out | apply pw_below_drewN)⟩, ⟨HI2.out⟩, ⟨(nm_on hp (by first | exact ok1 ‹_› | exact ok2 ‹_› ‹_› | exact ok3 ‹_›)).symm.trans HA.out.1, by have := HA.out.2; omega⟩⟩)
    · have hnx : ∀ ty, (Instr.next (.pointer (some ⟨w1.heap.size, 0, none⟩)) true ty).run Tryd.prog wr = _ := fun ty => run_next_end_at wr _ s pos ty HI.out hp
      go_wp2
      go_ret
      exact ⟨ret_bool ((nm_end hp).symm.trans HA.out.1), HB.out⟩
theorem name_any (s : ByteArray) (w : World) (hs : s.size ≤ 1000000) (hT : Tabs w) :
    Calls Tryd.prog 60 #[.string s] w fun e w' => e = .returned (.bool (nameP s)) ∧ Below w.heap.size w w' := by
  have hz := toList_size s
  unfold nameP
  by_cases h0 : s.toList = []
  · rw [h0] at hz
    simp only [List.length_nil] at hz
    rw [decide_eq_false (by omega), Bool.false_and, Bool.false_and]
    exact name_empty s w h0
  · have he : s.toList.isEmpty = false := by simpa using h0
    have h1 : 0 < s.toList.length := List.length_pos_iff.2 h0
    by_cases h2 : 32 < (s.size : Int)
    · rw [decide_eq_false (by omega), Bool.false_and, Bool.false_and]
      exact name_long s w hs he h2
    · rw [decide_eq_true (by omega), Bool.true_and]
      cases hv : validD s.data.toList with
      | false => exact name_text s w hs hT he (by omega) hv
      | true => exact name_ok s w hs hT he (by omega) hv
end Go.Proofs.YtdeingogdblddaaDoor.RW
namespace Go.Proofs.YtdeingogdblddaaDoor.RP
set_option linter.unusedVariables false
set_option linter.unusedSimpArgs false
open Go.RowKit Go.Lib Go.Proofs.YtdeingogdblddaaDoorW.PrintWords Go.Proofs.YtdeingogdblddaaDoorW.PrintLast Go.Proofs.YtdeingogdblddaaDoorW.PrintMore
/-- Runes, written one behind the other. -/
def enc : List Int → ByteArray
  | [] => ⟨#[]⟩
  | r :: t => Utf8.encode r ++ enc t
/-- A rune that may be written. -/
def goodR (r : Int) : Prop := 0 ≤ r ∧ r ≤ 1114111 ∧ (r < 55296 ∨ 57343 < r)
def Good (l : List Int) : Prop := ∀ r, r ∈ l → goodR r
/-- Runes of a text that may be read. -/
def TextL (l : List Int) : Prop := ∀ r, r ∈ l → goodR r ∧ ¬ badR r
theorem TextL.good {l : List Int} (h : TextL l) : Good l := fun r hr => (h r hr).1
theorem TextL.tail {r : Int} {l : List Int} (h : TextL (r :: l)) : TextL l := fun x hx => h x (List.mem_cons_of_mem _ hx)
theorem Good.tail {r : Int} {l : List Int} (h : Good (r :: l)) : Good l := fun x hx => h x (List.mem_cons_of_mem _ hx)
theorem TextL.drop {l : List Int} (h : TextL l) (n : Nat) : TextL (l.drop n) := fun x hx => h x (List.mem_of_mem_drop hx)
theorem TextL.take {l : List Int} (h : TextL l) (n : Nat) : TextL (l.take n) := fun x hx => h x (List.mem_of_mem_take hx)
theorem Good.drop {l : List Int} (h : Good l) (n : Nat) : Good (l.drop n) := fun x hx => h x (List.mem_of_mem_drop hx)
theorem Good.take {l : List Int} (h : Good l) (n : Nat) : Good (l.take n) := fun x hx => h x (List.mem_of_mem_take hx)
theorem TextL.append {a b : List Int} (h : TextL a) (k : TextL b) : TextL (a ++ b) := fun x hx => by
  rcases List.mem_append.1 hx with hx | hx
  · exact h x hx
  · exact k x hx
theorem ba_ext {a b : ByteArray} (h : a.data.toList = b.data.toList) : a = b := by
  apply ByteArray.ext
  apply Array.ext'
  exact h
theorem ba_list (a b : ByteArray) : (a ++ b).data.toList = a.data.toList ++ b.data.toList := by rw [ByteArray.data_append, Array.toList_append]
theorem ba_size (a : ByteArray) : a.data.toList.length = a.size := Array.length_toList
theorem ba_size_append (a b : ByteArray) : (a ++ b).size = a.size + b.size := by rw [← ba_size, ba_list, List.length_append, ba_size, ba_size]
theorem ba_assoc (a b c : ByteArray) : a ++ b ++ c = a ++ (b ++ c) := ba_ext (by simp only [ba_list, List.append_assoc])
theorem ba_nil (a : ByteArray) : a ++ (⟨#[]⟩ : ByteArray) = a := ba_ext (by rw [ba_list]; simp)
theorem ba_nil_left (a : ByteArray) : (⟨#[]⟩ : ByteArray) ++ a = a := ba_ext (by rw [ba_list]; simp)
theorem ext_left (a b : ByteArray) : (a ++ b).extract 0 a.size = a := ba_ext (by rw [ext_list, ba_list, List.drop_zero, Nat.sub_zero, ← ba_size a, List.take_left])
theorem ext_right (a b : ByteArray) : (a ++ b).extract a.size (a ++ b).size = b := ba_ext (by rw [tail_list, ba_list, ← ba_size a, List.drop_left])
instance : DecidableEq ByteArray := fun a b => decidable_of_iff (a.data.toList = b.data.toList) ⟨ba_ext, fun h => by rw [h]⟩
instance (a : ByteArray) (l : List ByteArray) : Decidable (a ∈ l) := decidable_of_iff (l.any (fun x => decide (x = a)) = true) (by
  rw [List.any_eq_true]
  exact ⟨fun ⟨x, h, e⟩ => by rw [← of_decide_eq_true e]; exact h, fun h => ⟨a, h, decide_eq_true rfl⟩⟩)
theorem beq_dec {α : Type} [DecidableEq α] [BEq α] [LawfulBEq α] (a b : α) : (a == b) = decide (a = b) := by
  by_cases h : a = b <;> simp [h]
theorem toUInt8_nat (n : Nat) (h : n < 256) : (n.toUInt8).toNat = n := by
  show (UInt8.ofNat n).toNat = n
  rw [UInt8.toNat_ofNat']
  omega
theorem encZ (r : Int) (h : goodR r) : (Utf8.encode r).data.toList = encodeRune r := by
  obtain ⟨n, rfl⟩ := Int.eq_ofNat_of_zero_le h.1
  exact encode_bytes n (by have := h.2.1; omega) (by have := h.2.2; omega)
theorem dec_enc (r : Nat) (h1 : r ≤ 1114111) (h2 : r < 55296 ∨ 57343 < r) (rest : List UInt8) :
    decodeL (encodeRune (r : Int) ++ rest) = (r, (encodeRune (r : Int)).length) := by
  rw [decodeL_N]
  unfold encodeRune
  by_cases c1 : r < 128
  · rw [encodeRuneZ, if_pos (by omega)]
    have e : ((r : Int)).toNat = r := by omega
    simp only [List.map_cons, List.map_nil, e, List.cons_append, List.nil_append, List.length_cons, List.length_nil, List.getD_cons_zero, List.getD_cons_succ, toUInt8_nat r (by omega)]
    unfold decodeN
    rw [if_pos c1]
  · by_cases c2 : r < 2048
    · rw [encodeRuneZ, if_neg (by omega), if_pos (by omega)]
      have a : (192 + (r : Int) / 64).toNat = 192 + r / 64 := by omega
      have b : (128 + (r : Int) % 64).toNat = 128 + r % 64 := by omega
      simp only [List.map_cons, List.map_nil, a, b, List.cons_append, List.nil_append, List.length_cons, List.length_nil, List.getD_cons_zero, List.getD_cons_succ, toUInt8_nat (192 + r / 64) (by omega), toUInt8_nat (128 + r % 64) (by omega)]
      unfold decodeN
      rw [if_neg (by omega), if_pos ⟨by omega, by omega, by omega⟩, if_pos (by omega)]
      simp only [Prod.mk.injEq, and_true]
      clear a b
      omega
    · by_cases c3 : r < 65536
      · rw [encodeRuneZ, if_neg (by omega), if_neg (by omega), if_pos (by omega)]
        have a : (224 + (r : Int) / 4096).toNat = 224 + r / 4096 := by omega
        have b : (128 + (r : Int) / 64 % 64).toNat = 128 + r / 64 % 64 := by omega
        have c : (128 + (r : Int) % 64).toNat = 128 + r % 64 := by omega
        simp only [List.map_cons, List.map_nil, a, b, c, List.cons_append, List.nil_append, List.length_cons, List.length_nil, List.getD_cons_zero, List.getD_cons_succ, toUInt8_nat (224 + r / 4096) (by omega), toUInt8_nat (128 + r / 64 % 64) (by omega), toUInt8_nat (128 + r % 64) (by omega)]
        unfold decodeN
        rw [if_neg (by omega), if_neg (by omega), if_pos ⟨by omega, ⟨by omega, by omega⟩, by omega, by omega⟩, if_pos (by omega)]
        simp only [Prod.mk.injEq, and_true]
        clear a b c
        omega
      · rw [encodeRuneZ, if_neg (by omega), if_neg (by omega), if_neg (by omega), if_pos (by omega)]
        have a : (240 + (r : Int) / 262144).toNat = 240 + r / 262144 := by omega
        have b : (128 + (r : Int) / 4096 % 64).toNat = 128 + r / 4096 % 64 := by omega
        have c : (128 + (r : Int) / 64 % 64).toNat = 128 + r / 64 % 64 := by omega
        have d : (128 + (r : Int) % 64).toNat = 128 + r % 64 := by omega
        simp only [List.map_cons, List.map_nil, a, b, c, d, List.cons_append, List.nil_append, List.length_cons, List.length_nil, List.getD_cons_zero, List.getD_cons_succ, toUInt8_nat (240 + r / 262144) (by omega), toUInt8_nat (128 + r / 4096 % 64) (by omega), toUInt8_nat (128 + r / 64 % 64) (by omega), toUInt8_nat (128 + r % 64) (by omega)]
        unfold decodeN
        rw [if_neg (by omega), if_neg (by omega), if_neg (by omega), if_pos ⟨by omega, ⟨by omega, by omega⟩, ⟨by omega, by omega⟩, by omega, by omega⟩, if_pos (by omega)]
        simp only [Prod.mk.injEq, and_true]
        clear a b c d
        omega
theorem encodeRune_len (r : Int) : 1 ≤ (encodeRune r).length ∧ (encodeRune r).length ≤ 4 := by
  unfold encodeRune encodeRuneZ
  rw [List.length_map]
  repeat' split
  all_goals simp
theorem wd_eq (r : Int) (h : goodR r) : (Utf8.encode r).size = (encodeRune r).length := by rw [← ba_size, encZ r h]
theorem wd_pos (r : Int) (h : goodR r) : 1 ≤ (Utf8.encode r).size := by rw [wd_eq r h]; exact (encodeRune_len r).1
/-- What is decoded where a rune has been written. -/
theorem dec_at (a : ByteArray) (r : Int) (t : List Int) (h : goodR r) : Utf8.decode (a ++ enc (r :: t)) a.size = (r.toNat, (Utf8.encode r).size) := by
  rw [← decodeL_drop, ba_list, ← ba_size a, List.drop_left]
  show decodeL (Utf8.encode r ++ enc t).data.toList = _
  rw [ba_list, encZ r h, wd_eq r h]
  obtain ⟨n, rfl⟩ := Int.eq_ofNat_of_zero_le h.1
  rw [dec_enc n (by have := h.2.1; omega) (by have := h.2.2; omega)]
  simp
theorem dec_zero (r : Int) (t : List Int) (h : goodR r) : Utf8.decode (enc (r :: t)) 0 = (r.toNat, (Utf8.encode r).size) := by
  have := dec_at ⟨#[]⟩ r t h
  rw [ba_nil_left] at this
  exact this
theorem enc_append (a b : List Int) : enc (a ++ b) = enc a ++ enc b := by
  induction a with
  | nil => rw [List.nil_append]; exact (ba_nil_left _).symm
  | cons r a ih => rw [List.cons_append, enc, enc, ih, ba_assoc]
theorem enc_len (l : List Int) (h : Good l) : l.length ≤ (enc l).size := by
  induction l with
  | nil => exact Nat.zero_le _
  | cons r t ih =>
    have h1 := wd_pos r (h r (List.mem_cons_self))
    have h2 := ih h.tail
    rw [enc, ba_size_append, List.length_cons]
    omega
theorem enc_nil_iff (l : List Int) (h : Good l) : (enc l).size = 0 ↔ l = [] := by
  constructor
  · intro e
    have := enc_len l h
    exact List.eq_nil_of_length_eq_zero (by omega)
  · rintro rfl; rfl
theorem ck_enc (l : List Int) (h : TextL l) : ∀ (a : ByteArray) (f : Nat), ck (a ++ enc l) f a.size = (0, 0) := by
  induction l with
  | nil =>
    intro a f
    have e : (a ++ enc []) = a := ba_nil a
    rw [e]
    exact ck_end (Nat.lt_irrefl _)
  | cons r t ih =>
    intro a f
    cases f with
    | zero => rfl
    | succ f =>
      obtain ⟨hr, hb⟩ := h r List.mem_cons_self
      have hw := wd_pos r hr
      have hsz : (a ++ enc (r :: t)).size = a.size + ((Utf8.encode r).size + (enc t).size) := by rw [ba_size_append, enc, ba_size_append]
      have hd := dec_at a r t hr
      have e : a ++ enc (r :: t) = (a ++ Utf8.encode r) ++ enc t := by rw [enc, ba_assoc]
      have hs2 : (a ++ Utf8.encode r).size = a.size + (Utf8.encode r).size := ba_size_append _ _
      have := ih h.tail (a ++ Utf8.encode r) f
      rw [hs2, ← e] at this
      rw [ck_on (by omega) (by rw [hd]; show ¬ badR ((r.toNat : Nat) : Int); rw [show ((r.toNat : Nat) : Int) = r from Int.toNat_of_nonneg hr.1]; exact hb), hd]
      exact this
theorem check_enc (l : List Int) (h : TextL l) (hz : (enc l).size ≤ 16384) : checkP (enc l) = (0, 0) := by
  have := ck_enc l h ⟨#[]⟩ (enc l).size
  rw [ba_nil_left] at this
  unfold checkP
  rw [if_neg (by omega)]
  exact this
theorem ck_text (s : ByteArray) : ∀ (f pos : Nat), pos ≤ s.size → s.size ≤ pos + f → (ck s f pos).2 = 0 → TextL (rl s f pos) ∧ s.extract 0 pos ++ enc (rl s f pos) = s
  | 0, pos, h1, h2, _ => by
    obtain rfl : pos = s.size := by omega
    have e : rl s 0 s.size = [] := rfl
    rw [e]
    exact ⟨(fun r hr => by cases hr), ba_ext (by rw [ba_list, ext_list, List.drop_zero, Nat.sub_zero, List.take_of_length_le (by rw [ba_size]; exact Nat.le_refl _)]; exact List.append_nil _)⟩
  | f + 1, pos, h1, h2, h3 => by
    by_cases hp : pos < s.size
    · by_cases hb : badR (Utf8.decode s pos).1
      · rw [ck_bad hp hb] at h3; cases h3
      · rw [ck_on hp hb] at h3
        have hwl := w_le s pos hp
        have hw1 := width_pos s pos
        obtain ⟨g1, g2⟩ := ck_text s f (pos + (Utf8.decode s pos).2) hwl (by omega) h3
        have hv : ¬ ((Utf8.decode s pos).1 = 65533 ∧ (Utf8.decode s pos).2 = 1) := fun h => hb (Or.inl (by have := h.1; omega))
        rw [rl_succ, if_pos hp]
        refine ⟨fun r hr => ?_, ?_⟩
        · rcases List.mem_cons.1 hr with rfl | hr
          · exact ⟨⟨by omega, by have := rune_le s pos; omega, by have := decode_valid s pos; omega⟩, hb⟩
          · exact g1 r hr
        · rw [enc, ← ba_assoc, ext_encode s pos hp hv]
          exact g2
    · obtain rfl : pos = s.size := by omega
      rw [rl_succ, if_neg hp]
      exact ⟨(fun r hr => by cases hr), ba_ext (by rw [ba_list, ext_list, List.drop_zero, Nat.sub_zero, List.take_of_length_le (by rw [ba_size]; exact Nat.le_refl _)]; exact List.append_nil _)⟩
/-- What may be read is its runes. -/
theorem text_of_check (s : ByteArray) (h : (checkP s).2 = 0) : ∃ l, TextL l ∧ s = enc l ∧ (enc l).size ≤ 16384 := by
  unfold checkP at h
  by_cases hz : 16384 < (s.size : Int)
  · rw [if_pos hz] at h; cases h
  · rw [if_neg hz] at h
    obtain ⟨g1, g2⟩ := ck_text s s.size 0 (by omega) (by omega) h
    have e : s.extract 0 0 = ⟨#[]⟩ := ba_ext (by rw [ext_list]; simp)
    rw [e, ba_nil_left] at g2
    exact ⟨_, g1, g2.symm, by rw [g2]; omega⟩
end Go.Proofs.YtdeingogdblddaaDoor.RP
namespace Go.Proofs.YtdeingogdblddaaDoor.RP
set_option linter.unusedVariables false
set_option linter.unusedSimpArgs false
open Go.RowKit Go.Lib Go.Proofs.YtdeingogdblddaaDoorW.PrintWords Go.Proofs.YtdeingogdblddaaDoorW.PrintLast Go.Proofs.YtdeingogdblddaaDoorW.PrintMore Go.Proofs.YtdeingogdblddaaDoor.PAll
theorem toListB (s : ByteArray) : s.toList = s.data.toList := by
  have h := ByteArray.toList_mk s.data.toList
  have e : (ByteArray.mk s.data.toList.toArray) = s := by cases s; simp
  rw [e] at h
  exact h
theorem toListB_inj {a b : ByteArray} : a.toList = b.toList ↔ a = b := by
  rw [toListB, toListB]
  exact ⟨ba_ext, fun h => by rw [h]⟩
def wordsL : List ByteArray := (lexer_words.f).getD []
theorem wordsL_eq : lexer_words.f = some wordsL := rfl
def wordB (s : ByteArray) : Bool := decide (s ∈ wordsL)
theorem index_l0 (l : List ByteArray) (a : ByteArray) (hl : l.length ≤ 1000000) : ∀ (d i k : Nat), i ≤ l.length → l.length - i ≤ d → d + 1 ≤ k →
    ∃ z, slices_Index_string_string.l0 k l a (l.length : Int) (i : Int) = some z ∧ (0 ≤ z ↔ a ∈ l.drop i) := by
  intro d
  induction d with
  | zero =>
    intro i k h1 h2 hk
    obtain ⟨k, rfl⟩ : ∃ m, k = m + 1 := ⟨k - 1, by omega⟩
    simp only [slices_Index_string_string.l0]
    rw [if_neg (by omega), List.drop_eq_nil_of_le (by omega)]
    exact ⟨-1, rfl, by simp⟩
  | succ d ih =>
    intro i k h1 h2 hk
    obtain ⟨k, rfl⟩ : ∃ m, k = m + 1 := ⟨k - 1, by omega⟩
    simp only [slices_Index_string_string.l0]
    by_cases hi : i < l.length
    · have hd : l.drop i = rdOf ByteArray.empty l (i : Int) :: l.drop (i + 1) := by
        rw [List.drop_eq_getElem_cons hi]
        simp [rdOf, List.getD, hi]
      rw [if_pos (by omega), if_pos (by omega), if_pos (by omega), hd]
      by_cases he : a = rdOf ByteArray.empty l (i : Int)
      · rw [if_pos (toListB_inj.2 he)]
        exact ⟨_, rfl, ⟨fun _ => by rw [← he]; exact List.mem_cons_self, fun _ => by omega⟩⟩
      · rw [if_neg (fun h => he (toListB_inj.1 h)), w64s i (by omega)]
        obtain ⟨z, hz, hm⟩ := ih (i + 1) k (by omega) (by omega) (by omega)
        exact ⟨z, hz, hm.trans ⟨fun h => List.mem_cons_of_mem _ h, fun h => (List.mem_cons.1 h).resolve_left he⟩⟩
    · rw [if_neg (by omega), List.drop_eq_nil_of_le (by omega)]
      exact ⟨-1, rfl, by simp⟩
theorem contains_eq (l : List ByteArray) (a : ByteArray) (hl : l.length ≤ 1000000) : slices_Contains_string_string.f (l.length + 1) l a = some (decide (a ∈ l)) := by
  unfold slices_Contains_string_string.f slices_Index_string_string.f
  obtain ⟨z, hz, hm⟩ := index_l0 l a hl l.length 0 (l.length + 1) (by omega) (by omega) (by omega)
  have e : (((0 : Nat)) : Int) = 0 := rfl
  rw [e] at hz
  rw [hz]
  simp only [Option.bind_some, List.drop_zero] at hm ⊢
  rw [decide_eq_decide.2 hm]
theorem word_eq (s : ByteArray) : lexer_Word.f (wordsL.length + 1) s = some (wordB s) := by
  unfold lexer_Word.f
  rw [wordsL_eq]
  simp only [Option.bind_some]
  rw [contains_eq wordsL s (by decide)]
  rfl
def prefixB (s p : ByteArray) : Bool := decide (s.data.toList.take p.size = p.data.toList)
theorem prefix_eq (s p : ByteArray) : strings_HasPrefix.f s p = some (prefixB s p) := by
  unfold strings_HasPrefix.f stringslite_HasPrefix.f prefixB
  by_cases h : (s.size : Int) ≥ (p.size : Int)
  · rw [if_pos h, if_pos (by omega), if_pos (by omega)]
    have e : ((p.size : Int)).toNat = p.size := by omega
    rw [e]
    simp only [Option.bind_some]
    congr 1
    rw [toListB, toListB, ext_list, List.drop_zero, Nat.sub_zero]
    exact beq_dec _ _
  · rw [if_neg h]
    simp only [Option.bind_some]
    congr 1
    symm
    apply decide_eq_false
    intro e
    have := congrArg List.length e
    rw [List.length_take, ba_size, ba_size] at this
    omega
def innerB (r : Int) : Bool := decide (classP r = 1) || decide (classP r = 2) || decide (r = 39)
theorem inner_eq (r : Int) : lexer_inner.f 5 r = some (innerB r) := by
  unfold lexer_inner.f innerB
  rw [class_eq 0 r]
  simp only [Option.bind_some]
  by_cases h1 : classP r = 1
  · simp [h1]
  · rw [if_neg h1]
    by_cases h2 : classP r = 2
    · simp [h2]
    · rw [if_neg h2]
      simp [h1, h2, beq_dec]
def pre2 (s : ByteArray) (pos : Nat) (a b : UInt8) : Bool := decide (pos + 1 < s.size) && decide (s.get! pos = a) && decide (s.get! (pos + 1) = b)
/-- lexer.comment's loop. -/
def cmB (s : ByteArray) : Nat → Nat → Int → Int
  | 0, _, _ => 0
  | f + 1, pos, d => if pos < s.size then (if pre2 s pos 40 42 = true then cmB s f (pos + 2) (d + 1) else if pre2 s pos 42 41 = true then (if d - 1 = 0 then ((pos + 2 : Nat) : Int) else cmB s f (pos + 2) (d - 1)) else cmB s f (pos + 1) d) else 0
theorem drop_get (s : ByteArray) (pos : Nat) (h : pos < s.size) : s.data.toList.drop pos = s.get! pos :: s.data.toList.drop (pos + 1) := by
  rw [List.drop_eq_getElem_cons (by rw [ba_size]; exact h), get_eq s pos h]
  rfl
theorem prefix_two (s : ByteArray) (pos : Nat) (a b : UInt8) (h : pos ≤ s.size) : prefixB (s.extract pos s.size) ⟨#[a, b]⟩ = pre2 s pos a b := by
  unfold prefixB pre2
  rw [tail_list]
  have e : (⟨#[a, b]⟩ : ByteArray).size = 2 := rfl
  have e2 : (⟨#[a, b]⟩ : ByteArray).data.toList = [a, b] := rfl
  rw [e, e2]
  by_cases h1 : pos + 1 < s.size
  · rw [drop_get s pos (by omega), drop_get s (pos + 1) h1]
    simp [h1]
  · rw [decide_eq_false h1]
    simp only [Bool.false_and]
    apply decide_eq_false
    intro e3
    have := congrArg List.length e3
    rw [List.length_take, List.length_drop, ba_size] at this
    simp at this
    omega
theorem comment_l0 (s : ByteArray) (hs : s.size ≤ 1000000) : ∀ (f pos : Nat) (d : Int) (k : Nat), s.size ≤ pos + f → -1000000 + pos ≤ d + s.size → d ≤ pos → -(pos : Int) ≤ d → f + 1 ≤ k → pos ≤ s.size →
    lexer_comment.l0 k s d (pos : Int) = some (cmB s f pos d) := by
  intro f
  induction f with
  | zero =>
    intro pos d k h1 h2 h3 h4 hk h5
    obtain ⟨k, rfl⟩ : ∃ m, k = m + 1 := ⟨k - 1, by omega⟩
    simp only [lexer_comment.l0]
    rw [if_neg (by omega)]
    rfl
  | succ f ih =>
    intro pos d k h1 h2 h3 h4 hk h5
    obtain ⟨k, rfl⟩ : ∃ m, k = m + 1 := ⟨k - 1, by omega⟩
    simp only [lexer_comment.l0, cmB]
    by_cases hp : pos < s.size
    · have e : ((pos : Int)).toNat = pos := by omega
      rw [if_pos (by omega), if_pos (by omega), if_pos (by omega), if_pos hp, e, prefix_eq, prefix_eq, prefix_two s pos 40 42 h5, prefix_two s pos 42 41 h5]
      simp only [Option.bind_some]
      have e2 : wrap64 ((pos : Int) + 2) = ((pos + 2 : Nat) : Int) := w64n pos 2 (by omega)
      rw [e2, w64s pos (by omega)]
      clear e2
      by_cases c1 : pre2 s pos 40 42 = true
      · have hp2 : pos + 1 < s.size := by unfold pre2 at c1; simp at c1; omega
        rw [if_pos c1, if_pos c1, w64 (x := d + 1) (by omega) (by omega)]
        exact ih (pos + 2) (d + 1) k (by omega) (by omega) (by omega) (by omega) (by omega) (by omega)
      · rw [if_neg c1, if_neg c1]
        by_cases c2 : pre2 s pos 42 41 = true
        · have hp2 : pos + 1 < s.size := by unfold pre2 at c2; simp at c2; omega
          rw [if_pos c2, if_pos c2, w64 (x := d - 1) (by omega) (by omega)]
          by_cases c3 : d - 1 = 0
          · rw [if_pos c3, if_pos c3]
          · rw [if_neg c3, if_neg c3]
            exact ih (pos + 2) (d - 1) k (by omega) (by omega) (by omega) (by omega) (by omega) (by omega)
        · rw [if_neg c2, if_neg c2]
          exact ih (pos + 1) d k (by omega) (by omega) (by omega) (by omega) (by omega) (by omega)
    · rw [if_neg (by omega), if_neg hp]
def commentB (s : ByteArray) : Int := cmB s s.size 0 0
theorem comment_eq (s : ByteArray) (hs : s.size ≤ 1000000) : lexer_comment.f (s.size + 1) s = some (commentB s) := by
  unfold lexer_comment.f
  exact comment_l0 s hs s.size 0 0 _ (by omega) (by omega) (by omega) (by omega) (by omega) (by omega)
theorem cmB_le (s : ByteArray) : ∀ (f pos : Nat) (d : Int), 0 ≤ cmB s f pos d ∧ cmB s f pos d ≤ s.size
  | 0, _, _ => ⟨Int.le_refl _, by unfold cmB; omega⟩
  | f + 1, pos, d => by
    unfold cmB
    by_cases hp : pos < s.size
    · rw [if_pos hp]
      by_cases c1 : pre2 s pos 40 42 = true
      · rw [if_pos c1]; exact cmB_le s f _ _
      · rw [if_neg c1]
        by_cases c2 : pre2 s pos 42 41 = true
        · have hp2 : pos + 1 < s.size := by unfold pre2 at c2; simp at c2; omega
          rw [if_pos c2]
          by_cases c3 : d - 1 = 0
          · rw [if_pos c3]; omega
          · rw [if_neg c3]; exact cmB_le s f _ _
        · rw [if_neg c2]; exact cmB_le s f _ _
    · rw [if_neg hp]; omega
/-- The place behind the first runes of which p is true. -/
def sp (p : Int → Bool) (s : ByteArray) : Nat → Nat → Nat
  | 0, pos => s.size
  | f + 1, pos => if pos < s.size then (if p (Utf8.decode s pos).1 = true then sp p s f (pos + (Utf8.decode s pos).2) else pos) else s.size
def spanB (p : Int → Bool) (s : ByteArray) : Nat := sp p s s.size 0
theorem sp_on {p : Int → Bool} {s : ByteArray} {f pos : Nat} (hp : pos < s.size) (h : p (Utf8.decode s pos).1 = true) : sp p s (f + 1) pos = sp p s f (pos + (Utf8.decode s pos).2) := by simp [sp, hp, h]
theorem sp_stop {p : Int → Bool} {s : ByteArray} {f pos : Nat} (hp : pos < s.size) (h : p (Utf8.decode s pos).1 = false) : sp p s (f + 1) pos = pos := by simp [sp, hp, h]
theorem sp_end {p : Int → Bool} {s : ByteArray} {f pos : Nat} (hp : ¬ pos < s.size) : sp p s f pos = s.size := by cases f <;> simp [sp, hp]
theorem sp_le (p : Int → Bool) (s : ByteArray) : ∀ (f pos : Nat), sp p s f pos ≤ s.size
  | 0, _ => Nat.le_refl _
  | f + 1, pos => by
    unfold sp
    split
    · split
      · exact sp_le p s f _
      · omega
    · exact Nat.le_refl _
theorem spanB_le (p : Int → Bool) (s : ByteArray) : spanB p s ≤ s.size := sp_le p s _ _
abbrev Tk := S34
def firstB (s : ByteArray) : Int := if 0 < s.size then ((Utf8.decode s 0).1 : Int) else 0
/-- lexer.long's loop. -/
def lgB (s : ByteArray) : Nat → Nat → Bool → Nat × Bool
  | 0, n, ok => (n, ok)
  | f + 1, n, ok => if ok = true ∧ n < s.size ∧ s.get! n = 46 then lgB s f (n + 1 + spanB innerB (s.extract (n + 1) s.size)) (nameP ((s.extract (n + 1) s.size).extract 0 (spanB innerB (s.extract (n + 1) s.size))) && !wordB ((s.extract (n + 1) s.size).extract 0 (spanB innerB (s.extract (n + 1) s.size)))) else (n, ok)
theorem lgB_on {s : ByteArray} {f n : Nat} (h1 : n < s.size) (h2 : s.get! n = 46) : lgB s (f + 1) n true = lgB s f (n + 1 + spanB innerB (s.extract (n + 1) s.size)) (nameP ((s.extract (n + 1) s.size).extract 0 (spanB innerB (s.extract (n + 1) s.size))) && !wordB ((s.extract (n + 1) s.size).extract 0 (spanB innerB (s.extract (n + 1) s.size)))) := by
  rw [lgB, if_pos ⟨rfl, h1, h2⟩]
theorem lgB_off {s : ByteArray} {f n : Nat} : lgB s f n false = (n, false) := by cases f <;> simp [lgB]
theorem lgB_end {s : ByteArray} {f n : Nat} {ok : Bool} (h1 : ¬ n < s.size) : lgB s f n ok = (n, ok) := by cases f <;> simp [lgB, h1]
theorem lgB_stop {s : ByteArray} {f n : Nat} {ok : Bool} (h2 : ¬ s.get! n = 46) : lgB s f n ok = (n, ok) := by cases f <;> simp [lgB, h2]
def nameB (w : ByteArray) : Bool := nameP w && !wordB w
def longB (s : ByteArray) : Tk × Nat × Bool :=
  if wordB (s.extract 0 (spanB innerB s)) = true ∧ (s.size = spanB innerB s ∨ ¬ s.get! (spanB innerB s) = 46) then (⟨3, s.extract 0 (spanB innerB s), 0, 0⟩, spanB innerB s, true)
  else (⟨1, s.extract 0 (lgB s s.size (spanB innerB s) (nameB (s.extract 0 (spanB innerB s)))).1, 0, 0⟩, (lgB s s.size (spanB innerB s) (nameB (s.extract 0 (spanB innerB s)))).1,
    (lgB s s.size (spanB innerB s) (nameB (s.extract 0 (spanB innerB s)))).2 && decide ((lgB s s.size (spanB innerB s) (nameB (s.extract 0 (spanB innerB s)))).1 ≤ 128))
end Go.Proofs.YtdeingogdblddaaDoor.RP
namespace Go.Proofs.YtdeingogdblddaaDoor.RW
set_option linter.unusedVariables false
set_option linter.unusedSimpArgs false
open Go.RowKit Go.Lib Go.Proofs.YtdeingogdblddaaDoorW.PrintWords Go.Proofs.YtdeingogdblddaaDoorW.PrintLast Go.Proofs.YtdeingogdblddaaDoorW.PrintMore Go.Proofs.YtdeingogdblddaaDoor.RP Go.Proofs.YtdeingogdblddaaDoor.PAll
theorem inner_any (r : Int) (w : World) : Calls Tryd.prog 88 #[.int .i32 r] w fun e w' => e = .returned (.bool (innerB r)) ∧ Drawn0 w w' :=
  lexer_inner.calls 5 r _ w (inner_eq r)
def digB (r : Int) : Bool := classP r == 2
def blkB (r : Int) : Bool := classP r == 3
theorem dig_any (r : Int) (w : World) : Calls Tryd.prog 89 #[.int .i32 r] w fun e w' => e = .returned (.bool (digB r)) ∧ Drawn0 w w' := by
  have c := class_any r w
  unfold digB
  generalize classP r = q at c ⊢
  go_enter Tryd.func89, Tryd.ntmps89
  go_wp2_with (go_at_call 53; refine c.mono ?_; rintro e w3 ⟨rfl, ⟨nd, rfl⟩⟩)
  go_ret
  exact ⟨rfl, ⟨⟨nd, rfl⟩⟩⟩
theorem blk_any (r : Int) (w : World) : Calls Tryd.prog 52 #[.int .i32 r] w fun e w' => e = .returned (.bool (blkB r)) ∧ Drawn0 w w' := by
  have c := class_any r w
  unfold blkB
  generalize classP r = q at c ⊢
  go_enter Tryd.func52, Tryd.ntmps52
  go_wp2_with (go_at_call 53; refine c.mono ?_; rintro e w3 ⟨rfl, ⟨nd, rfl⟩⟩)
  go_ret
  exact ⟨rfl, ⟨⟨nd, rfl⟩⟩⟩
theorem ret_nat {a b : Nat} (h : a = b) : Ending.returned (.int .i64 (a : Int)) = .returned (.int .i64 (b : Int)) := by rw [h]
theorem span_inner (s : ByteArray) (w : World) (hs : s.size ≤ 1000000) :
    Calls Tryd.prog 51 #[.string s, .func (.func 88) #[] #[]] w fun e w' => e = .returned (.int .i64 (spanB innerB s : Nat)) ∧ Below w.heap.size w w' := by
  unfold spanB
  go_enter Tryd.func51, Tryd.ntmps51
  go_wp2
  go_loopg [5] (s.size + 1) (fun gk v5 wr => ∃ (f pos : Nat), gk = f + 1 ∧ Aside0 (Below w.heap.size w wr) ∧ Aside0 (wr.heap[w.heap.size]? = some (.stringIter s pos)) ∧ Aside0 (sp innerB s f pos = sp innerB s s.size 0 ∧ s.size ≤ pos + f))
  case atStart => exact ⟨s.size, 0, rfl, ⟨below_iter (Below.refl _ _) _ _⟩, ⟨iter_new s 0⟩, ⟨rfl, by omega⟩⟩
  case round =>
    obtain ⟨f, pos, rfl, HB, HI, HA⟩ := hrel
    by_cases hp : pos < s.size
    · obtain ⟨W2, hnx, hm, hi, hz, hb2⟩ := iter_step (P := Tryd.prog) HI.out hp (Nat.le_refl _) HB.out
      have HB2 := Aside0.mk hb2
      have HI2 := Aside0.mk hi
      clear hm hi hz hb2 HI HB
      have hwd := width_pos s pos
      obtain ⟨f, rfl⟩ : ∃ f', f = f' + 1 := ⟨f - 1, by have := HA.out.2; omega⟩
      have cc := inner_any ((Utf8.decode s pos).1 : Int)
      cases hc : innerB ((Utf8.decode s pos).1 : Int) with
      | true =>
        rw [hc] at cc
        have HC := Aside0.mk hc
        clear hc
        go_wp2_with (go_at_call 88; refine (cc _).mono ?_; rintro e w3 ⟨rfl, ⟨nd, rfl⟩⟩)
        go_roundg (f + 1)
        case measure => omega
        case rel => exact ⟨f, pos + (Utf8.decode s pos).2, rfl, ⟨by repeat (first | exact HB2.out | apply pw_below_drewN)⟩, ⟨HI2.out⟩, ⟨(sp_on hp HC.out).symm.trans HA.out.1, by have := HA.out.2; omega⟩⟩
      | false =>
        rw [hc] at cc
        have HC := Aside0.mk hc
        clear hc
        go_wp2_with (go_at_call 88; refine (cc _).mono ?_; rintro e w3 ⟨rfl, ⟨nd, rfl⟩⟩)
        go_ret
        exact ⟨ret_nat ((sp_stop hp HC.out).symm.trans HA.out.1), by repeat (first | exact HB2.out | apply pw_below_drewN)⟩
    · have hnx : ∀ ty, (Instr.next (.pointer (some ⟨w.heap.size, 0, none⟩)) true ty).run Tryd.prog wr = _ := fun ty => run_next_end_at wr _ s pos ty HI.out hp
      go_wp2
      go_ret
      exact ⟨ret_nat ((sp_end hp).symm.trans HA.out.1), HB.out⟩
theorem span_dig (s : ByteArray) (w : World) (hs : s.size ≤ 1000000) :
    Calls Tryd.prog 51 #[.string s, .func (.func 89) #[] #[]] w fun e w' => e = .returned (.int .i64 (spanB digB s : Nat)) ∧ Below w.heap.size w w' := by
  unfold spanB
  go_enter Tryd.func51, Tryd.ntmps51
  go_wp2
  go_loopg [5] (s.size + 1) (fun gk v5 wr => ∃ (f pos : Nat), gk = f + 1 ∧ Aside0 (Below w.heap.size w wr) ∧ Aside0 (wr.heap[w.heap.size]? = some (.stringIter s pos)) ∧ Aside0 (sp digB s f pos = sp digB s s.size 0 ∧ s.size ≤ pos + f))
  case atStart => exact ⟨s.size, 0, rfl, ⟨below_iter (Below.refl _ _) _ _⟩, ⟨iter_new s 0⟩, ⟨rfl, by omega⟩⟩
  case round =>
    obtain ⟨f, pos, rfl, HB, HI, HA⟩ := hrel
    by_cases hp : pos < s.size
    · obtain ⟨W2, hnx, hm, hi, hz, hb2⟩ := iter_step (P := Tryd.prog) HI.out hp (Nat.le_refl _) HB.out
      have HB2 := Aside0.mk hb2
      have HI2 := Aside0.mk hi
      clear hm hi hz hb2 HI HB
      have hwd := width_pos s pos
      obtain ⟨f, rfl⟩ : ∃ f', f = f' + 1 := ⟨f - 1, by have := HA.out.2; omega⟩
      have cc := dig_any ((Utf8.decode s pos).1 : Int)
      cases hc : digB ((Utf8.decode s pos).1 : Int) with
      | true =>
        rw [hc] at cc
        have HC := Aside0.mk hc
        clear hc
        go_wp2_with (go_at_call 89; refine (cc _).mono ?_; rintro e w3 ⟨rfl, ⟨nd, rfl⟩⟩)
        go_roundg (f + 1)
        case measure => omega
        case rel => exact ⟨f, pos + (Utf8.decode s pos).2, rfl, ⟨by repeat (first | exact HB2.out | apply pw_below_drewN)⟩, ⟨HI2.out⟩, ⟨(sp_on hp HC.out).symm.trans HA.out.1, by have := HA.out.2; omega⟩⟩
      | false =>
        rw [hc] at cc
        have HC := Aside0.mk hc
        clear hc
        go_wp2_with (go_at_call 89; refine (cc _).mono ?_; rintro e w3 ⟨rfl, ⟨nd, rfl⟩⟩)
        go_ret
        exact ⟨ret_nat ((sp_stop hp HC.out).symm.trans HA.out.1), by repeat (first | exact HB2.out | apply pw_below_drewN)⟩
    · have hnx : ∀ ty, (Instr.next (.pointer (some ⟨w.heap.size, 0, none⟩)) true ty).run Tryd.prog wr = _ := fun ty => run_next_end_at wr _ s pos ty HI.out hp
      go_wp2
      go_ret
      exact ⟨ret_nat ((sp_end hp).symm.trans HA.out.1), HB.out⟩
theorem span_blk (s : ByteArray) (w : World) (hs : s.size ≤ 1000000) :
    Calls Tryd.prog 51 #[.string s, .func (.func 52) #[] #[]] w fun e w' => e = .returned (.int .i64 (spanB blkB s : Nat)) ∧ Below w.heap.size w w' := by
  unfold spanB
  go_enter Tryd.func51, Tryd.ntmps51
  go_wp2
  go_loopg [5] (s.size + 1) (fun gk v5 wr => ∃ (f pos : Nat), gk = f + 1 ∧ Aside0 (Below w.heap.size w wr) ∧ Aside0 (wr.heap[w.heap.size]? = some (.stringIter s pos)) ∧ Aside0 (sp blkB s f pos = sp blkB s s.size 0 ∧ s.size ≤ pos + f))
  case atStart => exact ⟨s.size, 0, rfl, ⟨below_iter (Below.refl _ _) _ _⟩, ⟨iter_new s 0⟩, ⟨rfl, by omega⟩⟩
  case round =>
    obtain ⟨f, pos, rfl, HB, HI, HA⟩ := hrel
    by_cases hp : pos < s.size
    · obtain ⟨W2, hnx, hm, hi, hz, hb2⟩ := iter_step (P := Tryd.prog) HI.out hp (Nat.le_refl _) HB.out
      have HB2 := Aside0.mk hb2
      have HI2 := Aside0.mk hi
      clear hm hi hz hb2 HI HB
      have hwd := width_pos s pos
      obtain ⟨f, rfl⟩ : ∃ f', f = f' + 1 := ⟨f - 1, by have := HA.out.2; omega⟩
      have cc := blk_any ((Utf8.decode s pos).1 : Int)
      cases hc : blkB ((Utf8.decode s pos).1 : Int) with
      | true =>
        rw [hc] at cc
        have HC := Aside0.mk hc
        clear hc
        go_wp2_with (go_at_call 52; refine (cc _).mono ?_; rintro e w3 ⟨rfl, ⟨nd, rfl⟩⟩)
        go_roundg (f + 1)
        case measure => omega
        case rel => exact ⟨f, pos + (Utf8.decode s pos).2, rfl, ⟨by repeat (first | exact HB2.out | apply pw_below_drewN)⟩, ⟨HI2.out⟩, ⟨(sp_on hp HC.out).symm.trans HA.out.1, by have := HA.out.2; omega⟩⟩
      | false =>
        rw [hc] at cc
        have HC := Aside0.mk hc
        clear hc
        go_wp2_with (go_at_call 52; refine (cc _).mono ?_; rintro e w3 ⟨rfl, ⟨nd, rfl⟩⟩)
        go_ret
        exact ⟨ret_nat ((sp_stop hp HC.out).symm.trans HA.out.1), by repeat (first | exact HB2.out | apply pw_below_drewN)⟩
    · have hnx : ∀ ty, (Instr.next (.pointer (some ⟨w.heap.size, 0, none⟩)) true ty).run Tryd.prog wr = _ := fun ty => run_next_end_at wr _ s pos ty HI.out hp
      go_wp2
      go_ret
      exact ⟨ret_nat ((sp_end hp).symm.trans HA.out.1), HB.out⟩
end Go.Proofs.YtdeingogdblddaaDoor.RW
namespace Go.Proofs.YtdeingogdblddaaDoor.RW
set_option linter.unusedVariables false
set_option linter.unusedSimpArgs false
open Go.RowKit Go.Lib Go.Proofs.YtdeingogdblddaaDoorW.PrintWords Go.Proofs.YtdeingogdblddaaDoorW.PrintLast Go.Proofs.YtdeingogdblddaaDoorW.PrintMore Go.Proofs.YtdeingogdblddaaDoor.RP Go.Proofs.YtdeingogdblddaaDoor.PAll
theorem first_any (s : ByteArray) (w : World) (hs : s.size ≤ 1000000) :
    Calls Tryd.prog 71 #[.string s] w fun e w' => e = .returned (.int .i32 (firstB s)) ∧ Below w.heap.size w w' := by
  unfold firstB
  by_cases hp : 0 < s.size
  · rw [if_pos hp]
    have hnx : ∀ ty, (Instr.next (.pointer (some ⟨w.heap.size, 0, none⟩)) true ty).run Tryd.prog (w.iter s 0) = _ := fun ty => run_next_any w s 0 ty hp
    go_enter Tryd.func71, Tryd.ntmps71
    go_wp2
    refine wp_loop_rounds 1 ?_; rw [rounds_succ]
    go_wp2
    go_ret
    exact ⟨rfl, below_iter (Below.refl _ _) _ _⟩
  · rw [if_neg hp]
    have hnx : ∀ ty, (Instr.next (.pointer (some ⟨w.heap.size, 0, none⟩)) true ty).run Tryd.prog (w.iter s 0) = _ := fun ty => run_next_end w s 0 ty hp
    go_enter Tryd.func71, Tryd.ntmps71
    go_wp2
    refine wp_loop_rounds 1 ?_; rw [rounds_succ]
    go_wp2
    go_ret
    exact ⟨rfl, below_iter (Below.refl _ _) _ _⟩
theorem word_any (s : ByteArray) (w : World) : Calls Tryd.prog 16 #[.string s] w fun e w' => e = .returned (.bool (wordB s)) ∧ Below w.heap.size w w' :=
  lexer_Word.calls _ s _ w (word_eq s)
def tokV (t : Tk) : Value := .agg #[.int .i64 t.f0, .string t.f1, .int .i64 t.f2, .int .i64 t.f3]
theorem ne46 {c : UInt8} (h : ¬ c = 46) : (((c.toNat : Nat) : Int) != 46) = true := by
  rw [bne_iff_ne]
  intro e
  apply h
  apply UInt8.toNat_inj.1
  show c.toNat = 46
  omega
theorem eq46 {c : UInt8} (h : c = 46) : (((c.toNat : Nat) : Int) == 46) = true := by subst h; rfl
theorem eq46f {c : UInt8} (h : ¬ c = 46) : (((c.toNat : Nat) : Int) == 46) = false := by
  have := ne46 h
  rw [bne_iff_ne] at this
  exact beq_eq_false_iff_ne.2 this
theorem below_own {w w1 : World} {o : Obj} (hb : Below (w.alloc o).heap.size (w.alloc o) w1) : Below w.heap.size w w1 :=
  ((Below.refl w.heap.size w).alloc (Nat.le_refl _) o).trans (hb.mono (by simp))
theorem below4 {w w2 : World} (h : Below w.heap.size w w2) (a b c d : Value) :
    Below w.heap.size w ((((w2.setCell ⟨w.heap.size, 0, none⟩ a).setCell ⟨w.heap.size, 1, none⟩ b).setCell ⟨w.heap.size, 2, none⟩ c).setCell ⟨w.heap.size, 3, none⟩ d) :=
  (((h.setCell (Nat.le_refl _) a).setCell (Nat.le_refl _) b).setCell (Nat.le_refl _) c).setCell (Nat.le_refl _) d
/-- The result's own block, behind calls: its cells, that they may be written, and that there is such a block. -/
theorem own4 {w w1 : World} {a b c d : Value} {T : Nat} (hb : Below (w.alloc (.cells #[a, b, c, d] T)).heap.size (w.alloc (.cells #[a, b, c, d] T)) w1) :
    w1.cell? ⟨w.heap.size, 0, none⟩ = some a ∧ w1.cell? ⟨w.heap.size, 1, none⟩ = some b ∧ w1.cell? ⟨w.heap.size, 2, none⟩ = some c ∧ w1.cell? ⟨w.heap.size, 3, none⟩ = some d ∧
      w1.frozen? ⟨w.heap.size, 0, none⟩ = false ∧ w1.frozen? ⟨w.heap.size, 1, none⟩ = false ∧ w1.frozen? ⟨w.heap.size, 2, none⟩ = false ∧ w1.frozen? ⟨w.heap.size, 3, none⟩ = false ∧ w.heap.size < w1.heap.size := by
  have hlt : w.heap.size < (w.alloc (.cells #[a, b, c, d] T)).heap.size := by simp
  have hk := hb.block w.heap.size hlt
  have h0 : (w.alloc (.cells #[a, b, c, d] T)).heap[w.heap.size]? = some (.cells #[a, b, c, d] T (0, 0)) := by
    show (w.heap.push _)[w.heap.size]? = _
    simp
  rw [h0] at hk
  refine ⟨by simp [World.cell?, hk], by simp [World.cell?, hk], by simp [World.cell?, hk], by simp [World.cell?, hk], by simp [World.frozen?, hk], by simp [World.frozen?, hk], by simp [World.frozen?, hk], by simp [World.frozen?, hk], Nat.lt_of_lt_of_le hlt hb.size⟩
set_option maxRecDepth 100000 in
set_option maxHeartbeats 1000000 in
theorem long_key (s : ByteArray) (w : World) (hs : s.size ≤ 1000000) (hw : wordB (s.extract 0 (spanB innerB s)) = true) (hc : s.size = spanB innerB s ∨ ¬ s.get! (spanB innerB s) = 46) :
    Calls Tryd.prog 72 #[.string s] w fun e w' => e = .returned (.tuple #[.agg #[.int .i64 3, .string (s.extract 0 (spanB innerB s)), .int .i64 0, .int .i64 0], .int .i64 (spanB innerB s : Nat), .bool true]) ∧ Below w.heap.size w w' := by
  have c1 := fun w => span_inner s w hs
  have c2 := fun w => word_any (s.extract 0 (spanB innerB s)) w
  have hn := spanB_le innerB s
  rw [hw] at c2
  clear hw
  generalize spanB innerB s = n at *
  rcases (show s.size ≤ n ∨ n < s.size by omega) with he | he
  · clear hc
    go_enter Tryd.func72, Tryd.ntmps72
    go_wp2_with (first | (go_at_call 51; refine (c1 _).mono ?_; rintro e w1 ⟨rfl, hb1⟩) | (go_at_call 16; refine (c2 _).mono ?_; rintro e w2 ⟨rfl, hb2⟩; have hbk := below_then hb1 hb1.size hb2; obtain ⟨z0, z1, z2, z3, y0, y1, y2, y3, hz⟩ := own4 hbk))
    refine bodyPost_ret (v := .tuple #[.agg #[.int .i64 3, .string (s.extract 0 n), .int .i64 0, .int .i64 0], .int .i64 (n : Int), .bool true]) ?_ rfl ⟨rfl, below4 (below_own hbk) _ _ _ _⟩
    simp [results, Tryd.results72, go_sem, *]
  · have hne : ((s.size : Int) == (n : Int)) = false := by simp; omega
    have hb46 : ((((s[n]'he).toNat : Nat) : Int) != 46) = true := by
      have h := hc.resolve_left (by omega)
      rw [get_eq s n he] at h
      exact ne46 h
    clear hc
    go_enter Tryd.func72, Tryd.ntmps72
    go_wp2_with (first | (go_at_call 51; refine (c1 _).mono ?_; rintro e w1 ⟨rfl, hb1⟩) | (go_at_call 16; refine (c2 _).mono ?_; rintro e w2 ⟨rfl, hb2⟩; have hbk := below_then hb1 hb1.size hb2; obtain ⟨z0, z1, z2, z3, y0, y1, y2, y3, hz⟩ := own4 hbk))
    refine bodyPost_ret (v := .tuple #[.agg #[.int .i64 3, .string (s.extract 0 n), .int .i64 0, .int .i64 0], .int .i64 (n : Int), .bool true]) ?_ rfl ⟨rfl, below4 (below_own hbk) _ _ _ _⟩
    simp [results, Tryd.results72, go_sem, *]
theorem ext_size_le (s : ByteArray) (a b : Nat) : (s.extract a b).size ≤ s.size := by rw [ByteArray.size_extract]; omega
set_option maxRecDepth 100000 in
set_option maxHeartbeats 4000000 in
theorem long_nameA (s : ByteArray) (w : World) (hs : s.size ≤ 1000000) (hT : Tabs w) (hw : wordB (s.extract 0 (spanB innerB s)) = false) (nb : nameP (s.extract 0 (spanB innerB s)) = true) (R : Nat × Bool) (hR : lgB s s.size (spanB innerB s) (nameB (s.extract 0 (spanB innerB s))) = R) :
    Calls Tryd.prog 72 #[.string s] w fun e w' => e = .returned (.tuple #[.agg #[.int .i64 1, .string (s.extract 0 R.1), .int .i64 0, .int .i64 0], .int .i64 (R.1 : Int), .bool (R.2 && decide (R.1 ≤ 128))]) ∧ Below w.heap.size w w' := by
  have c1 := fun w => span_inner s w hs
  have c2 := fun w => word_any (s.extract 0 (spanB innerB s)) w
  have cn := fun w (hT : Tabs w) => name_any (s.extract 0 (spanB innerB s)) w (Nat.le_trans (ext_size_le _ _ _) hs) hT
  have hn := spanB_le innerB s
  unfold nameB at hR
  rw [hw] at c2 hR
  clear hw
  generalize spanB innerB s = n0 at *
  generalize nameP (s.extract 0 n0) = nb0 at *
  subst nb
  go_enter Tryd.func72, Tryd.ntmps72
  go_wp2_with (first | (go_at_call 51; refine (c1 _).mono ?_; rintro e w1 ⟨rfl, hb1⟩) | (go_at_call 16; refine (c2 _).mono ?_; rintro e w2 ⟨rfl, hb2'⟩; have hb2 := below_then hb1 hb1.size hb2'; clear hb2') | (go_at_call 60; refine (cn _ (hT.below (below_own hb2))).mono ?_; rintro e w3 ⟨rfl, hb3'⟩; have hb3 := below_then hb2 hb2.size hb3'; clear hb3') | (go_at_call 16; refine (c2 _).mono ?_; rintro e w4 ⟨rfl, hb4'⟩; have hbk := below_then hb3 hb3.size hb4'; clear hb4'))
  go_loopg [5, 6] (s.size + 1) (fun gk v5 v6 wr => ∃ (f n : Nat) (ok : Bool), gk = f + 1 ∧ v5 = .int .i64 n ∧ v6 = .bool ok ∧ Aside0 (Below (w.alloc (.cells #[.int .i64 0, .string ⟨#[]⟩, .int .i64 0, .int .i64 0] 34)).heap.size (w.alloc (.cells #[.int .i64 0, .string ⟨#[]⟩, .int .i64 0, .int .i64 0] 34)) wr) ∧ Aside0 (lgB s f n ok = R ∧ s.size ≤ n + f ∧ n ≤ s.size))
  case atStart => exact ⟨s.size, n0, true, rfl, rfl, rfl, ⟨hbk⟩, ⟨hR, by omega, hn⟩⟩
  case round =>
    obtain ⟨f, n, ok, rfl, rfl, rfl, HB, HA⟩ := hrel
    have hnz := HA.out.2.2
    have hTr := Aside0.mk (hT.below ((below_own HB.out)))
    cases ok with
    | false =>
      have hRe := HA.out.1
      rw [lgB_off] at hRe
      subst hRe
      obtain ⟨z0, z1, z2, z3, y0, y1, y2, y3, hz⟩ := own4 HB.out
      go_wp2
      refine bodyPost_ret (v := .tuple #[.agg #[.int .i64 1, .string (s.extract 0 n), .int .i64 0, .int .i64 0], .int .i64 (n : Int), .bool false]) ?_ rfl ⟨by simp, below4 (below_own HB.out) _ _ _ _⟩
      simp [results, Tryd.results72, go_sem, *]
    | true =>
      by_cases h1 : n < s.size ∧ s.get! n = 46
      · obtain ⟨h1, h2⟩ := h1
        have hb46 : ((((s[n]'h1).toNat : Nat) : Int) == 46) = true := by
          rw [get_eq s n h1] at h2
          exact eq46 h2
        obtain ⟨f, rfl⟩ : ∃ f', f = f' + 1 := ⟨f - 1, by have := HA.out.2.1; omega⟩
        have hRe := HA.out.1
        rw [lgB_on h1 h2] at hRe
        have htz : (s.extract (n + 1) s.size).size = s.size - (n + 1) := by rw [ByteArray.size_extract]; omega
        have hkz := spanB_le innerB (s.extract (n + 1) s.size)
        have c3 := fun w => span_inner (s.extract (n + 1) s.size) w (by omega)
        rw [htz] at hkz
        generalize spanB innerB (s.extract (n + 1) s.size) = k at hRe hkz c3
        have c4 := fun w (hT : Tabs w) => name_any ((s.extract (n + 1) s.size).extract 0 k) w (Nat.le_trans (ext_size_le _ _ _) (by omega)) hT
        have c5 := fun w => word_any ((s.extract (n + 1) s.size).extract 0 k) w
        have HRe := Aside0.mk hRe
        clear hRe h2 htz
        generalize nameP ((s.extract (n + 1) s.size).extract 0 k) = nb at c4 HRe
        generalize wordB ((s.extract (n + 1) s.size).extract 0 k) = wb at c5 HRe
        have h1z : (n : Int) < (s.size : Int) := by omega
        cases nb with
        | true =>
          go_wp2_with (first | (go_at_call 51; refine (c3 _).mono ?_; rintro e w1 ⟨rfl, hb1'⟩; have HB1 := Aside0.mk (below_then HB.out HB.out.size hb1'); clear hb1') | (go_at_call 60; refine (c4 _ (hT.below (below_own HB1.out))).mono ?_; rintro e w2 ⟨rfl, hb2'⟩; have HB2 := Aside0.mk (below_then HB1.out HB1.out.size hb2'); clear hb2') | (go_at_call 16; refine (c5 _).mono ?_; rintro e w3 ⟨rfl, hb3'⟩; have HB3 := Aside0.mk (below_then HB2.out HB2.out.size hb3'); clear hb3'))
          go_roundg (f + 1)
          case measure => omega
          case rel => exact ⟨f, n + 1 + k, _, rfl, by go_num, rfl, HB3, ⟨HRe.out, by have := HA.out.2.1; omega, by omega⟩⟩
        | false =>
          go_wp2_with (first | (go_at_call 51; refine (c3 _).mono ?_; rintro e w1 ⟨rfl, hb1'⟩; have HB1 := Aside0.mk (below_then HB.out HB.out.size hb1'); clear hb1') | (go_at_call 60; refine (c4 _ (hT.below (below_own HB1.out))).mono ?_; rintro e w2 ⟨rfl, hb2'⟩; have HB2 := Aside0.mk (below_then HB1.out HB1.out.size hb2'); clear hb2') | (go_at_call 16; refine (c5 _).mono ?_; rintro e w3 ⟨rfl, hb3'⟩; have HB3 := Aside0.mk (below_then HB2.out HB2.out.size hb3'); clear hb3'))
          go_roundg (f + 1)
          case measure => omega
          case rel => exact ⟨f, n + 1 + k, false, rfl, by go_num, rfl, HB2, ⟨HRe.out, by have := HA.out.2.1; omega, by omega⟩⟩
      · have hRe := HA.out.1
        have hst : lgB s f n true = (n, true) := by
          by_cases h3 : n < s.size
          · exact lgB_stop (fun h => h1 ⟨h3, h⟩)
          · exact lgB_end h3
        rw [hst] at hRe
        subst hRe
        obtain ⟨z0, z1, z2, z3, y0, y1, y2, y3, hz⟩ := own4 HB.out
        by_cases h4 : n ≤ 128
        · by_cases h3 : n < s.size
          · have hb46 : ((((s[n]'h3).toNat : Nat) : Int) == 46) = false := by
              have h := fun h => h1 ⟨h3, h⟩
              rw [get_eq s n h3] at h
              exact eq46f h
            clear h1
            go_wp2
            refine bodyPost_ret (v := .tuple #[.agg #[.int .i64 1, .string (s.extract 0 n), .int .i64 0, .int .i64 0], .int .i64 (n : Int), .bool true]) ?_ rfl ⟨by simp [h4], below4 (below_own HB.out) _ _ _ _⟩
            simp [results, Tryd.results72, go_sem, *]; omega
          · clear h1
            go_wp2
            refine bodyPost_ret (v := .tuple #[.agg #[.int .i64 1, .string (s.extract 0 n), .int .i64 0, .int .i64 0], .int .i64 (n : Int), .bool true]) ?_ rfl ⟨by simp [h4], below4 (below_own HB.out) _ _ _ _⟩
            simp [results, Tryd.results72, go_sem, *]; omega
        · by_cases h3 : n < s.size
          · have hb46 : ((((s[n]'h3).toNat : Nat) : Int) == 46) = false := by
              have h := fun h => h1 ⟨h3, h⟩
              rw [get_eq s n h3] at h
              exact eq46f h
            clear h1
            go_wp2
            refine bodyPost_ret (v := .tuple #[.agg #[.int .i64 1, .string (s.extract 0 n), .int .i64 0, .int .i64 0], .int .i64 (n : Int), .bool false]) ?_ rfl ⟨by simp [h4], below4 (below_own HB.out) _ _ _ _⟩
            simp [results, Tryd.results72, go_sem, *]; omega
          · clear h1
            go_wp2
            refine bodyPost_ret (v := .tuple #[.agg #[.int .i64 1, .string (s.extract 0 n), .int .i64 0, .int .i64 0], .int .i64 (n : Int), .bool false]) ?_ rfl ⟨by simp [h4], below4 (below_own HB.out) _ _ _ _⟩
            simp [results, Tryd.results72, go_sem, *]; omega
set_option maxRecDepth 100000 in
set_option maxHeartbeats 4000000 in
theorem long_nameB (s : ByteArray) (w : World) (hs : s.size ≤ 1000000) (hT : Tabs w) (hw : wordB (s.extract 0 (spanB innerB s)) = false) (nb : nameP (s.extract 0 (spanB innerB s)) = false) (R : Nat × Bool) (hR : lgB s s.size (spanB innerB s) (nameB (s.extract 0 (spanB innerB s))) = R) :
    Calls Tryd.prog 72 #[.string s] w fun e w' => e = .returned (.tuple #[.agg #[.int .i64 1, .string (s.extract 0 R.1), .int .i64 0, .int .i64 0], .int .i64 (R.1 : Int), .bool (R.2 && decide (R.1 ≤ 128))]) ∧ Below w.heap.size w w' := by
  have c1 := fun w => span_inner s w hs
  have c2 := fun w => word_any (s.extract 0 (spanB innerB s)) w
  have cn := fun w (hT : Tabs w) => name_any (s.extract 0 (spanB innerB s)) w (Nat.le_trans (ext_size_le _ _ _) hs) hT
  have hn := spanB_le innerB s
  unfold nameB at hR
  rw [hw] at c2 hR
  clear hw
  generalize spanB innerB s = n0 at *
  generalize nameP (s.extract 0 n0) = nb0 at *
  subst nb
  go_enter Tryd.func72, Tryd.ntmps72
  go_wp2_with (first | (go_at_call 51; refine (c1 _).mono ?_; rintro e w1 ⟨rfl, hb1⟩) | (go_at_call 16; refine (c2 _).mono ?_; rintro e w2 ⟨rfl, hb2'⟩; have hb2 := below_then hb1 hb1.size hb2'; clear hb2') | (go_at_call 60; refine (cn _ (hT.below (below_own hb2))).mono ?_; rintro e w3 ⟨rfl, hb3'⟩; have hbk := below_then hb2 hb2.size hb3'; clear hb3'))
  go_loopg [5, 6] (s.size + 1) (fun gk v5 v6 wr => ∃ (f n : Nat) (ok : Bool), gk = f + 1 ∧ v5 = .int .i64 n ∧ v6 = .bool ok ∧ Aside0 (Below (w.alloc (.cells #[.int .i64 0, .string ⟨#[]⟩, .int .i64 0, .int .i64 0] 34)).heap.size (w.alloc (.cells #[.int .i64 0, .string ⟨#[]⟩, .int .i64 0, .int .i64 0] 34)) wr) ∧ Aside0 (lgB s f n ok = R ∧ s.size ≤ n + f ∧ n ≤ s.size))
  case atStart => exact ⟨s.size, n0, false, rfl, rfl, rfl, ⟨hbk⟩, ⟨hR, by omega, hn⟩⟩
  case round =>
    obtain ⟨f, n, ok, rfl, rfl, rfl, HB, HA⟩ := hrel
    have hnz := HA.out.2.2
    have hTr := Aside0.mk (hT.below ((below_own HB.out)))
    cases ok with
    | false =>
      have hRe := HA.out.1
      rw [lgB_off] at hRe
      subst hRe
      obtain ⟨z0, z1, z2, z3, y0, y1, y2, y3, hz⟩ := own4 HB.out
      go_wp2
      refine bodyPost_ret (v := .tuple #[.agg #[.int .i64 1, .string (s.extract 0 n), .int .i64 0, .int .i64 0], .int .i64 (n : Int), .bool false]) ?_ rfl ⟨by simp, below4 (below_own HB.out) _ _ _ _⟩
      simp [results, Tryd.results72, go_sem, *]
    | true =>
      by_cases h1 : n < s.size ∧ s.get! n = 46
      · obtain ⟨h1, h2⟩ := h1
        have hb46 : ((((s[n]'h1).toNat : Nat) : Int) == 46) = true := by
          rw [get_eq s n h1] at h2
          exact eq46 h2
        obtain ⟨f, rfl⟩ : ∃ f', f = f' + 1 := ⟨f - 1, by have := HA.out.2.1; omega⟩
        have hRe := HA.out.1
        rw [lgB_on h1 h2] at hRe
        have htz : (s.extract (n + 1) s.size).size = s.size - (n + 1) := by rw [ByteArray.size_extract]; omega
        have hkz := spanB_le innerB (s.extract (n + 1) s.size)
        have c3 := fun w => span_inner (s.extract (n + 1) s.size) w (by omega)
        rw [htz] at hkz
        generalize spanB innerB (s.extract (n + 1) s.size) = k at hRe hkz c3
        have c4 := fun w (hT : Tabs w) => name_any ((s.extract (n + 1) s.size).extract 0 k) w (Nat.le_trans (ext_size_le _ _ _) (by omega)) hT
        have c5 := fun w => word_any ((s.extract (n + 1) s.size).extract 0 k) w
        have HRe := Aside0.mk hRe
        clear hRe h2 htz
        generalize nameP ((s.extract (n + 1) s.size).extract 0 k) = nb at c4 HRe
        generalize wordB ((s.extract (n + 1) s.size).extract 0 k) = wb at c5 HRe
        have h1z : (n : Int) < (s.size : Int) := by omega
        cases nb with
        | true =>
          go_wp2_with (first | (go_at_call 51; refine (c3 _).mono ?_; rintro e w1 ⟨rfl, hb1'⟩; have HB1 := Aside0.mk (below_then HB.out HB.out.size hb1'); clear hb1') | (go_at_call 60; refine (c4 _ (hT.below (below_own HB1.out))).mono ?_; rintro e w2 ⟨rfl, hb2'⟩; have HB2 := Aside0.mk (below_then HB1.out HB1.out.size hb2'); clear hb2') | (go_at_call 16; refine (c5 _).mono ?_; rintro e w3 ⟨rfl, hb3'⟩; have HB3 := Aside0.mk (below_then HB2.out HB2.out.size hb3'); clear hb3'))
          go_roundg (f + 1)
          case measure => omega
          case rel => exact ⟨f, n + 1 + k, _, rfl, by go_num, rfl, HB3, ⟨HRe.out, by have := HA.out.2.1; omega, by omega⟩⟩
        | false =>
          go_wp2_with (first | (go_at_call 51; refine (c3 _).mono ?_; rintro e w1 ⟨rfl, hb1'⟩; have HB1 := Aside0.mk (below_then HB.out HB.out.size hb1'); clear hb1') | (go_at_call 60; refine (c4 _ (hT.below (below_own HB1.out))).mono ?_; rintro e w2 ⟨rfl, hb2'⟩; have HB2 := Aside0.mk (below_then HB1.out HB1.out.size hb2'); clear hb2') | (go_at_call 16; refine (c5 _).mono ?_; rintro e w3 ⟨rfl, hb3'⟩; have HB3 := Aside0.mk (below_then HB2.out HB2.out.size hb3'); clear hb3'))
          go_roundg (f + 1)
          case measure => omega
          case rel => exact ⟨f, n + 1 + k, false, rfl, by go_num, rfl, HB2, ⟨HRe.out, by have := HA.out.2.1; omega, by omega⟩⟩
      · have hRe := HA.out.1
        have hst : lgB s f n true = (n, true) := by
          by_cases h3 : n < s.size
          · exact lgB_stop (fun h => h1 ⟨h3, h⟩)
          · exact lgB_end h3
        rw [hst] at hRe
        subst hRe
        obtain ⟨z0, z1, z2, z3, y0, y1, y2, y3, hz⟩ := own4 HB.out
        by_cases h4 : n ≤ 128
        · by_cases h3 : n < s.size
          · have hb46 : ((((s[n]'h3).toNat : Nat) : Int) == 46) = false := by
              have h := fun h => h1 ⟨h3, h⟩
              rw [get_eq s n h3] at h
              exact eq46f h
            clear h1
            go_wp2
            refine bodyPost_ret (v := .tuple #[.agg #[.int .i64 1, .string (s.extract 0 n), .int .i64 0, .int .i64 0], .int .i64 (n : Int), .bool true]) ?_ rfl ⟨by simp [h4], below4 (below_own HB.out) _ _ _ _⟩
            simp [results, Tryd.results72, go_sem, *]; omega
          · clear h1
            go_wp2
            refine bodyPost_ret (v := .tuple #[.agg #[.int .i64 1, .string (s.extract 0 n), .int .i64 0, .int .i64 0], .int .i64 (n : Int), .bool true]) ?_ rfl ⟨by simp [h4], below4 (below_own HB.out) _ _ _ _⟩
            simp [results, Tryd.results72, go_sem, *]; omega
        · by_cases h3 : n < s.size
          · have hb46 : ((((s[n]'h3).toNat : Nat) : Int) == 46) = false := by
              have h := fun h => h1 ⟨h3, h⟩
              rw [get_eq s n h3] at h
              exact eq46f h
            clear h1
            go_wp2
            refine bodyPost_ret (v := .tuple #[.agg #[.int .i64 1, .string (s.extract 0 n), .int .i64 0, .int .i64 0], .int .i64 (n : Int), .bool false]) ?_ rfl ⟨by simp [h4], below4 (below_own HB.out) _ _ _ _⟩
            simp [results, Tryd.results72, go_sem, *]; omega
          · clear h1
            go_wp2
            refine bodyPost_ret (v := .tuple #[.agg #[.int .i64 1, .string (s.extract 0 n), .int .i64 0, .int .i64 0], .int .i64 (n : Int), .bool false]) ?_ rfl ⟨by simp [h4], below4 (below_own HB.out) _ _ _ _⟩
            simp [results, Tryd.results72, go_sem, *]; omega
set_option maxRecDepth 100000 in
set_option maxHeartbeats 4000000 in
theorem long_nameC (s : ByteArray) (w : World) (hs : s.size ≤ 1000000) (hT : Tabs w) (hw : wordB (s.extract 0 (spanB innerB s)) = true) (hc : spanB innerB s < s.size ∧ s.get! (spanB innerB s) = 46) (nb : nameP (s.extract 0 (spanB innerB s)) = true) (R : Nat × Bool) (hR : lgB s s.size (spanB innerB s) (nameB (s.extract 0 (spanB innerB s))) = R) :
    Calls Tryd.prog 72 #[.string s] w fun e w' => e = .returned (.tuple #[.agg #[.int .i64 1, .string (s.extract 0 R.1), .int .i64 0, .int .i64 0], .int .i64 (R.1 : Int), .bool (R.2 && decide (R.1 ≤ 128))]) ∧ Below w.heap.size w w' := by
  have c1 := fun w => span_inner s w hs
  have c2 := fun w => word_any (s.extract 0 (spanB innerB s)) w
  have cn := fun w (hT : Tabs w) => name_any (s.extract 0 (spanB innerB s)) w (Nat.le_trans (ext_size_le _ _ _) hs) hT
  have hn := spanB_le innerB s
  unfold nameB at hR
  rw [hw] at c2 hR
  clear hw
  generalize spanB innerB s = n0 at *
  generalize nameP (s.extract 0 n0) = nb0 at *
  subst nb
  obtain ⟨he, hc46⟩ := hc
  have hne0 : ((s.size : Int) == (n0 : Int)) = false := by simp; omega
  have hb46z : ((((s[n0]'he).toNat : Nat) : Int) != 46) = false := by
    rw [get_eq s n0 he] at hc46
    have := eq46 hc46
    rw [beq_iff_eq] at this
    rw [this]
    rfl
  clear hc46
  go_enter Tryd.func72, Tryd.ntmps72
  go_wp2_with (first | (go_at_call 51; refine (c1 _).mono ?_; rintro e w1 ⟨rfl, hb1⟩) | (go_at_call 16; refine (c2 _).mono ?_; rintro e w2 ⟨rfl, hb2'⟩; have hb2 := below_then hb1 hb1.size hb2'; clear hb2') | (go_at_call 60; refine (cn _ (hT.below (below_own hb2))).mono ?_; rintro e w3 ⟨rfl, hb3'⟩; have hb3 := below_then hb2 hb2.size hb3'; clear hb3') | (go_at_call 16; refine (c2 _).mono ?_; rintro e w4 ⟨rfl, hb4'⟩; have hbk := below_then hb3 hb3.size hb4'; clear hb4'))
  go_loopg [5, 6] (s.size + 1) (fun gk v5 v6 wr => ∃ (f n : Nat) (ok : Bool), gk = f + 1 ∧ v5 = .int .i64 n ∧ v6 = .bool ok ∧ Aside0 (Below (w.alloc (.cells #[.int .i64 0, .string ⟨#[]⟩, .int .i64 0, .int .i64 0] 34)).heap.size (w.alloc (.cells #[.int .i64 0, .string ⟨#[]⟩, .int .i64 0, .int .i64 0] 34)) wr) ∧ Aside0 (lgB s f n ok = R ∧ s.size ≤ n + f ∧ n ≤ s.size))
  case atStart => exact ⟨s.size, n0, false, rfl, rfl, rfl, ⟨hbk⟩, ⟨hR, by omega, hn⟩⟩
  case round =>
    obtain ⟨f, n, ok, rfl, rfl, rfl, HB, HA⟩ := hrel
    have hnz := HA.out.2.2
    have hTr := Aside0.mk (hT.below ((below_own HB.out)))
    cases ok with
    | false =>
      have hRe := HA.out.1
      rw [lgB_off] at hRe
      subst hRe
      obtain ⟨z0, z1, z2, z3, y0, y1, y2, y3, hz⟩ := own4 HB.out
      go_wp2
      refine bodyPost_ret (v := .tuple #[.agg #[.int .i64 1, .string (s.extract 0 n), .int .i64 0, .int .i64 0], .int .i64 (n : Int), .bool false]) ?_ rfl ⟨by simp, below4 (below_own HB.out) _ _ _ _⟩
      simp [results, Tryd.results72, go_sem, *]
    | true =>
      by_cases h1 : n < s.size ∧ s.get! n = 46
      · obtain ⟨h1, h2⟩ := h1
        have hb46 : ((((s[n]'h1).toNat : Nat) : Int) == 46) = true := by
          rw [get_eq s n h1] at h2
          exact eq46 h2
        obtain ⟨f, rfl⟩ : ∃ f', f = f' + 1 := ⟨f - 1, by have := HA.out.2.1; omega⟩
        have hRe := HA.out.1
        rw [lgB_on h1 h2] at hRe
        have htz : (s.extract (n + 1) s.size).size = s.size - (n + 1) := by rw [ByteArray.size_extract]; omega
        have hkz := spanB_le innerB (s.extract (n + 1) s.size)
        have c3 := fun w => span_inner (s.extract (n + 1) s.size) w (by omega)
        rw [htz] at hkz
        generalize spanB innerB (s.extract (n + 1) s.size) = k at hRe hkz c3
        have c4 := fun w (hT : Tabs w) => name_any ((s.extract (n + 1) s.size).extract 0 k) w (Nat.le_trans (ext_size_le _ _ _) (by omega)) hT
        have c5 := fun w => word_any ((s.extract (n + 1) s.size).extract 0 k) w
        have HRe := Aside0.mk hRe
        clear hRe h2 htz
        generalize nameP ((s.extract (n + 1) s.size).extract 0 k) = nb at c4 HRe
        generalize wordB ((s.extract (n + 1) s.size).extract 0 k) = wb at c5 HRe
        have h1z : (n : Int) < (s.size : Int) := by omega
        cases nb with
        | true =>
          go_wp2_with (first | (go_at_call 51; refine (c3 _).mono ?_; rintro e w1 ⟨rfl, hb1'⟩; have HB1 := Aside0.mk (below_then HB.out HB.out.size hb1'); clear hb1') | (go_at_call 60; refine (c4 _ (hT.below (below_own HB1.out))).mono ?_; rintro e w2 ⟨rfl, hb2'⟩; have HB2 := Aside0.mk (below_then HB1.out HB1.out.size hb2'); clear hb2') | (go_at_call 16; refine (c5 _).mono ?_; rintro e w3 ⟨rfl, hb3'⟩; have HB3 := Aside0.mk (below_then HB2.out HB2.out.size hb3'); clear hb3'))
          go_roundg (f + 1)
          case measure => omega
          case rel => exact ⟨f, n + 1 + k, _, rfl, by go_num, rfl, HB3, ⟨HRe.out, by have := HA.out.2.1; omega, by omega⟩⟩
        | false =>
          go_wp2_with (first | (go_at_call 51; refine (c3 _).mono ?_; rintro e w1 ⟨rfl, hb1'⟩; have HB1 := Aside0.mk (below_then HB.out HB.out.size hb1'); clear hb1') | (go_at_call 60; refine (c4 _ (hT.below (below_own HB1.out))).mono ?_; rintro e w2 ⟨rfl, hb2'⟩; have HB2 := Aside0.mk (below_then HB1.out HB1.out.size hb2'); clear hb2') | (go_at_call 16; refine (c5 _).mono ?_; rintro e w3 ⟨rfl, hb3'⟩; have HB3 := Aside0.mk (below_then HB2.out HB2.out.size hb3'); clear hb3'))
          go_roundg (f + 1)
          case measure => omega
          case rel => exact ⟨f, n + 1 + k, false, rfl, by go_num, rfl, HB2, ⟨HRe.out, by have := HA.out.2.1; omega, by omega⟩⟩
      · have hRe := HA.out.1
        have hst : lgB s f n true = (n, true) := by
          by_cases h3 : n < s.size
          · exact lgB_stop (fun h => h1 ⟨h3, h⟩)
          · exact lgB_end h3
        rw [hst] at hRe
        subst hRe
        obtain ⟨z0, z1, z2, z3, y0, y1, y2, y3, hz⟩ := own4 HB.out
        by_cases h4 : n ≤ 128
        · by_cases h3 : n < s.size
          · have hb46 : ((((s[n]'h3).toNat : Nat) : Int) == 46) = false := by
              have h := fun h => h1 ⟨h3, h⟩
              rw [get_eq s n h3] at h
              exact eq46f h
            clear h1
            go_wp2
            refine bodyPost_ret (v := .tuple #[.agg #[.int .i64 1, .string (s.extract 0 n), .int .i64 0, .int .i64 0], .int .i64 (n : Int), .bool true]) ?_ rfl ⟨by simp [h4], below4 (below_own HB.out) _ _ _ _⟩
            simp [results, Tryd.results72, go_sem, *]; omega
          · clear h1
            go_wp2
            refine bodyPost_ret (v := .tuple #[.agg #[.int .i64 1, .string (s.extract 0 n), .int .i64 0, .int .i64 0], .int .i64 (n : Int), .bool true]) ?_ rfl ⟨by simp [h4], below4 (below_own HB.out) _ _ _ _⟩
            simp [results, Tryd.results72, go_sem, *]; omega
        · by_cases h3 : n < s.size
          · have hb46 : ((((s[n]'h3).toNat : Nat) : Int) == 46) = false := by
              have h := fun h => h1 ⟨h3, h⟩
              rw [get_eq s n h3] at h
              exact eq46f h
            clear h1
            go_wp2
            refine bodyPost_ret (v := .tuple #[.agg #[.int .i64 1, .string (s.extract 0 n), .int .i64 0, .int .i64 0], .int .i64 (n : Int), .bool false]) ?_ rfl ⟨by simp [h4], below4 (below_own HB.out) _ _ _ _⟩
            simp [results, Tryd.results72, go_sem, *]; omega
          · clear h1
            go_wp2
            refine bodyPost_ret (v := .tuple #[.agg #[.int .i64 1, .string (s.extract 0 n), .int .i64 0, .int .i64 0], .int .i64 (n : Int), .bool false]) ?_ rfl ⟨by simp [h4], below4 (below_own HB.out) _ _ _ _⟩
            simp [results, Tryd.results72, go_sem, *]; omega
set_option maxRecDepth 100000 in
set_option maxHeartbeats 4000000 in
theorem long_nameD (s : ByteArray) (w : World) (hs : s.size ≤ 1000000) (hT : Tabs w) (hw : wordB (s.extract 0 (spanB innerB s)) = true) (hc : spanB innerB s < s.size ∧ s.get! (spanB innerB s) = 46) (nb : nameP (s.extract 0 (spanB innerB s)) = false) (R : Nat × Bool) (hR : lgB s s.size (spanB innerB s) (nameB (s.extract 0 (spanB innerB s))) = R) :
    Calls Tryd.prog 72 #[.string s] w fun e w' => e = .returned (.tuple #[.agg #[.int .i64 1, .string (s.extract 0 R.1), .int .i64 0, .int .i64 0], .int .i64 (R.1 : Int), .bool (R.2 && decide (R.1 ≤ 128))]) ∧ Below w.heap.size w w' := by
  have c1 := fun w => span_inner s w hs
  have c2 := fun w => word_any (s.extract 0 (spanB innerB s)) w
  have cn := fun w (hT : Tabs w) => name_any (s.extract 0 (spanB innerB s)) w (Nat.le_trans (ext_size_le _ _ _) hs) hT
  have hn := spanB_le innerB s
  unfold nameB at hR
  rw [hw] at c2 hR
  clear hw
  generalize spanB innerB s = n0 at *
  generalize nameP (s.extract 0 n0) = nb0 at *
  subst nb
  obtain ⟨he, hc46⟩ := hc
  have hne0 : ((s.size : Int) == (n0 : Int)) = false := by simp; omega
  have hb46z : ((((s[n0]'he).toNat : Nat) : Int) != 46) = false := by
    rw [get_eq s n0 he] at hc46
    have := eq46 hc46
    rw [beq_iff_eq] at this
    rw [this]
    rfl
  clear hc46
  go_enter Tryd.func72, Tryd.ntmps72
  go_wp2_with (first | (go_at_call 51; refine (c1 _).mono ?_; rintro e w1 ⟨rfl, hb1⟩) | (go_at_call 16; refine (c2 _).mono ?_; rintro e w2 ⟨rfl, hb2'⟩; have hb2 := below_then hb1 hb1.size hb2'; clear hb2') | (go_at_call 60; refine (cn _ (hT.below (below_own hb2))).mono ?_; rintro e w3 ⟨rfl, hb3'⟩; have hbk := below_then hb2 hb2.size hb3'; clear hb3'))
  go_loopg [5, 6] (s.size + 1) (fun gk v5 v6 wr => ∃ (f n : Nat) (ok : Bool), gk = f + 1 ∧ v5 = .int .i64 n ∧ v6 = .bool ok ∧ Aside0 (Below (w.alloc (.cells #[.int .i64 0, .string ⟨#[]⟩, .int .i64 0, .int .i64 0] 34)).heap.size (w.alloc (.cells #[.int .i64 0, .string ⟨#[]⟩, .int .i64 0, .int .i64 0] 34)) wr) ∧ Aside0 (lgB s f n ok = R ∧ s.size ≤ n + f ∧ n ≤ s.size))
  case atStart => exact ⟨s.size, n0, false, rfl, rfl, rfl, ⟨hbk⟩, ⟨hR, by omega, hn⟩⟩
  case round =>
    obtain ⟨f, n, ok, rfl, rfl, rfl, HB, HA⟩ := hrel
    have hnz := HA.out.2.2
    have hTr := Aside0.mk (hT.below ((below_own HB.out)))
    cases ok with
    | false =>
      have hRe := HA.out.1
      rw [lgB_off] at hRe
      subst hRe
      obtain ⟨z0, z1, z2, z3, y0, y1, y2, y3, hz⟩ := own4 HB.out
      go_wp2
      refine bodyPost_ret (v := .tuple #[.agg #[.int .i64 1, .string (s.extract 0 n), .int .i64 0, .int .i64 0], .int .i64 (n : Int), .bool false]) ?_ rfl ⟨by simp, below4 (below_own HB.out) _ _ _ _⟩
      simp [results, Tryd.results72, go_sem, *]
    | true =>
      by_cases h1 : n < s.size ∧ s.get! n = 46
      · obtain ⟨h1, h2⟩ := h1
        have hb46 : ((((s[n]'h1).toNat : Nat) : Int) == 46) = true := by
          rw [get_eq s n h1] at h2
          exact eq46 h2
        obtain ⟨f, rfl⟩ : ∃ f', f = f' + 1 := ⟨f - 1, by have := HA.out.2.1; omega⟩
        have hRe := HA.out.1
        rw [lgB_on h1 h2] at hRe
        have htz : (s.extract (n + 1) s.size).size = s.size - (n + 1) := by rw [ByteArray.size_extract]; omega
        have hkz := spanB_le innerB (s.extract (n + 1) s.size)
        have c3 := fun w => span_inner (s.extract (n + 1) s.size) w (by omega)
        rw [htz] at hkz
        generalize spanB innerB (s.extract (n + 1) s.size) = k at hRe hkz c3
        have c4 := fun w (hT : Tabs w) => name_any ((s.extract (n + 1) s.size).extract 0 k) w (Nat.le_trans (ext_size_le _ _ _) (by omega)) hT
        have c5 := fun w => word_any ((s.extract (n + 1) s.size).extract 0 k) w
        have HRe := Aside0.mk hRe
        clear hRe h2 htz
        generalize nameP ((s.extract (n + 1) s.size).extract 0 k) = nb at c4 HRe
        generalize wordB ((s.extract (n + 1) s.size).extract 0 k) = wb at c5 HRe
        have h1z : (n : Int) < (s.size : Int) := by omega
        cases nb with
        | true =>
          go_wp2_with (first | (go_at_call 51; refine (c3 _).mono ?_; rintro e w1 ⟨rfl, hb1'⟩; have HB1 := Aside0.mk (below_then HB.out HB.out.size hb1'); clear hb1') | (go_at_call 60; refine (c4 _ (hT.below (below_own HB1.out))).mono ?_; rintro e w2 ⟨rfl, hb2'⟩; have HB2 := Aside0.mk (below_then HB1.out HB1.out.size hb2'); clear hb2') | (go_at_call 16; refine (c5 _).mono ?_; rintro e w3 ⟨rfl, hb3'⟩; have HB3 := Aside0.mk (below_then HB2.out HB2.out.size hb3'); clear hb3'))
          go_roundg (f + 1)
          case measure => omega
          case rel => exact ⟨f, n + 1 + k, _, rfl, by go_num, rfl, HB3, ⟨HRe.out, by have := HA.out.2.1; omega, by omega⟩⟩
        | false =>
          go_wp2_with (first | (go_at_call 51; refine (c3 _).mono ?_; rintro e w1 ⟨rfl, hb1'⟩; have HB1 := Aside0.mk (below_then HB.out HB.out.size hb1'); clear hb1') | (go_at_call 60; refine (c4 _ (hT.below (below_own HB1.out))).mono ?_; rintro e w2 ⟨rfl, hb2'⟩; have HB2 := Aside0.mk (below_then HB1.out HB1.out.size hb2'); clear hb2') | (go_at_call 16; refine (c5 _).mono ?_; rintro e w3 ⟨rfl, hb3'⟩; have HB3 := Aside0.mk (below_then HB2.out HB2.out.size hb3'); clear hb3'))
          go_roundg (f + 1)
          case measure => omega
          case rel => exact ⟨f, n + 1 + k, false, rfl, by go_num, rfl, HB2, ⟨HRe.out, by have := HA.out.2.1; omega, by omega⟩⟩
      · have hRe := HA.out.1
        have hst : lgB s f n true = (n, true) := by
          by_cases h3 : n < s.size
          · exact lgB_stop (fun h => h1 ⟨h3, h⟩)
          · exact lgB_end h3
        rw [hst] at hRe
        subst hRe
        obtain ⟨z0, z1, z2, z3, y0, y1, y2, y3, hz⟩ := own4 HB.out
        by_cases h4 : n ≤ 128
        · by_cases h3 : n < s.size
          · have hb46 : ((((s[n]'h3).toNat : Nat) : Int) == 46) = false := by
              have h := fun h => h1 ⟨h3, h⟩
              rw [get_eq s n h3] at h
              exact eq46f h
            clear h1
            go_wp2
            refine bodyPost_ret (v := .tuple #[.agg #[.int .i64 1, .string (s.extract 0 n), .int .i64 0, .int .i64 0], .int .i64 (n : Int), .bool true]) ?_ rfl ⟨by simp [h4], below4 (below_own HB.out) _ _ _ _⟩
            simp [results, Tryd.results72, go_sem, *]; omega
          · clear h1
            go_wp2
            refine bodyPost_ret (v := .tuple #[.agg #[.int .i64 1, .string (s.extract 0 n), .int .i64 0, .int .i64 0], .int .i64 (n : Int), .bool true]) ?_ rfl ⟨by simp [h4], below4 (below_own HB.out) _ _ _ _⟩
            simp [results, Tryd.results72, go_sem, *]; omega
        · by_cases h3 : n < s.size
          · have hb46 : ((((s[n]'h3).toNat : Nat) : Int) == 46) = false := by
              have h := fun h => h1 ⟨h3, h⟩
              rw [get_eq s n h3] at h
              exact eq46f h
            clear h1
            go_wp2
            refine bodyPost_ret (v := .tuple #[.agg #[.int .i64 1, .string (s.extract 0 n), .int .i64 0, .int .i64 0], .int .i64 (n : Int), .bool false]) ?_ rfl ⟨by simp [h4], below4 (below_own HB.out) _ _ _ _⟩
            simp [results, Tryd.results72, go_sem, *]; omega
          · clear h1
            go_wp2
            refine bodyPost_ret (v := .tuple #[.agg #[.int .i64 1, .string (s.extract 0 n), .int .i64 0, .int .i64 0], .int .i64 (n : Int), .bool false]) ?_ rfl ⟨by simp [h4], below4 (below_own HB.out) _ _ _ _⟩
            simp [results, Tryd.results72, go_sem, *]; omega
theorem long_any (s : ByteArray) (w : World) (hs : s.size ≤ 1000000) (hT : Tabs w) :
    Calls Tryd.prog 72 #[.string s] w fun e w' => e = .returned (.tuple #[tokV (longB s).1, .int .i64 ((longB s).2.1 : Nat), .bool (longB s).2.2]) ∧ Below w.heap.size w w' := by
  unfold longB
  by_cases hc : wordB (s.extract 0 (spanB innerB s)) = true ∧ (s.size = spanB innerB s ∨ ¬ s.get! (spanB innerB s) = 46)
  · rw [if_pos hc]
    exact long_key s w hs hc.1 hc.2
  · rw [if_neg hc]
    cases hw : wordB (s.extract 0 (spanB innerB s)) with
    | false =>
      cases nb : nameP (s.extract 0 (spanB innerB s)) with
      | true => exact long_nameA s w hs hT hw nb _ rfl
      | false => exact long_nameB s w hs hT hw nb _ rfl
    | true =>
      have h : spanB innerB s < s.size ∧ s.get! (spanB innerB s) = 46 := by
        have h1 := fun h => hc ⟨hw, h⟩
        have h2 := spanB_le innerB s
        refine ⟨?_, ?_⟩
        · rcases Nat.lt_or_ge (spanB innerB s) s.size with h3 | h3
          · exact h3
          · exact absurd (Or.inl (by omega)) h1
        · exact Decidable.byContradiction fun h3 => h1 (Or.inr h3)
      cases nb : nameP (s.extract 0 (spanB innerB s)) with
      | true => exact long_nameC s w hs hT hw h nb _ rfl
      | false => exact long_nameD s w hs hT hw h nb _ rfl
end Go.Proofs.YtdeingogdblddaaDoor.RW
namespace Go.Proofs.YtdeingogdblddaaDoor.RP
set_option linter.unusedVariables false
set_option linter.unusedSimpArgs false
open Go.RowKit Go.Lib Go.Proofs.YtdeingogdblddaaDoorW.PrintWords Go.Proofs.YtdeingogdblddaaDoorW.PrintLast Go.Proofs.YtdeingogdblddaaDoorW.PrintMore Go.Proofs.YtdeingogdblddaaDoor.PAll
theorem rev_step (A M B : List Int) (a b : Int) :
    (((A ++ (a :: (M ++ [b])) ++ B).set A.length b).set (A.length + M.length + 1) a) = (A ++ [b]) ++ M ++ (a :: B) := by
  rw [List.append_assoc, List.set_append_right _ _ (Nat.le_refl _), Nat.sub_self]
  rw [List.set_append_right _ _ (by omega)]
  have e : A.length + M.length + 1 - A.length = M.length + 1 := by omega
  rw [e]
  simp only [List.cons_append, List.set_cons_zero, List.set_cons_succ, List.append_assoc, List.nil_append, List.singleton_append]
  rw [List.set_append_right _ _ (Nat.le_refl _), Nat.sub_self]
  simp
theorem rev_l0 : ∀ (d : Nat) (A M B : List Int) (k : Nat), A.length = B.length → M.length ≤ d → d + 1 ≤ k → A.length + M.length ≤ 1000000 →
    slices_Reverse_byte_byte.l0 k (A ++ M ++ B) (A.length : Int) (((A.length : Int) + (M.length : Int)) - 1) = some (A ++ M.reverse ++ B) := by
  intro d
  induction d with
  | zero =>
    intro A M B k h h1 h2 h3
    obtain ⟨k, rfl⟩ : ∃ m, k = m + 1 := ⟨k - 1, by omega⟩
    have e : M = [] := List.eq_nil_of_length_eq_zero (by omega)
    subst e
    simp only [slices_Reverse_byte_byte.l0]
    rw [if_neg (by simp; omega)]
    rfl
  | succ d ih =>
    intro A M B k h h1 h2 h3
    obtain ⟨k, rfl⟩ : ∃ m, k = m + 1 := ⟨k - 1, by omega⟩
    simp only [slices_Reverse_byte_byte.l0]
    cases M with
    | nil => rw [if_neg (by simp; omega)]; rfl
    | cons a T =>
      rcases List.eq_nil_or_concat T with rfl | ⟨M, b, rfl⟩
      · rw [if_neg (by simp)]; rfl
      · simp only [List.length_cons, List.length_append, List.length_nil, List.concat_eq_append] at h1 h3 ⊢
        have e1 : ((A.length : Int) + ((M.length + (0 + 1) + 1 : Nat) : Int) - 1) = ((A.length + M.length + 1 : Nat) : Int) := by omega
        rw [e1, if_pos (by omega), if_pos (by omega), if_pos (by omega), if_pos (by omega), if_pos (by omega)]
        have r1 : rd (A ++ a :: (M ++ [b]) ++ B) ((A.length + M.length + 1 : Nat) : Int) = b := by
          unfold rd
          rw [Int.toNat_natCast, List.append_assoc, List.getD_eq_getElem?_getD, List.getElem?_append_right (by omega)]
          have e : A.length + M.length + 1 - A.length = M.length + 1 := by omega
          rw [e]
          simp
        have r2 : rd (A ++ a :: (M ++ [b]) ++ B) (A.length : Int) = a := by
          unfold rd
          rw [Int.toNat_natCast, List.append_assoc, List.getD_eq_getElem?_getD, List.getElem?_append_right (by omega), Nat.sub_self]
          simp
        rw [r1, r2, Int.toNat_natCast, Int.toNat_natCast, rev_step, w64s _ (by omega)]
        have e2 : wrap64 (((A.length + M.length + 1 : Nat) : Int) - 1) = ((A ++ [b]).length : Int) + (M.length : Int) - 1 := by
          rw [w64 (by omega) (by omega), List.length_append]; simp; omega
        have e3 : ((A.length + 1 : Nat) : Int) = ((A ++ [b]).length : Int) := by rw [List.length_append]; simp
        rw [e2, e3, ih (A ++ [b]) M (a :: B) k (by simp [h]) (by omega) (by omega) (by simp; omega)]
        simp
theorem rev_eq (l : List Int) (k : Nat) (hk : l.length + 1 ≤ k) (hl : l.length ≤ 1000000) : slices_Reverse_byte_byte.f k l = some l.reverse := by
  unfold slices_Reverse_byte_byte.f
  have h := rev_l0 l.length [] l [] k rfl (Nat.le_refl _) hk (by simpa using hl)
  rw [w64 (by omega) (by omega)]
  simp only [List.nil_append, List.append_nil, List.length_nil] at h
  have e : (((0 : Nat) : Int) + (l.length : Int) - 1) = (l.length : Int) - 1 := by omega
  rw [e] at h
  exact h
/-- The digits of a number, the last one first. -/
def digL : Nat → Nat → List Int
  | 0, _ => []
  | f + 1, m => (48 + ((m % 10 : Nat) : Int)) :: if m / 10 = 0 then [] else digL f (m / 10)
def signP (n : Int) : ByteArray := if n < 0 then ⟨#[126]⟩ else ⟨#[]⟩
def numP (n : Int) : ByteArray := signP n ++ strOfNums (digL 20 n.natAbs).reverse
theorem u64_id {n : Int} (h0 : 0 ≤ n) (h1 : n < 18446744073709551616) : IntKind.u64.wrap n = n := by rw [IntKind.wrap_u64]; omega
theorem number_l0 (sg : ByteArray) (hsg : sg.size ≤ 1) : ∀ (f m : Nat) (acc : List Int) (k : Nat), m < 10 ^ f → 1 ≤ f → f ≤ 20 → acc.length + f ≤ 100 → f + 110 ≤ k → m < 18446744073709551616 →
    lexer_Number.l0 k (m : Int) sg acc true = some (sg ++ strOfNums (acc ++ digL f m).reverse) := by
  intro f
  induction f with
  | zero => intro m acc k _ h; omega
  | succ f ih =>
    intro m acc k h1 h2 h2' h3 hk hm
    obtain ⟨k, rfl⟩ : ∃ j, k = j + 1 := ⟨k - 1, by omega⟩
    have ed : Int.tdiv (m : Int) 10 = ((m / 10 : Nat) : Int) := by
      rw [Int.tdiv_eq_ediv_of_nonneg (by omega)]; omega
    have em : Int.tmod (m : Int) 10 = ((m % 10 : Nat) : Int) := by
      rw [Int.tmod_eq_emod_of_nonneg (by omega)]; omega
    simp only [lexer_Number.l0]
    rw [if_pos trivial, if_pos (by omega), ed, em, u64_id (by omega) (by omega), u64_id (by omega) (by omega)]
    have e2 : (48 + ((m % 10 : Nat) : Int)) % 256 = 48 + ((m % 10 : Nat) : Int) := by omega
    rw [e2]
    by_cases h : m / 10 = 0
    · rw [h]
      obtain ⟨k, rfl⟩ : ∃ j, k = j + 1 := ⟨k - 1, by omega⟩
      have e0 : decide (((0 : Nat) : Int) > 0) = false := rfl
      simp only [lexer_Number.l0, e0]
      rw [if_neg (by simp), rev_eq _ k (by simp; omega) (by simp; omega)]
      simp only [Option.bind_some]
      have e3 : digL (f + 1) m = [48 + ((m % 10 : Nat) : Int)] := by unfold digL; rw [if_pos h]
      rw [e3, if_pos]
      rw [strOfNums_size]
      simp
      omega
    · have e0 : decide (((m / 10 : Nat) : Int) > 0) = true := decide_eq_true (by omega)
      rw [e0]
      have hf : 1 ≤ f := by
        cases f with
        | zero => omega
        | succ f => omega
      rw [ih (m / 10) (acc ++ [48 + ((m % 10 : Nat) : Int)]) k (by rw [Nat.pow_succ] at h1; omega) hf (by omega) (by simp; omega) (by omega) (by omega)]
      have e3 : digL (f + 1) m = (48 + ((m % 10 : Nat) : Int)) :: digL f (m / 10) := by unfold digL; rw [if_neg h]; cases f <;> rfl
      rw [e3]
      simp
theorem number_eq (n : Int) (h0 : -9223372036854775808 ≤ n) (h1 : n ≤ 9223372036854775807) : lexer_Number.f 200 n = some (numP n) := by
  unfold lexer_Number.f numP signP
  by_cases hn : n < 0
  · rw [if_pos hn, if_pos hn]
    have e : IntKind.u64.wrap (-(IntKind.u64.wrap n)) = ((n.natAbs : Nat) : Int) := by
      rw [IntKind.wrap_u64, IntKind.wrap_u64]; omega
    rw [e]
    simp only [lexer_Number.j0]
    rw [number_l0 _ (by decide) 20 n.natAbs [] _ (Nat.lt_of_lt_of_le (show n.natAbs < 100000000000000000000 by omega) (by decide)) (by omega) (by omega) (by simp) (by omega) (by omega)]
    rfl
  · rw [if_neg hn, if_neg hn]
    have e : IntKind.u64.wrap n = ((n.natAbs : Nat) : Int) := by rw [IntKind.wrap_u64]; omega
    rw [e]
    simp only [lexer_Number.j0]
    rw [number_l0 _ (by decide) 20 n.natAbs [] _ (Nat.lt_of_lt_of_le (show n.natAbs < 100000000000000000000 by omega) (by decide)) (by omega) (by omega) (by simp) (by omega) (by omega)]
    rfl
end Go.Proofs.YtdeingogdblddaaDoor.RP
namespace Go.Proofs.YtdeingogdblddaaDoor.RW
set_option linter.unusedVariables false
set_option linter.unusedSimpArgs false
open Go.RowKit Go.Lib Go.Proofs.YtdeingogdblddaaDoorW.PrintWords Go.Proofs.YtdeingogdblddaaDoorW.PrintLast Go.Proofs.YtdeingogdblddaaDoorW.PrintMore Go.Proofs.YtdeingogdblddaaDoor.RP Go.Proofs.YtdeingogdblddaaDoor.PAll
theorem numlit_any (n : Int) (h0 : -9223372036854775808 ≤ n) (h1 : n ≤ 9223372036854775807) (w : World) : Calls Tryd.prog 23 #[.int .i64 n] w fun e w' => e = .returned (.string (numP n)) ∧ Below w.heap.size w w' :=
  lexer_Number.calls 200 n _ w (number_eq n h0 h1)
def nvS (s : ByteArray) (pos : Nat) (v : Int) : Int := wrap64 (wrap64 (10 * v) + wrap64 (wrap32 (((Utf8.decode s pos).1 : Int) - 48)))
/-- lexer.number's loop: none, where the number is too big. -/
def nvB (s : ByteArray) : Nat → Nat → Int → Option Int
  | 0, _, v => some v
  | f + 1, pos, v => if pos < s.size then (if 1073741824 < nvS s pos v then none else nvB s f (pos + (Utf8.decode s pos).2) (nvS s pos v)) else some v
theorem nvB_big {s : ByteArray} {f pos : Nat} {v : Int} (h : pos < s.size) (h1 : 1073741824 < nvS s pos v) : nvB s (f + 1) pos v = none := by rw [nvB, if_pos h, if_pos h1]
theorem nvB_on {s : ByteArray} {f pos : Nat} {v : Int} (h : pos < s.size) (h1 : ¬ 1073741824 < nvS s pos v) : nvB s (f + 1) pos v = nvB s f (pos + (Utf8.decode s pos).2) (nvS s pos v) := by rw [nvB, if_pos h, if_neg h1]
theorem nvB_end {s : ByteArray} {f pos : Nat} {v : Int} (h : ¬ pos < s.size) : nvB s f pos v = some v := by cases f <;> simp [nvB, h]
theorem w64_range (x : Int) : -9223372036854775808 ≤ wrap64 x ∧ wrap64 x ≤ 9223372036854775807 := by unfold wrap64; omega
theorem nvS_range (s : ByteArray) (pos : Nat) (v : Int) : -9223372036854775808 ≤ nvS s pos v ∧ nvS s pos v ≤ 9223372036854775807 := w64_range _
theorem le_own {w w1 : World} {o : Obj} (hb : Below (w.alloc o).heap.size (w.alloc o) w1) : (w.alloc o).heap.size ≤ w1.heap.size := hb.size
def zeroTk : Tk := ⟨0, ⟨#[]⟩, 0, 0⟩
def sgnV (neg : Bool) (v : Int) : Int := if neg = true then wrap64 (-v) else v
def numR (n : Nat) (neg : Bool) : Option Int → Tk × Nat × Bool
  | none => (zeroTk, 0, false)
  | some v => (⟨2, numP (sgnV neg v), sgnV neg v, 0⟩, n, true)
def tkR (r : Tk × Nat × Bool) : Value := .tuple #[tokV r.1, .int .i64 (r.2.1 : Nat), .bool r.2.2]
theorem eq126 {c : UInt8} (h : c = 126) : (((c.toNat : Nat) : Int) == 126) = true := by subst h; rfl
theorem eq126f {c : UInt8} (h : ¬ c = 126) : (((c.toNat : Nat) : Int) == 126) = false := by
  refine beq_eq_false_iff_ne.2 fun e => h ?_
  apply UInt8.toNat_inj.1
  show c.toNat = 126
  omega
theorem ext_whole (s : ByteArray) : s.extract 0 s.size = s := by simp
set_option maxRecDepth 100000 in
set_option maxHeartbeats 4000000 in
theorem number_none0 (s : ByteArray) (w : World) (hs : s.size ≤ 1000000) (h0 : 0 < s.size) (h1 : ¬ s.get! 0 = 126) (hk : spanB digB s = 0) :
    Calls Tryd.prog 73 #[.string s] w fun e w' => e = .returned (.tuple #[tokV zeroTk, .int .i64 0, .bool false]) ∧ Below w.heap.size w w' := by
  have c1 := fun w => span_dig s w hs
  rw [hk] at c1
  have hb : ((((s[0]'h0).toNat : Nat) : Int) == 126) = false := by
    rw [get_eq s 0 h0] at h1
    exact eq126f h1
  clear h1
  go_enter Tryd.func73, Tryd.ntmps73
  go_wp2_with (first | (go_at_call 51; refine (c1 _).mono ?_; rintro e w1 ⟨rfl, hb1⟩; obtain ⟨z0, z1, z2, z3, y0, y1, y2, y3, hz⟩ := own4 hb1))
  refine bodyPost_ret (v := .tuple #[.agg #[.int .i64 0, .string ⟨#[]⟩, .int .i64 0, .int .i64 0], .int .i64 0, .bool false]) ?_ rfl ⟨rfl, below4 (below_own hb1) _ _ _ _⟩
  simp [results, Tryd.results73, go_sem, *]
set_option maxRecDepth 100000 in
set_option maxHeartbeats 4000000 in
theorem number_bad0 (s : ByteArray) (w : World) (hs : s.size ≤ 1000000) (h0 : 0 < s.size) (h1 : ¬ s.get! 0 = 126) (k m : Nat) (hk : spanB digB s = k) (hk0 : 0 < k) (hm : spanB innerB (s.extract k s.size) = m) (hm0 : 0 < m) :
    Calls Tryd.prog 73 #[.string s] w fun e w' => e = .returned (.tuple #[tokV zeroTk, .int .i64 0, .bool false]) ∧ Below w.heap.size w w' := by
  have c1 := fun w => span_dig s w hs
  have hkz := spanB_le digB s
  rw [hk] at c1 hkz
  have c2 := fun w => span_inner (s.extract k s.size) w (Nat.le_trans (ext_size_le _ _ _) hs)
  rw [hm] at c2
  have hb : ((((s[0]'h0).toNat : Nat) : Int) == 126) = false := by
    rw [get_eq s 0 h0] at h1
    exact eq126f h1
  clear h1
  go_enter Tryd.func73, Tryd.ntmps73
  go_wp2_with (first | (go_at_call 51; refine (c1 _).mono ?_; rintro e w1 ⟨rfl, hb1⟩; clear c1) | (go_at_call 51; refine (c2 _).mono ?_; rintro e w2 ⟨rfl, hb2'⟩; have hb2 := below_then hb1 hb1.size hb2'; clear hb2'; obtain ⟨z0, z1, z2, z3, y0, y1, y2, y3, hz⟩ := own4 hb2))
  refine bodyPost_ret (v := .tuple #[.agg #[.int .i64 0, .string ⟨#[]⟩, .int .i64 0, .int .i64 0], .int .i64 0, .bool false]) ?_ rfl ⟨rfl, below4 (below_own hb2) _ _ _ _⟩
  simp [results, Tryd.results73, go_sem, *]
set_option maxRecDepth 100000 in
set_option maxHeartbeats 4000000 in
theorem number_all0 (s : ByteArray) (w : World) (hs : s.size ≤ 1000000) (h0 : 0 < s.size) (h1 : ¬ s.get! 0 = 126) (k : Nat) (hk : spanB digB s = k) (hk0 : 0 < k) (hm : spanB innerB (s.extract k s.size) = 0) (R : Option Int) (hR : nvB (s.extract 0 k) k 0 0 = R) :
    Calls Tryd.prog 73 #[.string s] w fun e w' => e = .returned (tkR (numR k false R)) ∧ Below w.heap.size w w' := by
  have c1 := fun w => span_dig s w hs
  have hkz := spanB_le digB s
  rw [hk] at c1 hkz
  have c2 := fun w => span_inner (s.extract k s.size) w (Nat.le_trans (ext_size_le _ _ _) hs)
  rw [hm] at c2
  have hb : ((((s[0]'h0).toNat : Nat) : Int) == 126) = false := by
    rw [get_eq s 0 h0] at h1
    exact eq126f h1
  clear h1
  clear hk hm
  have htk : (s.extract 0 k).size = k := by rw [ByteArray.size_extract]; omega
  have hk1 : ((k : Int) == 0) = false := by simp; omega
  go_enter Tryd.func73, Tryd.ntmps73
  go_wp2_with (first | (go_at_call 51; refine (c1 _).mono ?_; rintro e w1 ⟨rfl, hb1⟩; clear c1) | (go_at_call 51; refine (c2 _).mono ?_; rintro e w2 ⟨rfl, hb2'⟩; have hbk := below_then hb1 hb1.size hb2'; clear hb2'))
  generalize hu : (s.extract 0 k) = u at *
  go_loopg [7, 9] (k + 1) (fun gk v7 v9 wr => ∃ (f pos : Nat) (v : Int), gk = f + 1 ∧ v7 = .int .i64 v ∧ Aside0 (Below (w.alloc (.cells #[.int .i64 0, .string ⟨#[]⟩, .int .i64 0, .int .i64 0] 34)).heap.size (w.alloc (.cells #[.int .i64 0, .string ⟨#[]⟩, .int .i64 0, .int .i64 0] 34)) wr) ∧ Aside0 (wr.heap[w2.heap.size]? = some (.stringIter u pos)) ∧ Aside0 (nvB u f pos v = R ∧ k ≤ pos + f ∧ -9223372036854775808 ≤ v ∧ v ≤ 9223372036854775807))
  case atStart => exact ⟨k, 0, 0, rfl, rfl, ⟨below_iter hbk _ _⟩, ⟨iter_new u 0⟩, ⟨hR, by omega, by omega, by omega⟩⟩
  case round =>
    obtain ⟨f, pos, v, rfl, rfl, HB, HI, HA⟩ := hrel
    by_cases hp : pos < u.size
    · obtain ⟨W2, hnx, hm, hi, hz, hb2⟩ := iter_step (P := Tryd.prog) HI.out hp (le_own hbk) HB.out
      have HB2 := Aside0.mk hb2
      have HI2 := Aside0.mk hi
      clear hm hi hz hb2 HI HB
      have hwd := width_pos u pos
      obtain ⟨f, rfl⟩ : ∃ f', f = f' + 1 := ⟨f - 1, by have := HA.out.2; omega⟩
      by_cases hbig : 1073741824 < nvS u pos v
      · have hE := (nvB_big hp hbig).symm.trans HA.out.1
        subst hE
        unfold nvS at hbig
        obtain ⟨z0, z1, z2, z3, y0, y1, y2, y3, hz⟩ := own4 HB2.out
        go_wp2
        refine bodyPost_ret (v := .tuple #[.agg #[.int .i64 0, .string ⟨#[]⟩, .int .i64 0, .int .i64 0], .int .i64 0, .bool false]) ?_ rfl ⟨rfl, below4 (below_own HB2.out) _ _ _ _⟩
        simp [results, Tryd.results73, go_sem, *]
      · have HN := Aside0.mk hbig
        unfold nvS at hbig
        go_wp2
        go_roundg (f + 1)
        case measure => omega
        case rel => exact ⟨f, pos + (Utf8.decode u pos).2, nvS u pos v, rfl, rfl, HB2, HI2, ⟨(nvB_on hp (Int.not_lt.2 HN.out)).symm.trans HA.out.1, by have := HA.out.2; omega, (nvS_range u pos v).1, (nvS_range u pos v).2⟩⟩
    · have hnx : ∀ ty, (Instr.next (.pointer (some ⟨w2.heap.size, 0, none⟩)) true ty).run Tryd.prog wr = _ := fun ty => run_next_end_at wr _ u pos ty HI.out hp
      have hE := (nvB_end hp).symm.trans HA.out.1
      subst hE
      have c3 := fun w => numlit_any v HA.out.2.2.1 HA.out.2.2.2 w
      go_wp2_with (go_at_call 23; refine (c3 _).mono ?_; rintro e w3 ⟨rfl, hb3'⟩; have hb3 := below_then HB.out HB.out.size hb3'; clear hb3'; obtain ⟨z0, z1, z2, z3, y0, y1, y2, y3, hz⟩ := own4 hb3)
      refine bodyPost_ret (v := .tuple #[.agg #[.int .i64 2, .string (numP v), .int .i64 v, .int .i64 0], .int .i64 (k : Nat), .bool true]) ?_ rfl ⟨rfl, below4 (below_own hb3) _ _ _ _⟩
      simp [results, Tryd.results73, go_sem, *]
set_option maxRecDepth 100000 in
set_option maxHeartbeats 4000000 in
theorem number_none1 (s : ByteArray) (w : World) (hs : s.size ≤ 1000000) (h0 : 0 < s.size) (h1 : s.get! 0 = 126) (hk : spanB digB (s.extract 1 s.size) = 0) :
    Calls Tryd.prog 73 #[.string s] w fun e w' => e = .returned (.tuple #[tokV zeroTk, .int .i64 0, .bool false]) ∧ Below w.heap.size w w' := by
  have c1 := fun w => span_dig (s.extract 1 s.size) w (Nat.le_trans (ext_size_le _ _ _) hs)
  rw [hk] at c1
  have hb : ((((s[0]'h0).toNat : Nat) : Int) == 126) = true := by
    rw [get_eq s 0 h0] at h1
    exact eq126 h1
  clear h1
  have htz : (s.extract 1 s.size).size = s.size - 1 := by rw [ByteArray.size_extract]; omega
  go_enter Tryd.func73, Tryd.ntmps73
  go_wp2_with (first | (go_at_call 51; refine (c1 _).mono ?_; rintro e w1 ⟨rfl, hb1⟩; obtain ⟨z0, z1, z2, z3, y0, y1, y2, y3, hz⟩ := own4 hb1))
  refine bodyPost_ret (v := .tuple #[.agg #[.int .i64 0, .string ⟨#[]⟩, .int .i64 0, .int .i64 0], .int .i64 0, .bool false]) ?_ rfl ⟨rfl, below4 (below_own hb1) _ _ _ _⟩
  simp [results, Tryd.results73, go_sem, *]
set_option maxRecDepth 100000 in
set_option maxHeartbeats 4000000 in
theorem number_bad1 (s : ByteArray) (w : World) (hs : s.size ≤ 1000000) (h0 : 0 < s.size) (h1 : s.get! 0 = 126) (k m : Nat) (hk : spanB digB (s.extract 1 s.size) = k) (hk0 : 0 < k) (hm : spanB innerB (s.extract (1 + k) s.size) = m) (hm0 : 0 < m) :
    Calls Tryd.prog 73 #[.string s] w fun e w' => e = .returned (.tuple #[tokV zeroTk, .int .i64 0, .bool false]) ∧ Below w.heap.size w w' := by
  have c1 := fun w => span_dig (s.extract 1 s.size) w (Nat.le_trans (ext_size_le _ _ _) hs)
  have hkz := spanB_le digB (s.extract 1 s.size)
  rw [hk] at c1 hkz
  have c2 := fun w => span_inner (s.extract (1 + k) s.size) w (Nat.le_trans (ext_size_le _ _ _) hs)
  rw [hm] at c2
  have hb : ((((s[0]'h0).toNat : Nat) : Int) == 126) = true := by
    rw [get_eq s 0 h0] at h1
    exact eq126 h1
  clear h1
  have htz : (s.extract 1 s.size).size = s.size - 1 := by rw [ByteArray.size_extract]; omega
  rw [htz] at hkz
  go_enter Tryd.func73, Tryd.ntmps73
  go_wp2_with (first | (go_at_call 51; refine (c1 _).mono ?_; rintro e w1 ⟨rfl, hb1⟩; clear c1) | (go_at_call 51; refine (c2 _).mono ?_; rintro e w2 ⟨rfl, hb2'⟩; have hb2 := below_then hb1 hb1.size hb2'; clear hb2'; obtain ⟨z0, z1, z2, z3, y0, y1, y2, y3, hz⟩ := own4 hb2))
  refine bodyPost_ret (v := .tuple #[.agg #[.int .i64 0, .string ⟨#[]⟩, .int .i64 0, .int .i64 0], .int .i64 0, .bool false]) ?_ rfl ⟨rfl, below4 (below_own hb2) _ _ _ _⟩
  simp [results, Tryd.results73, go_sem, *]
set_option maxRecDepth 100000 in
set_option maxHeartbeats 4000000 in
theorem number_all1 (s : ByteArray) (w : World) (hs : s.size ≤ 1000000) (h0 : 0 < s.size) (h1 : s.get! 0 = 126) (k : Nat) (hk : spanB digB (s.extract 1 s.size) = k) (hk0 : 0 < k) (hm : spanB innerB (s.extract (1 + k) s.size) = 0) (R : Option Int) (hR : nvB (s.extract 1 (1 + k)) k 0 0 = R) :
    Calls Tryd.prog 73 #[.string s] w fun e w' => e = .returned (tkR (numR (1 + k) true R)) ∧ Below w.heap.size w w' := by
  have c1 := fun w => span_dig (s.extract 1 s.size) w (Nat.le_trans (ext_size_le _ _ _) hs)
  have hkz := spanB_le digB (s.extract 1 s.size)
  rw [hk] at c1 hkz
  have c2 := fun w => span_inner (s.extract (1 + k) s.size) w (Nat.le_trans (ext_size_le _ _ _) hs)
  rw [hm] at c2
  have hb : ((((s[0]'h0).toNat : Nat) : Int) == 126) = true := by
    rw [get_eq s 0 h0] at h1
    exact eq126 h1
  clear h1
  have htz : (s.extract 1 s.size).size = s.size - 1 := by rw [ByteArray.size_extract]; omega
  rw [htz] at hkz
  clear hk hm
  have htk : (s.extract 1 (1 + k)).size = k := by rw [ByteArray.size_extract]; omega
  have hk1 : ((1 : Int) + (k : Int) == 1) = false := by simp; omega
  go_enter Tryd.func73, Tryd.ntmps73
  go_wp2_with (first | (go_at_call 51; refine (c1 _).mono ?_; rintro e w1 ⟨rfl, hb1⟩; clear c1) | (go_at_call 51; refine (c2 _).mono ?_; rintro e w2 ⟨rfl, hb2'⟩; have hbk := below_then hb1 hb1.size hb2'; clear hb2'))
  generalize hu : (s.extract 1 (1 + k)) = u at *
  go_loopg [7, 9] (k + 1) (fun gk v7 v9 wr => ∃ (f pos : Nat) (v : Int), gk = f + 1 ∧ v7 = .int .i64 v ∧ Aside0 (Below (w.alloc (.cells #[.int .i64 0, .string ⟨#[]⟩, .int .i64 0, .int .i64 0] 34)).heap.size (w.alloc (.cells #[.int .i64 0, .string ⟨#[]⟩, .int .i64 0, .int .i64 0] 34)) wr) ∧ Aside0 (wr.heap[w2.heap.size]? = some (.stringIter u pos)) ∧ Aside0 (nvB u f pos v = R ∧ k ≤ pos + f ∧ -9223372036854775808 ≤ v ∧ v ≤ 9223372036854775807))
  case atStart => exact ⟨k, 0, 0, rfl, rfl, ⟨below_iter hbk _ _⟩, ⟨iter_new u 0⟩, ⟨hR, by omega, by omega, by omega⟩⟩
  case round =>
    obtain ⟨f, pos, v, rfl, rfl, HB, HI, HA⟩ := hrel
    by_cases hp : pos < u.size
    · obtain ⟨W2, hnx, hm, hi, hz, hb2⟩ := iter_step (P := Tryd.prog) HI.out hp (le_own hbk) HB.out
      have HB2 := Aside0.mk hb2
      have HI2 := Aside0.mk hi
      clear hm hi hz hb2 HI HB
      have hwd := width_pos u pos
      obtain ⟨f, rfl⟩ : ∃ f', f = f' + 1 := ⟨f - 1, by have := HA.out.2; omega⟩
      by_cases hbig : 1073741824 < nvS u pos v
      · have hE := (nvB_big hp hbig).symm.trans HA.out.1
        subst hE
        unfold nvS at hbig
        obtain ⟨z0, z1, z2, z3, y0, y1, y2, y3, hz⟩ := own4 HB2.out
        go_wp2
        refine bodyPost_ret (v := .tuple #[.agg #[.int .i64 0, .string ⟨#[]⟩, .int .i64 0, .int .i64 0], .int .i64 0, .bool false]) ?_ rfl ⟨rfl, below4 (below_own HB2.out) _ _ _ _⟩
        simp [results, Tryd.results73, go_sem, *]
      · have HN := Aside0.mk hbig
        unfold nvS at hbig
        go_wp2
        go_roundg (f + 1)
        case measure => omega
        case rel => exact ⟨f, pos + (Utf8.decode u pos).2, nvS u pos v, rfl, rfl, HB2, HI2, ⟨(nvB_on hp (Int.not_lt.2 HN.out)).symm.trans HA.out.1, by have := HA.out.2; omega, (nvS_range u pos v).1, (nvS_range u pos v).2⟩⟩
    · have hnx : ∀ ty, (Instr.next (.pointer (some ⟨w2.heap.size, 0, none⟩)) true ty).run Tryd.prog wr = _ := fun ty => run_next_end_at wr _ u pos ty HI.out hp
      have hE := (nvB_end hp).symm.trans HA.out.1
      subst hE
      have c3 := fun w => numlit_any (wrap64 (-v)) (w64_range _).1 (w64_range _).2 w
      go_wp2_with (go_at_call 23; refine (c3 _).mono ?_; rintro e w3 ⟨rfl, hb3'⟩; have hb3 := below_then HB.out HB.out.size hb3'; clear hb3'; obtain ⟨z0, z1, z2, z3, y0, y1, y2, y3, hz⟩ := own4 hb3)
      refine bodyPost_ret (v := .tuple #[.agg #[.int .i64 2, .string (numP (wrap64 (-v))), .int .i64 (wrap64 (-v)), .int .i64 0], .int .i64 (1 + k : Nat), .bool true]) ?_ rfl ⟨rfl, below4 (below_own hb3) _ _ _ _⟩
      simp [results, Tryd.results73, go_sem, *]
/-- lexer.number. -/
def numberA (s : ByteArray) (fr : Nat) (neg : Bool) : Tk × Nat × Bool :=
  if spanB digB (s.extract fr s.size) = 0 ∨ 0 < spanB innerB (s.extract (fr + spanB digB (s.extract fr s.size)) s.size) then (zeroTk, 0, false)
  else numR (fr + spanB digB (s.extract fr s.size)) neg (nvB (s.extract fr (fr + spanB digB (s.extract fr s.size))) (spanB digB (s.extract fr s.size)) 0 0)
def numberB (s : ByteArray) : Tk × Nat × Bool := if s.get! 0 = 126 then numberA s 1 true else numberA s 0 false
theorem number_any (s : ByteArray) (w : World) (hs : s.size ≤ 1000000) (h0 : 0 < s.size) :
    Calls Tryd.prog 73 #[.string s] w fun e w' => e = .returned (tkR (numberB s)) ∧ Below w.heap.size w w' := by
  unfold numberB numberA
  by_cases h1 : s.get! 0 = 126
  · rw [if_pos h1]
    rcases Nat.eq_zero_or_pos (spanB digB (s.extract 1 s.size)) with hk | hk
    · rw [if_pos (Or.inl hk)]
      exact number_none1 s w hs h0 h1 hk
    · rcases Nat.eq_zero_or_pos (spanB innerB (s.extract (1 + spanB digB (s.extract 1 s.size)) s.size)) with hm | hm
      · rw [if_neg (by omega)]
        exact number_all1 s w hs h0 h1 _ rfl hk hm _ rfl
      · rw [if_pos (Or.inr hm)]
        exact number_bad1 s w hs h0 h1 _ _ rfl hk rfl hm
  · rw [if_neg h1, ext_whole]
    simp only [Nat.zero_add]
    rcases Nat.eq_zero_or_pos (spanB digB s) with hk | hk
    · rw [if_pos (Or.inl hk)]
      exact number_none0 s w hs h0 h1 hk
    · rcases Nat.eq_zero_or_pos (spanB innerB (s.extract (spanB digB s) s.size)) with hm | hm
      · rw [if_neg (by omega)]
        exact number_all0 s w hs h0 h1 _ rfl hk hm _ rfl
      · rw [if_pos (Or.inr hm)]
        exact number_bad0 s w hs h0 h1 _ _ rfl hk rfl hm
end Go.Proofs.YtdeingogdblddaaDoor.RW
namespace Go.Proofs.YtdeingogdblddaaDoor.RW
set_option linter.unusedVariables false
set_option linter.unusedSimpArgs false
open Go.RowKit Go.Lib Go.Proofs.YtdeingogdblddaaDoorW.PrintWords Go.Proofs.YtdeingogdblddaaDoorW.PrintLast Go.Proofs.YtdeingogdblddaaDoorW.PrintMore Go.Proofs.YtdeingogdblddaaDoor.RP Go.Proofs.YtdeingogdblddaaDoor.PAll
def signsL : List ByteArray := (lexer_signs.f).getD []
theorem signsL_eq : lexer_signs.f = some signsL := rfl
def signR : Option ByteArray → Tk × Nat × Bool
  | none => (zeroTk, 0, false)
  | some x => (⟨3, x, 0, 0⟩, x.size, true)
def tokB (s : ByteArray) : Tk × Nat × Bool :=
  if classP (firstB s) = 1 then longB s
  else if classP (firstB s) = 2 ∨ s.get! 0 = 126 then numberB s
  else signR (signsL.find? fun x => prefixB s x)
set_option maxRecDepth 100000 in
set_option maxHeartbeats 4000000 in
theorem token_long (s : ByteArray) (w : World) (hs : s.size ≤ 1000000) (hT : Tabs w) (h0 : 0 < s.size) (hc : classP (firstB s) = 1) :
    Calls Tryd.prog 56 #[.string s] w fun e w' => e = .returned (tkR (longB s)) ∧ Below w.heap.size w w' := by
  have c1 := fun w => first_any s w hs
  have c2 := fun w => class_any (firstB s) w
  have c3 := fun w hT => long_any s w hs hT
  rw [hc] at c2
  generalize longB s = r at *
  obtain ⟨⟨k0, t0, n0, a0⟩, n, ok⟩ := r
  go_enter Tryd.func56, Tryd.ntmps56
  go_wp2_with (first | (go_at_call 71; refine (c1 _).mono ?_; rintro e w1 ⟨rfl, hb1⟩) | (go_at_call 53; refine (c2 _).mono ?_; rintro e w2 ⟨rfl, ⟨nd, rfl⟩⟩; have hb2 := pw_below_drewN hb1 nd) | (go_at_call 72; refine (c3 _ (hT.below (below_own hb2))).mono ?_; rintro e w3 ⟨rfl, hb3'⟩; have hb3 := below_then hb2 hb2.size hb3'; clear hb3'; unfold tokV; dsimp only; obtain ⟨z0, z1, z2, z3, y0, y1, y2, y3, hz⟩ := own4 hb3))
  refine bodyPost_ret (v := .tuple #[.agg #[.int .i64 k0, .string t0, .int .i64 n0, .int .i64 a0], .int .i64 (n : Int), .bool ok]) ?_ rfl ⟨rfl, below4 (below_own hb3) _ _ _ _⟩
  simp [results, Tryd.results56, go_sem, *]
set_option maxRecDepth 100000 in
set_option maxHeartbeats 4000000 in
theorem token_digit (s : ByteArray) (w : World) (hs : s.size ≤ 1000000) (hT : Tabs w) (h0 : 0 < s.size) (hc : classP (firstB s) = 2) :
    Calls Tryd.prog 56 #[.string s] w fun e w' => e = .returned (tkR (numberB s)) ∧ Below w.heap.size w w' := by
  have c1 := fun w => first_any s w hs
  have c2 := fun w => class_any (firstB s) w
  have c3 := fun w => number_any s w hs h0
  rw [hc] at c2
  generalize numberB s = r at *
  obtain ⟨⟨k0, t0, n0, a0⟩, n, ok⟩ := r
  go_enter Tryd.func56, Tryd.ntmps56
  go_wp2_with (first | (go_at_call 71; refine (c1 _).mono ?_; rintro e w1 ⟨rfl, hb1⟩) | (go_at_call 53; refine (c2 _).mono ?_; rintro e w2 ⟨rfl, ⟨nd, rfl⟩⟩; have hb2 := pw_below_drewN hb1 nd) | (go_at_call 73; refine (c3 _).mono ?_; rintro e w3 ⟨rfl, hb3'⟩; have hb3 := below_then hb2 hb2.size hb3'; clear hb3'; unfold tkR tokV; dsimp only; obtain ⟨z0, z1, z2, z3, y0, y1, y2, y3, hz⟩ := own4 hb3))
  refine bodyPost_ret (v := .tuple #[.agg #[.int .i64 k0, .string t0, .int .i64 n0, .int .i64 a0], .int .i64 (n : Int), .bool ok]) ?_ rfl ⟨rfl, below4 (below_own hb3) _ _ _ _⟩
  simp [results, Tryd.results56, go_sem, *]
set_option maxRecDepth 100000 in
set_option maxHeartbeats 4000000 in
theorem token_tilde (s : ByteArray) (w : World) (hs : s.size ≤ 1000000) (hT : Tabs w) (h0 : 0 < s.size) (hc1 : ¬ classP (firstB s) = 1) (hc2 : ¬ classP (firstB s) = 2) (h1 : s.get! 0 = 126) :
    Calls Tryd.prog 56 #[.string s] w fun e w' => e = .returned (tkR (numberB s)) ∧ Below w.heap.size w w' := by
  have c1 := fun w => first_any s w hs
  have c2 := fun w => class_any (firstB s) w
  have c3 := fun w => number_any s w hs h0
  generalize classP (firstB s) = q at c2 hc1 hc2
  generalize numberB s = r at *
  obtain ⟨⟨k0, t0, n0, a0⟩, n, ok⟩ := r
  have hb : ((((s[0]'h0).toNat : Nat) : Int) == 126) = true := by
    rw [get_eq s 0 h0] at h1
    exact eq126 h1
  clear h1
  go_enter Tryd.func56, Tryd.ntmps56
  go_wp2_with (first | (go_at_call 71; refine (c1 _).mono ?_; rintro e w1 ⟨rfl, hb1⟩) | (go_at_call 53; refine (c2 _).mono ?_; rintro e w2 ⟨rfl, ⟨nd, rfl⟩⟩; have hb2 := pw_below_drewN hb1 nd) | (go_at_call 73; refine (c3 _).mono ?_; rintro e w3 ⟨rfl, hb3'⟩; have hb3 := below_then hb2 hb2.size hb3'; clear hb3'; unfold tkR tokV; dsimp only; obtain ⟨z0, z1, z2, z3, y0, y1, y2, y3, hz⟩ := own4 hb3))
  refine bodyPost_ret (v := .tuple #[.agg #[.int .i64 k0, .string t0, .int .i64 n0, .int .i64 a0], .int .i64 (n : Int), .bool ok]) ?_ rfl ⟨rfl, below4 (below_own hb3) _ _ _ _⟩
  simp [results, Tryd.results56, go_sem, *]
set_option maxRecDepth 100000 in
set_option maxHeartbeats 4000000 in
theorem token_sign (s : ByteArray) (w : World) (hs : s.size ≤ 1000000) (hT : Tabs w) (h0 : 0 < s.size) (hc1 : ¬ classP (firstB s) = 1) (hc2 : ¬ classP (firstB s) = 2) (h1 : ¬ s.get! 0 = 126) (R : Option ByteArray) (hR : (signsL.find? fun x => prefixB s x) = R) :
    Calls Tryd.prog 56 #[.string s] w fun e w' => e = .returned (tkR (signR R)) ∧ Below w.heap.size w w' := by
  have c1 := fun w => first_any s w hs
  have c2 := fun w => class_any (firstB s) w
  have cs := fun w => lexer_signs.calls signsL w signsL_eq
  have cp := fun x w => strings_HasPrefix.calls s x _ w (prefix_eq s x)
  have hlen : signsL.length = 17 := rfl
  generalize classP (firstB s) = q at c2 hc1 hc2
  generalize signsL = sl at *
  have hb : ((((s[0]'h0).toNat : Nat) : Int) == 126) = false := by
    rw [get_eq s 0 h0] at h1
    exact eq126f h1
  clear h1
  go_enter Tryd.func56, Tryd.ntmps56
  go_wp2_with (first | (go_at_call 71; refine (c1 _).mono ?_; rintro e w1 ⟨rfl, hb1⟩) | (go_at_call 53; refine (c2 _).mono ?_; rintro e w2 ⟨rfl, ⟨nd, rfl⟩⟩; have hb2 := pw_below_drewN hb1 nd) | (go_at_call 74; refine (cs _).mono ?_; rintro e w3 ⟨v3, rfl, ho, hb3'⟩; have HO := Aside0.mk ho; have hb3 := below_then hb2 hb2.size hb3'; clear hb3' ho; obtain ⟨Ao, co, rfl⟩ := Kd.R_slice HO.out))
  go_loopg [7, 34] (sl.length + 1) (fun gk v7 v34 wr => ∃ (f i : Nat), gk = f + 1 ∧ v34 = .int .i64 i ∧ Aside0 (Below w3.heap.size w3 wr) ∧ Aside0 ((sl.drop i).find? (fun x => prefixB s x) = R ∧ sl.length = i + f))
  case atStart => exact ⟨sl.length, 0, rfl, rfl, ⟨Below.refl _ _⟩, ⟨hR, by omega⟩⟩
  case round =>
    obtain ⟨f, i, rfl, rfl, HB, HA⟩ := hrel
    have HBw := Aside0.mk (below_then hb3 hb3.size HB.out)
    by_cases hi : i < sl.length
    · obtain ⟨f, rfl⟩ : ∃ f', f = f' + 1 := ⟨f - 1, by have := HA.out.2; omega⟩
      have hC := Kd.C_below (Kd.R_reads' HO.out).2.2 HB.out
      obtain ⟨ad, e104, hx⟩ := Kd.at_string hC (i : Int) (by omega) (by omega)
      cases e104
      have hE := HA.out.1
      rw [List.drop_eq_getElem_cons hi, List.find?_cons] at hE
      rw [Int.toNat_natCast] at hx
      have hrd : rdOf ByteArray.empty sl (i : Int) = sl[i] := by simp [rdOf, List.getD, hi]
      rw [hrd] at hx
      clear hrd hC
      have c4 := fun w => cp (sl[i]) w
      generalize sl[i] = x at hE c4 hx
      cases hp : prefixB s x with
      | true =>
        rw [hp] at hE c4
        have hE := hE
        simp only at hE
        subst hE
        go_wp2_with (go_at_call 54; refine (c4 _).mono ?_; rintro e w4 ⟨rfl, ⟨nd2, rfl⟩⟩; have hb4 := pw_below_drewN HBw.out nd2; obtain ⟨z0, z1, z2, z3, y0, y1, y2, y3, hz⟩ := own4 hb4)
        refine bodyPost_ret (v := .tuple #[.agg #[.int .i64 3, .string x, .int .i64 0, .int .i64 0], .int .i64 (x.size : Int), .bool true]) ?_ rfl ⟨rfl, below4 (below_own hb4) _ _ _ _⟩
        simp [results, Tryd.results56, go_sem, *]
      | false =>
        rw [hp] at hE c4
        simp only at hE
        have HE := Aside0.mk hE
        clear hE hp
        go_wp2_with (go_at_call 54; refine (c4 _).mono ?_; rintro e w4 ⟨rfl, ⟨nd2, rfl⟩⟩)
        go_roundg (f + 1)
        case measure => omega
        case rel => exact ⟨f, i + 1, rfl, by go_num, ⟨pw_below_drewN HB.out _⟩, ⟨HE.out, by have := HA.out.2; omega⟩⟩
    · have hE := HA.out.1
      rw [List.drop_eq_nil_of_le (by omega), List.find?_nil] at hE
      subst hE
      obtain ⟨z0, z1, z2, z3, y0, y1, y2, y3, hz⟩ := own4 HBw.out
      go_wp2
      refine bodyPost_ret (v := .tuple #[.agg #[.int .i64 0, .string ⟨#[]⟩, .int .i64 0, .int .i64 0], .int .i64 0, .bool false]) ?_ rfl ⟨rfl, below4 (below_own HBw.out) _ _ _ _⟩
      simp [results, Tryd.results56, go_sem, *]
theorem token_any (s : ByteArray) (w : World) (hs : s.size ≤ 1000000) (hT : Tabs w) (h0 : 0 < s.size) :
    Calls Tryd.prog 56 #[.string s] w fun e w' => e = .returned (tkR (tokB s)) ∧ Below w.heap.size w w' := by
  unfold tokB
  by_cases h1 : classP (firstB s) = 1
  · rw [if_pos h1]; exact token_long s w hs hT h0 h1
  · rw [if_neg h1]
    by_cases h2 : classP (firstB s) = 2
    · rw [if_pos (Or.inl h2)]; exact token_digit s w hs hT h0 h2
    · by_cases h3 : s.get! 0 = 126
      · rw [if_pos (Or.inr h3)]; exact token_tilde s w hs hT h0 h1 h2 h3
      · rw [if_neg (fun h => h.elim h2 h3)]
        exact token_sign s w hs hT h0 h1 h2 h3 _ rfl
end Go.Proofs.YtdeingogdblddaaDoor.RW
namespace Go.Proofs.YtdeingogdblddaaDoor.RW
set_option linter.unusedVariables false
set_option linter.unusedSimpArgs false
open Go.RowKit Go.Lib Go.Proofs.YtdeingogdblddaaDoorW.PrintWords Go.Proofs.YtdeingogdblddaaDoorW.PrintLast Go.Proofs.YtdeingogdblddaaDoorW.PrintMore Go.Proofs.YtdeingogdblddaaDoor.RP Go.Proofs.YtdeingogdblddaaDoor.PAll
theorem sp_ge (p : Int → Bool) (s : ByteArray) : ∀ (f pos : Nat), min pos s.size ≤ sp p s f pos
  | 0, pos => by unfold sp; omega
  | f + 1, pos => by
    unfold sp
    split
    · split
      · have := sp_ge p s f (pos + (Utf8.decode s pos).2)
        omega
      · omega
    · omega
theorem spanB_pos (p : Int → Bool) (s : ByteArray) (h0 : 0 < s.size) (h : p (firstB s) = true) : 0 < spanB p s := by
  unfold spanB
  unfold firstB at h
  rw [if_pos h0] at h
  obtain ⟨f, hf⟩ : ∃ f, s.size = f + 1 := ⟨s.size - 1, by omega⟩
  rw [hf, sp_on h0 h]
  have := sp_ge p s f (0 + (Utf8.decode s 0).2)
  have := width_pos s 0
  omega
theorem lgB_range (s : ByteArray) : ∀ (f n : Nat) (ok : Bool), n ≤ s.size → n ≤ (lgB s f n ok).1 ∧ (lgB s f n ok).1 ≤ s.size
  | 0, n, ok, h => ⟨Nat.le_refl _, h⟩
  | f + 1, n, ok, h => by
    unfold lgB
    split
    · rename_i hc
      have h1 := spanB_le innerB (s.extract (n + 1) s.size)
      rw [ByteArray.size_extract] at h1
      have := lgB_range s f (n + 1 + spanB innerB (s.extract (n + 1) s.size)) (nameP ((s.extract (n + 1) s.size).extract 0 (spanB innerB (s.extract (n + 1) s.size))) && !wordB ((s.extract (n + 1) s.size).extract 0 (spanB innerB (s.extract (n + 1) s.size)))) (by omega)
      omega
    · exact ⟨Nat.le_refl _, h⟩
theorem longB_range (s : ByteArray) (h0 : 0 < s.size) (h : innerB (firstB s) = true) : 1 ≤ (longB s).2.1 ∧ (longB s).2.1 ≤ s.size := by
  have h1 := spanB_pos innerB s h0 h
  have h2 := spanB_le innerB s
  unfold longB
  split
  · exact ⟨h1, h2⟩
  · have := lgB_range s s.size (spanB innerB s) (nameB (s.extract 0 (spanB innerB s))) h2
    exact ⟨Nat.le_trans h1 this.1, this.2⟩
theorem numR_range (n : Nat) (neg : Bool) (R : Option Int) (h : (numR n neg R).2.2 = true) : (numR n neg R).2.1 = n := by
  cases R with
  | none => simp [numR] at h
  | some v => rfl
theorem numberA_range (s : ByteArray) (fr : Nat) (neg : Bool) (hf : fr ≤ s.size) (h : (numberA s fr neg).2.2 = true) : 1 ≤ (numberA s fr neg).2.1 ∧ (numberA s fr neg).2.1 ≤ s.size := by
  have h2 := spanB_le digB (s.extract fr s.size)
  rw [ByteArray.size_extract] at h2
  unfold numberA at h ⊢
  split at h
  · simp at h
  · rename_i hc
    rw [if_neg hc, numR_range _ _ _ h]
    omega
theorem numberB_range (s : ByteArray) (h0 : 0 < s.size) (h : (numberB s).2.2 = true) : 1 ≤ (numberB s).2.1 ∧ (numberB s).2.1 ≤ s.size := by
  unfold numberB at h ⊢
  split
  · rename_i hc
    rw [if_pos hc] at h
    exact numberA_range s 1 true h0 h
  · rename_i hc
    rw [if_neg hc] at h
    exact numberA_range s 0 false (Nat.zero_le _) h
theorem signs_size : ∀ x, x ∈ signsL → 1 ≤ x.size := by
  have h : (signsL.all fun x => decide (1 ≤ x.size)) = true := by decide
  intro x hx
  exact of_decide_eq_true (List.all_eq_true.1 h x hx)
theorem prefixB_size {s x : ByteArray} (h : prefixB s x = true) : x.size ≤ s.size := by
  unfold prefixB at h
  have := congrArg List.length (of_decide_eq_true h)
  rw [List.length_take, ba_size, ba_size] at this
  omega
theorem tokB_range (s : ByteArray) (h0 : 0 < s.size) (h : (tokB s).2.2 = true) : 1 ≤ (tokB s).2.1 ∧ (tokB s).2.1 ≤ s.size := by
  unfold tokB at h ⊢
  by_cases h1 : classP (firstB s) = 1
  · rw [if_pos h1]
    exact longB_range s h0 (by unfold innerB; simp [h1])
  · rw [if_neg h1] at h ⊢
    by_cases h2 : classP (firstB s) = 2 ∨ s.get! 0 = 126
    · rw [if_pos h2] at h ⊢
      exact numberB_range s h0 h
    · rw [if_neg h2] at h ⊢
      cases hf : signsL.find? (fun x => prefixB s x) with
      | none => rw [hf] at h; simp [signR] at h
      | some x =>
        exact ⟨signs_size x (List.mem_of_find?_eq_some hf), prefixB_size (List.find?_some hf)⟩
theorem infoTk : (Tryd.prog.info? 34).map (fun i => (i.zero, i.size, i.bytes)) = some (some (.agg #[.int .i64 0, .string ⟨#[]⟩, .int .i64 0, .int .i64 0]), 4, 40) := by kernel_rfl
abbrev opB : ByteArray := ⟨#[40, 42]⟩
def setAt (t : Tk) (a : Int) : Tk := ⟨t.f0, t.f1, t.f2, a⟩
/-- lexer.Lex's loop. -/
def lxB (s : ByteArray) : Nat → Nat → List Tk → List Tk × Int × Int
  | 0, _, acc => (acc, 0, 0)
  | f + 1, at_, acc =>
    if at_ < s.size then
      (if 0 < spanB blkB (s.extract at_ s.size) then lxB s f (at_ + spanB blkB (s.extract at_ s.size)) acc
       else if prefixB (s.extract at_ s.size) opB = true then (if commentB (s.extract at_ s.size) = 0 then ([], (at_ : Int), 5) else lxB s f (at_ + (commentB (s.extract at_ s.size)).toNat) acc)
       else if (tokB (s.extract at_ s.size)).2.2 = true then lxB s f (at_ + (tokB (s.extract at_ s.size)).2.1) (acc ++ [setAt (tokB (s.extract at_ s.size)).1 at_])
       else ([], (at_ : Int), 5))
    else (acc, 0, 0)
theorem lxB_end {s : ByteArray} {f at_ : Nat} {acc : List Tk} (h : ¬ at_ < s.size) : lxB s f at_ acc = (acc, 0, 0) := by cases f <;> simp [lxB, h]
def lexB (s : ByteArray) : List Tk × Int × Int := if (checkP s).2 = 0 then lxB s s.size 0 [] else ([], (checkP s).1, (checkP s).2)
set_option maxRecDepth 100000 in
set_option maxHeartbeats 4000000 in
theorem lex_any (s : ByteArray) (w : World) (hs : s.size ≤ 1000000) (hT : Tabs w) :
    Calls Tryd.prog 19 #[.string s] w fun e w' => ∃ v, e = .returned (.tuple #[v, .int .i64 (lexB s).2.1, .int .i64 (lexB s).2.2]) ∧ Kd.R k34 34 w' w.heap.size (fun _ => True) v (lexB s).1 ∧ Below w.heap.size w w' := by
  have c0 := fun w => check_any s w hs
  unfold lexB
  generalize hck : checkP s = ck at *
  obtain ⟨ca, ce⟩ := ck
  by_cases he : ce = 0
  · subst he
    rw [if_pos rfl]
    obtain ⟨R, hR⟩ : ∃ R, lxB s s.size 0 [] = R := ⟨_, rfl⟩
    rw [hR]
    go_enter Tryd.func19, Tryd.ntmps19
    go_wp2_with (first | (go_at_call 20; refine (c0 _).mono ?_; rintro e w1 ⟨rfl, hb1⟩))
    clear c0 hck
    go_loopg [2, 3] (s.size + 1) (fun gk v2 v3 wr => ∃ (f p : Nat) (acc : List Tk), gk = f + 1 ∧ v3 = .int .i64 p ∧ Aside0 (Kd.R k34 34 wr w.heap.size (fun _ => True) v2 acc) ∧ Aside0 (Below w.heap.size w wr) ∧ Aside0 (lxB s f p acc = R ∧ s.size ≤ p + f ∧ acc.length ≤ p ∧ p ≤ s.size))
    case atStart => exact ⟨s.size, 0, [], rfl, rfl, ⟨Kd.R_nil _ _ _ _ _⟩, ⟨hb1⟩, ⟨hR, by omega, Nat.le_refl _, Nat.zero_le _⟩⟩
    case round =>
      obtain ⟨f, p, acc, rfl, rfl, HO, HB, HA⟩ := hrel
      obtain ⟨A0, cc0, rfl⟩ := Kd.R_slice HO.out
      by_cases hp : p < s.size
      · obtain ⟨f, rfl⟩ : ∃ f', f = f' + 1 := ⟨f - 1, by have := HA.out.2.1; omega⟩
        have hE := HA.out.1
        rw [lxB, if_pos hp] at hE
        have hlt : 0 < (s.extract p s.size).size := by rw [ByteArray.size_extract]; omega
        have hsz : (s.extract p s.size).size ≤ 1000000 := Nat.le_trans (ext_size_le _ _ _) hs
        have hrs : (s.extract p s.size).size = s.size - p := by rw [ByteArray.size_extract]; omega
        have c1 := fun w => span_blk (s.extract p s.size) w hsz
        have hn := spanB_le blkB (s.extract p s.size)
        have c2 := fun w => strings_HasPrefix.calls (s.extract p s.size) opB _ w (prefix_eq (s.extract p s.size) opB)
        have c3 := fun w => lexer_comment.calls _ (s.extract p s.size) _ w (comment_eq (s.extract p s.size) hsz)
        have hcm := cmB_le (s.extract p s.size) (s.extract p s.size).size 0 0
        change 0 ≤ commentB (s.extract p s.size) ∧ commentB (s.extract p s.size) ≤ _ at hcm
        have c4 := fun w hT => token_any (s.extract p s.size) w hsz hT hlt
        have htr := tokB_range (s.extract p s.size) hlt
        rw [hrs] at hn hcm htr
        generalize spanB blkB (s.extract p s.size) = n at *
        generalize prefixB (s.extract p s.size) opB = pb at *
        generalize commentB (s.extract p s.size) = cm at *
        generalize tokB (s.extract p s.size) = tk at *
        clear hlt hsz hrs
        by_cases h1 : 0 < n
        · rw [if_pos h1] at hE
          have HE := Aside0.mk hE
          clear hE
          go_wp2_with (first | (go_at_call 51; refine (c1 _).mono ?_; rintro e w2 ⟨rfl, hb2'⟩; have HB2 := Aside0.mk (below_then HB.out HB.out.size hb2'); have HO2 := Aside0.mk (Kd.R_below HO.out hb2'); clear hb2'))
          go_roundg (f + 1)
          case measure => omega
          case rel => exact ⟨f, p + n, acc, rfl, by go_num, HO2, HB2, ⟨HE.out, by have := HA.out; omega, by have := HA.out; omega, by omega⟩⟩
        · have hn0 : n = 0 := by omega
          subst hn0
          rw [if_neg h1] at hE
          cases pb with
          | true =>
            rw [if_pos rfl] at hE
            by_cases h3 : cm = 0
            · rw [if_pos h3] at hE
              subst h3
              subst hE
              go_wp2_with (first | (go_at_call 51; refine (c1 _).mono ?_; rintro e w2 ⟨rfl, hb2'⟩; have HB2 := Aside0.mk (below_then HB.out HB.out.size hb2'); have HO2 := Aside0.mk (Kd.R_below HO.out hb2'); clear hb2') | (go_at_call 54; refine (c2 _).mono ?_; rintro e w3 ⟨rfl, ⟨nd, rfl⟩⟩; have HB3 := Aside0.mk (pw_below_drewN HB2.out nd); have HO3 := Aside0.mk (Kd.R_drewN HO2.out nd)) | (go_at_call 55; refine (c3 _).mono ?_; rintro e w3 ⟨rfl, ⟨nd3, rfl⟩⟩))
              refine bodyPost_ret (v := .tuple #[.slice none 0 0, .int .i64 p, .int .i64 5]) ?_ rfl ⟨_, rfl, Kd.R_nil _ _ _ _ _, by repeat (first | exact HB2.out | apply pw_below_drewN)⟩
              simp [results, Tryd.results19, go_sem, *]
            · rw [if_neg h3] at hE
              obtain ⟨m, rfl⟩ := Int.eq_ofNat_of_zero_le hcm.1
              rw [Int.toNat_natCast] at hE
              have HE := Aside0.mk hE
              clear hE
              go_wp2_with (first | (go_at_call 51; refine (c1 _).mono ?_; rintro e w2 ⟨rfl, hb2'⟩; have HB2 := Aside0.mk (below_then HB.out HB.out.size hb2'); have HO2 := Aside0.mk (Kd.R_below HO.out hb2'); clear hb2') | (go_at_call 54; refine (c2 _).mono ?_; rintro e w3 ⟨rfl, ⟨nd, rfl⟩⟩; have HB3 := Aside0.mk (pw_below_drewN HB2.out nd); have HO3 := Aside0.mk (Kd.R_drewN HO2.out nd)) | (go_at_call 55; refine (c3 _).mono ?_; rintro e w3 ⟨rfl, ⟨nd3, rfl⟩⟩))
              go_roundg (f + 1)
              case measure => omega
              case rel => exact ⟨f, p + m, acc, rfl, by go_num, ⟨Kd.R_drewN HO2.out _⟩, ⟨by repeat (first | exact HB2.out | apply pw_below_drewN)⟩, ⟨HE.out, by have := HA.out; omega, by have := HA.out; omega, by omega⟩⟩
          | false =>
            rw [if_neg (by simp)] at hE
            obtain ⟨⟨k0, t0, n0, a0⟩, nt, okt⟩ := tk
            cases okt with
            | false =>
              rw [if_neg (by simp)] at hE
              subst hE
              go_wp2_with (first | (go_at_call 51; refine (c1 _).mono ?_; rintro e w2 ⟨rfl, hb2'⟩; have HB2 := Aside0.mk (below_then HB.out HB.out.size hb2'); have HO2 := Aside0.mk (Kd.R_below HO.out hb2'); clear hb2') | (go_at_call 54; refine (c2 _).mono ?_; rintro e w3 ⟨rfl, ⟨nd, rfl⟩⟩; have HB3 := Aside0.mk (pw_below_drewN HB2.out nd); have HO3 := Aside0.mk (Kd.R_drewN HO2.out nd)) | (go_at_call 55; refine (c3 _).mono ?_; rintro e w3 ⟨rfl, ⟨nd3, rfl⟩⟩) | (go_at_call 56; refine (c4 _ (hT.below HB3.out)).mono ?_; rintro e w4 ⟨rfl, hb4'⟩; have HB4 := Aside0.mk (below_then HB3.out HB3.out.size hb4'); have HO4 := Aside0.mk (Kd.R_below HO3.out hb4'); clear hb4'; unfold tkR tokV; dsimp only))
              refine bodyPost_ret (v := .tuple #[.slice none 0 0, .int .i64 p, .int .i64 5]) ?_ rfl ⟨_, rfl, Kd.R_nil _ _ _ _ _, HB4.out.alloc HB4.out.size _⟩
              simp [results, Tryd.results19, go_sem, *]
            | true =>
              rw [if_pos rfl] at hE
              have htr := htr rfl
              have HE := Aside0.mk hE
              clear hE
              dsimp only at htr
              go_wp2_with (first | (go_at_call 51; refine (c1 _).mono ?_; rintro e w2 ⟨rfl, hb2'⟩; have HB2 := Aside0.mk (below_then HB.out HB.out.size hb2'); have HO2 := Aside0.mk (Kd.R_below HO.out hb2'); clear hb2') | (go_at_call 54; refine (c2 _).mono ?_; rintro e w3 ⟨rfl, ⟨nd, rfl⟩⟩; have HB3 := Aside0.mk (pw_below_drewN HB2.out nd); have HO3 := Aside0.mk (Kd.R_drewN HO2.out nd)) | (go_at_call 55; refine (c3 _).mono ?_; rintro e w3 ⟨rfl, ⟨nd3, rfl⟩⟩) | (go_at_call 56; refine (c4 _ (hT.below HB3.out)).mono ?_; rintro e w4 ⟨rfl, hb4'⟩; have HB4 := Aside0.mk (below_then HB3.out HB3.out.size hb4'); have HO4 := Aside0.mk (Kd.R_below HO3.out hb4'); clear hb4'; unfold tkR tokV; dsimp only) | ((with_reducible refine gate_builtin (b := .append) (xs := #[.tmp 57, .tmp 59]) rfl ?_); at_builtin; refine Kd.R_append k34 (w0 := w) w.heap.size rfl (.tmp 57) (.tmp 59) 27 34 (.agg #[.int .i64 0, .string ⟨#[]⟩, .int .i64 0, .int .i64 0]) 40 ?r1 ?r2 ?r3 ?r4 ?r5 ?r6 (.slice A0 acc.length cc0) acc (setAt ⟨k0, t0, n0, a0⟩ p) [.int .i64 k0, .string t0, .int .i64 n0, .int .i64 p] (fun _ => True) (fun _ => False) ?r7 ?r8 ?aP (fun _ hk => hk.elim) ?aF ?aO ?aB ?aS ?aL ?_; (case r1 => rfl); (case r2 => exact Tryd.underlying27); (case r3 => exact infoTk); (case r4 => rfl); (case r5 => decide); (case r6 => omega); (case r7 => rfl); (case r8 => rw [show (w4.alloc (.cells #[.int .i64 k0, .string t0, .int .i64 n0, .int .i64 p] 34)).heap.size = w4.heap.size + 1 from by simp]; rfl); (case aP => exact k34_mkM _ _ _ (setAt ⟨k0, t0, n0, a0⟩ p)); (case aF => exact (fun _ _ => trivial)); (case aO => exact Kd.R_below HO4.out ((Below.refl _ _).alloc (Nat.le_refl _) _)); (case aB => exact HB4.out.alloc HB4.out.size _); (case aS => have := HB4.out.size; simp; omega); (case aL => have := HA.out; omega); intro v60 w6 ho hb hg hat; have HB5 := Aside0.mk hb; have HO5 := Aside0.mk ho; clear ho hb hg hat))
              go_roundg (f + 1)
              case measure => omega
              case rel => exact ⟨f, p + nt, acc ++ [setAt ⟨k0, t0, n0, a0⟩ p], rfl, by go_num, HO5, HB5, ⟨HE.out, by have := HA.out; omega, by have := HA.out; rw [List.length_append]; simp; omega, by omega⟩⟩
      · have hE := HA.out.1
        rw [lxB_end hp] at hE
        subst hE
        go_wp2
        refine bodyPost_ret (v := .tuple #[.slice A0 acc.length cc0, .int .i64 0, .int .i64 0]) ?_ rfl ⟨_, rfl, HO.out, HB.out⟩
        simp [results, Tryd.results19, go_sem, *]
  · rw [if_neg he]
    go_enter Tryd.func19, Tryd.ntmps19
    go_wp2_with (first | (go_at_call 20; refine (c0 _).mono ?_; rintro e w1 ⟨rfl, hb1⟩))
    refine bodyPost_ret (v := .tuple #[.slice none 0 0, .int .i64 ca, .int .i64 ce]) ?_ rfl ⟨_, rfl, Kd.R_nil _ _ _ _ _, hb1⟩
    simp [results, Tryd.results19, go_sem, *]
end Go.Proofs.YtdeingogdblddaaDoor.RW
namespace Go.Proofs.YtdeingogdblddaaDoor.RP
set_option linter.unusedVariables false
set_option linter.unusedSimpArgs false
open Go.RowKit Go.Lib Go.Proofs.YtdeingogdblddaaDoorW.PrintWords Go.Proofs.YtdeingogdblddaaDoorW.PrintLast Go.Proofs.YtdeingogdblddaaDoorW.PrintMore Go.Proofs.YtdeingogdblddaaDoor.RP Go.Proofs.YtdeingogdblddaaDoor.RW Go.Proofs.YtdeingogdblddaaDoor.PAll
theorem enc_cons_size (r : Int) (t : List Int) : (enc (r :: t)).size = (Utf8.encode r).size + (enc t).size := by rw [enc, ba_size_append]
theorem enc_app_size (a b : List Int) : (enc (a ++ b)).size = (enc a).size + (enc b).size := by rw [enc_append, ba_size_append]
theorem good_app {a b : List Int} (h : Good (a ++ b)) : Good a ∧ Good b := ⟨fun r hr => h r (List.mem_append_left _ hr), fun r hr => h r (List.mem_append_right _ hr)⟩
theorem ext_pre (a b : List Int) : (enc (a ++ b)).extract 0 (enc a).size = enc a := by
  rw [enc_append]; exact ext_left _ _
theorem ext_post (a b : List Int) : (enc (a ++ b)).extract (enc a).size (enc (a ++ b)).size = enc b := by
  rw [enc_append]; exact ext_right _ _
theorem toNat_good {r : Int} (h : goodR r) : ((r.toNat : Nat) : Int) = r := Int.toNat_of_nonneg h.1
theorem sp_enc (p : Int → Bool) : ∀ (l : List Int), Good l → ∀ (a : ByteArray) (f : Nat), l.length ≤ f → sp p (a ++ enc l) f a.size = a.size + (enc (l.takeWhile p)).size
  | [], h, a, f, hf => by
    have e : (a ++ enc []).size = a.size := by rw [ba_size_append]; rfl
    rw [sp_end (by omega), e]; rfl
  | r :: t, h, a, f, hf => by
    rw [List.length_cons] at hf
    obtain ⟨f, rfl⟩ : ∃ f', f = f' + 1 := ⟨f - 1, by omega⟩
    have hr := h r List.mem_cons_self
    have hw := wd_pos r hr
    have hsz : (a ++ enc (r :: t)).size = a.size + ((Utf8.encode r).size + (enc t).size) := by rw [ba_size_append, enc_cons_size]
    have hd := dec_at a r t hr
    have hd1 : (((Utf8.decode (a ++ enc (r :: t)) a.size).1 : Nat) : Int) = r := by rw [hd]; exact toNat_good hr
    by_cases hp : p r = true
    · rw [sp_on (by omega) (by rw [hd1]; exact hp), hd, List.takeWhile_cons_of_pos hp]
      have e : a ++ enc (r :: t) = (a ++ Utf8.encode r) ++ enc t := by rw [enc, ba_assoc]
      have ih := sp_enc p t h.tail (a ++ Utf8.encode r) f (by omega)
      rw [ba_size_append, ← e] at ih
      show sp p _ f (a.size + (Utf8.encode r).size) = _
      rw [ih, enc_cons_size]; omega
    · have hp' : p r = false := by simpa using hp
      rw [sp_stop (by omega) (by rw [hd1]; exact hp'), List.takeWhile_cons_of_neg hp]; rfl
theorem spanB_enc (p : Int → Bool) (l : List Int) (h : Good l) : spanB p (enc l) = (enc (l.takeWhile p)).size := by
  have := sp_enc p l h ⟨#[]⟩ (enc l).size (enc_len l h)
  rw [ba_nil_left] at this
  unfold spanB
  rw [show (0 : Nat) = (⟨#[]⟩ : ByteArray).size from rfl, this]
  show 0 + _ = _
  omega
theorem span_text (p : Int → Bool) (l : List Int) (h : Good l) : (enc l).extract 0 (spanB p (enc l)) = enc (l.takeWhile p) := by
  rw [spanB_enc p l h]
  have := ext_pre (l.takeWhile p) (l.dropWhile p)
  rw [List.takeWhile_append_dropWhile] at this
  exact this
theorem span_zero (p : Int → Bool) (l : List Int) (h : Good l) : spanB p (enc l) = 0 ↔ l.takeWhile p = [] := by
  rw [spanB_enc p l h]
  exact enc_nil_iff _ (fun r hr => h r (List.takeWhile_subset _ hr))
theorem first_byte (r : Int) (t : List Int) (h : goodR r) : ∃ b rest, (enc (r :: t)).data.toList = b :: rest ∧ (∀ c : Nat, c < 128 → (b = c.toUInt8 ↔ r = (c : Int))) ∧ (128 ≤ r → 128 ≤ b.toNat) := by
  have e : (enc (r :: t)).data.toList = encodeRune r ++ (enc t).data.toList := by
    show (Utf8.encode r ++ enc t).data.toList = _
    rw [ba_list, encZ r h]
  rw [e]
  obtain ⟨n, rfl⟩ := Int.eq_ofNat_of_zero_le h.1
  have h2 := h.2.1
  have h3 := h.2.2
  unfold encodeRune encodeRuneZ
  have key : ∀ (m c : Nat), m < 256 → c < 128 → (m.toUInt8 = c.toUInt8 ↔ m = c) := fun m c hm hc => by
    constructor
    · intro e
      have := congrArg UInt8.toNat e
      rwa [toUInt8_nat m hm, toUInt8_nat c (by omega)] at this
    · rintro rfl; rfl
  by_cases c1 : (n : Int) < 128
  · rw [if_pos (by omega)]
    refine ⟨_, _, rfl, fun c hc => ?_, fun hr => by omega⟩
    show ((n : Int).toNat).toUInt8 = c.toUInt8 ↔ _
    rw [Int.toNat_natCast, key n c (by omega) hc]; omega
  · rw [if_neg (by omega)]
    have fin : ∀ (m : Int) (rest : List UInt8), 128 ≤ m → m < 256 → (∀ c : Nat, c < 128 → ((m.toNat).toUInt8 = c.toUInt8 ↔ (n : Int) = (c : Int))) ∧ (128 ≤ (n : Int) → 128 ≤ ((m.toNat).toUInt8).toNat) := fun m rest h1 h2 =>
      ⟨fun c hc => by rw [key m.toNat c (by omega) hc]; omega, fun _ => by rw [toUInt8_nat _ (by omega)]; omega⟩
    by_cases c2 : (n : Int) < 2048
    · rw [if_pos (by omega)]
      have := fin (192 + (n : Int) / 64) [] (by omega) (by omega)
      exact ⟨_, _, rfl, this.1, this.2⟩
    · rw [if_neg (by omega)]
      by_cases c3 : (n : Int) < 65536
      · rw [if_pos (by omega)]
        have := fin (224 + (n : Int) / 4096) [] (by omega) (by omega)
        exact ⟨_, _, rfl, this.1, this.2⟩
      · rw [if_neg (by omega), if_pos (by omega)]
        have := fin (240 + (n : Int) / 262144) [] (by omega) (by omega)
        exact ⟨_, _, rfl, this.1, this.2⟩
theorem get_at {s : ByteArray} {pos : Nat} {b : UInt8} {rest : List UInt8} (h : s.data.toList.drop pos = b :: rest) : pos < s.size ∧ s.get! pos = b ∧ s.data.toList.drop (pos + 1) = rest := by
  have hlt : pos < s.size := by
    rw [← ba_size]
    rcases Nat.lt_or_ge pos s.data.toList.length with h1 | h1
    · exact h1
    · rw [List.drop_eq_nil_of_le h1] at h; cases h
  have := drop_get s pos hlt
  rw [h] at this
  injection this with h1 h2
  exact ⟨hlt, h1.symm, h2.symm⟩
/-- The byte behind a, where a rune begins. -/
theorem byte_at (a : ByteArray) (r : Int) (t : List Int) (h : goodR r) (c : Nat) (hc : c < 128) : (a ++ enc (r :: t)).get! a.size = c.toUInt8 ↔ r = (c : Int) := by
  obtain ⟨b, rest, h1, h2, _⟩ := first_byte r t h
  have e : (a ++ enc (r :: t)).data.toList.drop a.size = b :: rest := by rw [ba_list, ← ba_size a, List.drop_left, h1]
  rw [(get_at e).2.1]
  exact h2 c hc
theorem byte_zero (r : Int) (t : List Int) (h : goodR r) (c : Nat) (hc : c < 128) : (enc (r :: t)).get! 0 = c.toUInt8 ↔ r = (c : Int) := by
  have := byte_at ⟨#[]⟩ r t h c hc
  rw [ba_nil_left] at this
  exact this
theorem enc_small (c : Int) (h0 : 0 ≤ c) (h : c < 128) : (Utf8.encode c).size = 1 := by
  have hg : goodR c := ⟨h0, by omega, by omega⟩
  rw [wd_eq c hg]
  unfold encodeRune encodeRuneZ
  rw [if_pos (by omega)]; rfl
theorem firstB_enc (r : Int) (t : List Int) (h : goodR r) : firstB (enc (r :: t)) = r := by
  have hw := wd_pos r h
  unfold firstB
  rw [if_pos (by rw [enc_cons_size]; omega), dec_zero r t h]
  exact toNat_good h
def comR : List Int → Int → Option (List Int)
  | [], _ => none
  | [_], _ => none
  | x :: y :: t, d => if x = 40 ∧ y = 42 then comR t (d + 1) else if x = 42 ∧ y = 41 then (if d - 1 = 0 then some t else comR t (d - 1)) else comR (y :: t) d
theorem comR_len : ∀ (l : List Int) (d : Int) (r : List Int), comR l d = some r → r.length + 2 ≤ l.length ∧ ∃ p, l = p ++ r
  | [], _, _, h => by simp [comR] at h
  | [_], _, _, h => by simp [comR] at h
  | x :: y :: t, d, r, h => by
    rw [comR] at h
    split at h
    · obtain ⟨h1, p, rfl⟩ := comR_len t _ r h
      exact ⟨by simp only [List.length_cons]; omega, x :: y :: p, rfl⟩
    · split at h
      · split at h
        · cases h
          exact ⟨by simp, [x, y], rfl⟩
        · obtain ⟨h1, p, rfl⟩ := comR_len t _ r h
          exact ⟨by simp only [List.length_cons]; omega, x :: y :: p, rfl⟩
      · obtain ⟨h1, p, e⟩ := comR_len (y :: t) _ r h
        exact ⟨by simp only [List.length_cons] at h1 ⊢; omega, x :: p, by rw [e]; rfl⟩
theorem comR_app (u : List Int) : ∀ (l : List Int) (d : Int) (r : List Int), comR l d = some r → comR (l ++ u) d = some (r ++ u)
  | [], _, _, h => by simp [comR] at h
  | [_], _, _, h => by simp [comR] at h
  | x :: y :: t, d, r, h => by
    rw [comR] at h
    show comR (x :: y :: (t ++ u)) d = _
    rw [comR]
    split at h
    · rename_i c; rw [if_pos c]; exact comR_app u t _ r h
    · rename_i c
      rw [if_neg c]
      split at h
      · rename_i c2
        rw [if_pos c2]
        split at h
        · rename_i c3; cases h; rw [if_pos c3]
        · rename_i c3; rw [if_neg c3]; exact comR_app u t _ r h
      · rename_i c2
        rw [if_neg c2]
        exact comR_app u (y :: t) d r h
/-- Bytes of no sign are passed over. -/
theorem cm_skip (s : ByteArray) : ∀ (k f pos : Nat) (d : Int), (∀ j, j < k → pos + j < s.size ∧ 128 ≤ (s.get! (pos + j)).toNat) → cmB s (f + k) pos d = cmB s f (pos + k) d
  | 0, f, pos, d, _ => rfl
  | k + 1, f, pos, d, h => by
    obtain ⟨h1, h2⟩ := h 0 (by omega)
    rw [Nat.add_zero] at h1 h2
    have p1 : pre2 s pos 40 42 = false := by
      unfold pre2
      rw [decide_eq_false (show ¬ s.get! pos = 40 from fun e => by rw [e] at h2; exact absurd h2 (by decide))]; simp
    have p2 : pre2 s pos 42 41 = false := by
      unfold pre2
      rw [decide_eq_false (show ¬ s.get! pos = 42 from fun e => by rw [e] at h2; exact absurd h2 (by decide))]; simp
    rw [show f + (k + 1) = (f + k) + 1 by omega, cmB, if_pos h1, p1, p2]
    simp only [Bool.false_eq_true, if_false]
    rw [cm_skip s k f (pos + 1) d (fun j hj => by have := h (j + 1) (by omega); rw [show pos + 1 + j = pos + (j + 1) by omega]; exact this)]
    rw [show pos + 1 + k = pos + (k + 1) by omega]
end Go.Proofs.YtdeingogdblddaaDoor.RP
namespace Go.Proofs.YtdeingogdblddaaDoor.RP
set_option linter.unusedVariables false
set_option linter.unusedSimpArgs false
open Go.RowKit Go.Lib Go.Proofs.YtdeingogdblddaaDoorW.PrintWords Go.Proofs.YtdeingogdblddaaDoorW.PrintLast Go.Proofs.YtdeingogdblddaaDoorW.PrintMore Go.Proofs.YtdeingogdblddaaDoor.RP Go.Proofs.YtdeingogdblddaaDoor.RW Go.Proofs.YtdeingogdblddaaDoor.PAll
theorem enc_high (r : Int) (h : goodR r) (hr : 128 ≤ r) : ∀ b ∈ encodeRune r, 128 ≤ b.toNat := by
  obtain ⟨n, rfl⟩ := Int.eq_ofNat_of_zero_le h.1
  have h2 := h.2.1
  have key : ∀ m : Int, 128 ≤ m → m < 256 → 128 ≤ ((m.toNat).toUInt8).toNat := fun m h1 h2 => by rw [toUInt8_nat _ (by omega)]; omega
  have h3 := h.2.2
  intro b hb
  unfold encodeRune encodeRuneZ at hb
  rw [if_neg (by omega)] at hb
  by_cases c2 : (n : Int) < 2048
  · rw [if_pos (by omega)] at hb
    simp only [List.map_cons, List.map_nil, List.mem_cons, List.not_mem_nil, or_false] at hb
    rcases hb with rfl | rfl <;> exact key _ (by omega) (by omega)
  · rw [if_neg (by omega)] at hb
    by_cases c3 : (n : Int) < 65536
    · rw [if_pos (by omega)] at hb
      simp only [List.map_cons, List.map_nil, List.mem_cons, List.not_mem_nil, or_false] at hb
      rcases hb with rfl | rfl | rfl <;> exact key _ (by omega) (by omega)
    · rw [if_neg (by omega), if_pos (by omega)] at hb
      simp only [List.map_cons, List.map_nil, List.mem_cons, List.not_mem_nil, or_false] at hb
      rcases hb with rfl | rfl | rfl | rfl <;> exact key _ (by omega) (by omega)
theorem byte_high (a : ByteArray) (r : Int) (t : List Int) (h : goodR r) (hr : 128 ≤ r) (j : Nat) (hj : j < (Utf8.encode r).size) :
    a.size + j < (a ++ enc (r :: t)).size ∧ 128 ≤ ((a ++ enc (r :: t)).get! (a.size + j)).toNat := by
  have hsz : (a ++ enc (r :: t)).size = a.size + ((Utf8.encode r).size + (enc t).size) := by rw [ba_size_append, enc_cons_size]
  have hlt : a.size + j < (a ++ enc (r :: t)).size := by omega
  refine ⟨hlt, ?_⟩
  have hd := drop_get _ _ hlt
  have e : (a ++ enc (r :: t)).data.toList.drop (a.size + j) = ((encodeRune r).drop j) ++ (enc t).data.toList := by
    rw [ba_list, ← ba_size a, List.drop_append, List.drop_eq_nil_of_le (by omega), List.nil_append]
    rw [show a.data.toList.length + j - a.data.toList.length = j by omega]
    show (Utf8.encode r ++ enc t).data.toList.drop j = _
    rw [ba_list, encZ r h, List.drop_append_of_le_length (by rw [wd_eq r h] at hj; omega)]
  rw [e] at hd
  have hlen : j < (encodeRune r).length := by rw [wd_eq r h] at hj; exact hj
  rw [List.drop_eq_getElem_cons hlen] at hd
  injection hd with h1 h2
  rw [← h1]
  exact enc_high r h hr _ (List.getElem_mem hlen)
def comN (S : Nat) : Option (List Int) → Int
  | some r => ((S - (enc r).size : Nat) : Int)
  | none => 0
theorem cm_enc : ∀ (n : Nat) (l : List Int), l.length ≤ n → Good l → ∀ (a : ByteArray) (f : Nat) (d : Int), (enc l).size ≤ f → cmB (a ++ enc l) f a.size d = comN (a ++ enc l).size (comR l d) := by
  intro n
  induction n with
  | zero =>
    intro l hl hg a f d hf
    have e : l = [] := List.eq_nil_of_length_eq_zero (by omega)
    subst e
    have e2 : (a ++ enc []).size = a.size := by rw [ba_size_append]; rfl
    cases f with
    | zero => rfl
    | succ f => rw [cmB, if_neg (by omega)]; rfl
  | succ n ih =>
    intro l hl hg a f d hf
    match l, hl, hg, hf with
    | [], _, _, _ =>
      have e2 : (a ++ enc []).size = a.size := by rw [ba_size_append]; rfl
      cases f with
      | zero => rfl
      | succ f => rw [cmB, if_neg (by omega)]; rfl
    | x :: t, hl, hg, hf =>
      have hx := hg x List.mem_cons_self
      have hw := wd_pos x hx
      have hsz : (a ++ enc (x :: t)).size = a.size + ((Utf8.encode x).size + (enc t).size) := by rw [ba_size_append, enc_cons_size]
      have e : a ++ enc (x :: t) = (a ++ Utf8.encode x) ++ enc t := by rw [enc, ba_assoc]
      have ea : (a ++ Utf8.encode x).size = a.size + (Utf8.encode x).size := ba_size_append _ _
      rw [enc_cons_size] at hf
      rw [List.length_cons] at hl
      have step : ∀ f', (enc t).size ≤ f' → cmB (a ++ enc (x :: t)) f' (a.size + (Utf8.encode x).size) d = comN (a ++ enc (x :: t)).size (comR t d) := fun f' hf' => by
        have := ih t (by omega) hg.tail (a ++ Utf8.encode x) f' d hf'
        rw [← e, ea] at this
        exact this
      by_cases hx8 : 128 ≤ x
      · obtain ⟨f', rfl⟩ : ∃ f', f = f' + (Utf8.encode x).size := ⟨f - (Utf8.encode x).size, by omega⟩
        rw [cm_skip _ _ f' _ d (fun j hj => byte_high a x t hx hx8 j hj), step f' (by omega)]
        match t with
        | [] => simp [comR, comN]
        | y :: u => rw [comR, if_neg (by omega), if_neg (by omega)]
      · have hw1 : (Utf8.encode x).size = 1 := enc_small x hx.1 (by omega)
        rw [hw1] at step ea hsz hf
        obtain ⟨f, rfl⟩ : ∃ f', f = f' + 1 := ⟨f - 1, by omega⟩
        rw [cmB, if_pos (by omega)]
        match t, hl, hg, hsz, e, step, hf with
        | [], hl, hg, hsz, e, step, hf =>
          have p : ∀ u v, pre2 (a ++ enc [x]) a.size u v = false := fun u v => by
            unfold pre2
            rw [decide_eq_false (show ¬ a.size + 1 < (a ++ enc [x]).size by rw [hsz]; show ¬ a.size + 1 < a.size + (1 + (enc []).size); simp [enc]; rfl)]; simp
          rw [p, p]
          simp only [Bool.false_eq_true, if_false]
          rw [step f (by omega)]
          simp [comR]
        | y :: u, hl, hg, hsz, e, step, hf =>
          have hy := hg y (by simp)
          have hwy := wd_pos y hy
          have hyz : (enc (y :: u)).size = (Utf8.encode y).size + (enc u).size := enc_cons_size y u
          have b2 : ∀ c : Nat, c < 128 → ((a ++ enc (x :: y :: u)).get! (a.size + 1) = c.toUInt8 ↔ y = (c : Int)) := fun c hc => by
            have := byte_at (a ++ Utf8.encode x) y u hy c hc
            rw [← e, ea] at this
            exact this
          have p : ∀ u1 v1 : Nat, u1 < 128 → v1 < 128 → pre2 (a ++ enc (x :: y :: u)) a.size u1.toUInt8 v1.toUInt8 = decide (x = u1 ∧ y = v1) := fun u1 v1 h1 h2 => by
            unfold pre2
            rw [decide_eq_true (show a.size + 1 < (a ++ enc (x :: y :: u)).size by omega), Bool.true_and, Bool.decide_and]
            congr 1
            · exact decide_eq_decide.2 (byte_at a x (y :: u) hx u1 h1)
            · exact decide_eq_decide.2 (b2 v1 h2)
          rw [show (40 : UInt8) = (40 : Nat).toUInt8 from rfl, show (42 : UInt8) = (42 : Nat).toUInt8 from rfl, show (41 : UInt8) = (41 : Nat).toUInt8 from rfl, p 40 42 (by omega) (by omega), p 42 41 (by omega) (by omega)]
          have two : ∀ (d' : Int), (y = 42 ∨ y = 41) → cmB (a ++ enc (x :: y :: u)) f (a.size + 2) d' = comN (a ++ enc (x :: y :: u)).size (comR u d') := fun d' hy2 => by
            have hwy1 : (Utf8.encode y).size = 1 := enc_small y hy.1 (by omega)
            have e2 : a ++ enc (x :: y :: u) = (a ++ Utf8.encode x ++ Utf8.encode y) ++ enc u := by rw [e, enc, ba_assoc (a ++ Utf8.encode x)]
            have ea2 : (a ++ Utf8.encode x ++ Utf8.encode y).size = a.size + 2 := by rw [ba_size_append, ea, hwy1]
            have := ih u (by simp only [List.length_cons] at hl; omega) hg.tail.tail (a ++ Utf8.encode x ++ Utf8.encode y) f d' (by omega)
            rw [← e2, ea2] at this
            exact this
          rw [comR]
          by_cases c1 : x = 40 ∧ y = 42
          · rw [if_pos (by simpa using c1), if_pos c1, two _ (Or.inl c1.2)]
          · rw [if_neg (by simpa using c1), if_neg c1]
            by_cases c2 : x = 42 ∧ y = 41
            · rw [if_pos (by simpa using c2), if_pos c2]
              by_cases c3 : d - 1 = 0
              · rw [if_pos c3, if_pos c3]
                have hwy1 : (Utf8.encode y).size = 1 := enc_small y hy.1 (by omega)
                show ((a.size + 2 : Nat) : Int) = (((a ++ enc (x :: y :: u)).size - (enc u).size : Nat) : Int)
                congr 1; omega
              · rw [if_neg c3, if_neg c3, two _ (Or.inr c2.2)]
            · rw [if_neg (by simpa using c2), if_neg c2, step f (by omega)]
theorem comment_enc (l : List Int) (h : Good l) : commentB (enc l) = comN (enc l).size (comR l 0) := by
  have := cm_enc l.length l (Nat.le_refl _) h ⟨#[]⟩ (enc l).size 0 (Nat.le_refl _)
  rw [ba_nil_left] at this
  exact this
end Go.Proofs.YtdeingogdblddaaDoor.RP
namespace Go.Proofs.YtdeingogdblddaaDoor.RP
set_option linter.unusedVariables false
set_option linter.unusedSimpArgs false
open Go.RowKit Go.Lib Go.Proofs.YtdeingogdblddaaDoorW.PrintWords Go.Proofs.YtdeingogdblddaaDoorW.PrintLast Go.Proofs.YtdeingogdblddaaDoorW.PrintMore Go.Proofs.YtdeingogdblddaaDoor.RP Go.Proofs.YtdeingogdblddaaDoor.RW Go.Proofs.YtdeingogdblddaaDoor.PAll
theorem good_sub {l m : List Int} (h : Good l) (hs : ∀ r, r ∈ m → r ∈ l) : Good m := fun r hr => h r (hs r hr)
theorem good_tw {p : Int → Bool} {l : List Int} (h : Good l) : Good (l.takeWhile p) := good_sub h (List.takeWhile_subset _)
theorem good_dw {p : Int → Bool} {l : List Int} (h : Good l) : Good (l.dropWhile p) := good_sub h (fun _ hr => (List.dropWhile_sublist p).subset hr)
def nameR (w : List Int) : Bool := nameB (enc w)
def lgR : Nat → List Int → Bool → List Int × Bool
  | 0, l, ok => (l, ok)
  | f + 1, l, ok => if ok = true ∧ l.head? = some 46 then lgR f (l.tail.dropWhile innerB) (nameR (l.tail.takeWhile innerB)) else (l, ok)
theorem lgB_enc : ∀ (f : Nat) (pre l : List Int) (ok : Bool), Good (pre ++ l) →
    lgB (enc (pre ++ l)) f (enc pre).size ok = ((enc (pre ++ l)).size - (enc (lgR f l ok).1).size, (lgR f l ok).2)
  | 0, pre, l, ok, h => by
    show ((enc pre).size, ok) = (_ - (enc l).size, ok)
    rw [enc_app_size]; congr 1; omega
  | f + 1, pre, l, ok, h => by
    have e0 : enc (pre ++ l) = enc pre ++ enc l := enc_append _ _
    match l with
    | [] =>
      rw [lgB_end (by rw [List.append_nil]; omega), lgR, if_neg (by simp), List.append_nil]
      show _ = (_ - (enc []).size, ok)
      rw [show (enc []).size = 0 from rfl]; rfl
    | r :: t =>
      have hr := h r (by simp)
      have hw := wd_pos r hr
      have hsz := enc_app_size pre (r :: t)
      rw [enc_cons_size] at hsz
      have hb := byte_at (enc pre) r t hr 46 (by omega)
      rw [← e0] at hb
      rw [lgB, lgR]
      by_cases c : ok = true ∧ r = 46
      · obtain ⟨rfl, rfl⟩ := c
        rw [if_pos ⟨rfl, by omega, hb.2 rfl⟩, if_pos ⟨rfl, rfl⟩]
        have e1 : pre ++ 46 :: t = (pre ++ [46]) ++ t := by simp
        have e2 : (enc pre).size + 1 = (enc (pre ++ [46])).size := by rw [enc_app_size]; rfl
        have e3 : (enc (pre ++ 46 :: t)).extract ((enc pre).size + 1) (enc (pre ++ 46 :: t)).size = enc t := by rw [e2, e1]; exact ext_post _ _
        have ht : Good t := (good_app (by rw [e1] at h; exact h)).2
        rw [e3, span_text innerB t ht, spanB_enc innerB t ht]
        have e4 : (pre ++ 46 :: t.takeWhile innerB) ++ t.dropWhile innerB = pre ++ 46 :: t := by simp [List.takeWhile_append_dropWhile]
        have e5 : (enc pre).size + 1 + (enc (t.takeWhile innerB)).size = (enc (pre ++ 46 :: t.takeWhile innerB)).size := by rw [enc_app_size, enc_cons_size, enc_small 46 (by omega) (by omega)]; omega
        rw [e5, ← e4]
        exact lgB_enc f _ _ _ (by rw [e4]; exact h)
      · rw [if_neg (fun hc => c ⟨hc.1, hb.1 hc.2.2⟩), if_neg (fun hc => c ⟨hc.1, by simpa using hc.2⟩)]
        show ((enc pre).size, ok) = (_ - (enc (r :: t)).size, ok)
        rw [enc_cons_size]; congr 1; omega
theorem dw_len (p : Int → Bool) (l : List Int) : (l.dropWhile p).length ≤ l.length := (List.dropWhile_sublist p).length_le
theorem lgR_fuel : ∀ (f g : Nat) (l : List Int) (ok : Bool), l.length ≤ f → l.length ≤ g → lgR f l ok = lgR g l ok
  | 0, 0, _, _, _, _ => rfl
  | 0, g + 1, l, ok, h, _ => by
    have e : l = [] := List.eq_nil_of_length_eq_zero (by omega)
    subst e; rw [lgR, lgR, if_neg (by simp)]
  | f + 1, 0, l, ok, _, h => by
    have e : l = [] := List.eq_nil_of_length_eq_zero (by omega)
    subst e; rw [lgR, lgR, if_neg (by simp)]
  | f + 1, g + 1, l, ok, h1, h2 => by
    rw [lgR, lgR]
    split
    · rename_i c
      have hne : l ≠ [] := fun e => by subst e; simp at c
      have hl : 1 ≤ l.length := by cases l <;> simp at *
      have := dw_len innerB l.tail
      rw [List.length_tail] at this
      exact lgR_fuel f g _ _ (by omega) (by omega)
    · rfl
theorem lgR_pre : ∀ (f : Nat) (l : List Int) (ok : Bool), ∃ p, l = p ++ (lgR f l ok).1
  | 0, l, ok => ⟨[], rfl⟩
  | f + 1, l, ok => by
    rw [lgR]
    split
    · rename_i c
      obtain ⟨p, hp⟩ := lgR_pre f (l.tail.dropWhile innerB) (nameR (l.tail.takeWhile innerB))
      match l, c, hp with
      | r :: t, c, hp =>
        refine ⟨r :: t.takeWhile innerB ++ p, ?_⟩
        simp only [List.tail_cons] at hp ⊢
        rw [List.append_assoc, ← hp, List.cons_append, List.takeWhile_append_dropWhile]
    · exact ⟨[], rfl⟩
def lg (l : List Int) (ok : Bool) : List Int × Bool := lgR l.length l ok
def longR (l : List Int) : Option (Tk × List Int) :=
  if wordB (enc (l.takeWhile innerB)) = true ∧ (l.dropWhile innerB).head? ≠ some 46 then some (⟨3, enc (l.takeWhile innerB), 0, 0⟩, l.dropWhile innerB)
  else if (lg (l.dropWhile innerB) (nameR (l.takeWhile innerB))).2 = true ∧ (enc (l.take (l.length - (lg (l.dropWhile innerB) (nameR (l.takeWhile innerB))).1.length))).size ≤ 128 then
    some (⟨1, enc (l.take (l.length - (lg (l.dropWhile innerB) (nameR (l.takeWhile innerB))).1.length)), 0, 0⟩, (lg (l.dropWhile innerB) (nameR (l.takeWhile innerB))).1)
  else none
/-- What the code tells is what is told of runes. -/
def Same (l : List Int) (res : Tk × Nat × Bool) : Option (Tk × List Int) → Prop
  | some p => res = (p.1, (enc l).size - (enc p.2).size, true)
  | none => res.2.2 = false
theorem longB_enc (l : List Int) (h : Good l) : Same l (longB (enc l)) (longR l) := by
  have htd : l.takeWhile innerB ++ l.dropWhile innerB = l := List.takeWhile_append_dropWhile
  have hg : Good (l.takeWhile innerB ++ l.dropWhile innerB) := by rw [htd]; exact h
  have hs := spanB_enc innerB l h
  have ht := span_text innerB l h
  have hsz : (enc l).size = (enc (l.takeWhile innerB)).size + (enc (l.dropWhile innerB)).size := by rw [← enc_app_size, htd]
  unfold longB longR
  rw [ht, hs]
  have c0 : ((enc l).size = (enc (l.takeWhile innerB)).size ∨ ¬ (enc l).get! (enc (l.takeWhile innerB)).size = 46) ↔ (l.dropWhile innerB).head? ≠ some 46 := by
    cases hd : l.dropWhile innerB with
    | nil => rw [hd] at hsz; simp [hsz]; exact Or.inl rfl
    | cons r t =>
      have hr : goodR r := hg r (by rw [hd]; simp)
      have hw := wd_pos r hr
      have hb := byte_at (enc (l.takeWhile innerB)) r t hr 46 (by omega)
      rw [← enc_append, ← hd, htd] at hb
      rw [hd, enc_cons_size] at hsz
      have : ¬ (enc l).size = (enc (l.takeWhile innerB)).size := by omega
      simp only [this, false_or, List.head?_cons, ne_eq, Option.some.injEq]
      exact not_congr hb
  by_cases c : wordB (enc (l.takeWhile innerB)) = true ∧ (l.dropWhile innerB).head? ≠ some 46
  · rw [if_pos ⟨c.1, c0.2 c.2⟩, if_pos c]
    have e9 : (enc (l.takeWhile innerB)).size = (enc l).size - (enc (l.dropWhile innerB)).size := by omega
    show (_, (enc (l.takeWhile innerB)).size, true) = _
    rw [e9]
  · rw [if_neg (fun hc => c ⟨hc.1, c0.1 hc.2⟩), if_neg c]
    have hl := lgB_enc (enc l).size (l.takeWhile innerB) (l.dropWhile innerB) (nameR (l.takeWhile innerB)) hg
    rw [htd] at hl
    have hf : lgR (enc l).size (l.dropWhile innerB) (nameR (l.takeWhile innerB)) = lg (l.dropWhile innerB) (nameR (l.takeWhile innerB)) :=
      lgR_fuel _ _ _ _ (Nat.le_trans (dw_len _ _) (enc_len l h)) (Nat.le_refl _)
    rw [hf] at hl
    show Same l (⟨1, (enc l).extract 0 (lgB (enc l) (enc l).size (enc (l.takeWhile innerB)).size (nameR (l.takeWhile innerB))).1, 0, 0⟩, (lgB (enc l) (enc l).size (enc (l.takeWhile innerB)).size (nameR (l.takeWhile innerB))).1, (lgB (enc l) (enc l).size (enc (l.takeWhile innerB)).size (nameR (l.takeWhile innerB))).2 && decide ((lgB (enc l) (enc l).size (enc (l.takeWhile innerB)).size (nameR (l.takeWhile innerB))).1 ≤ 128)) _
    rw [hl]
    obtain ⟨p, hp⟩ := lgR_pre (l.dropWhile innerB).length (l.dropWhile innerB) (nameR (l.takeWhile innerB))
    change _ = p ++ (lg _ _).1 at hp
    generalize lg (l.dropWhile innerB) (nameR (l.takeWhile innerB)) = q at *
    obtain ⟨rest, b⟩ := q
    dsimp only at *
    have hl2 : l = (l.takeWhile innerB ++ p) ++ rest := by rw [List.append_assoc, ← hp, htd]
    generalize l.takeWhile innerB ++ p = pre at hl2
    have e1 : l.take (l.length - rest.length) = pre := by rw [hl2, List.length_append, Nat.add_sub_cancel, List.take_left]
    have e2 : (enc l).size - (enc rest).size = (enc pre).size := by rw [hl2, enc_app_size]; omega
    rw [e1, e2]
    have e3 : (enc l).extract 0 (enc pre).size = enc pre := by rw [hl2]; exact ext_pre _ _
    rw [e3]
    cases b with
    | false => rw [if_neg (by simp)]; rfl
    | true =>
      by_cases c3 : (enc pre).size ≤ 128
      · rw [if_pos ⟨rfl, c3⟩]
        show (_, _, _) = _
        rw [decide_eq_true c3, e2]; rfl
      · rw [if_neg (fun hc => c3 hc.2)]
        show (true && decide _) = false
        rw [decide_eq_false c3]; rfl
theorem tw_mem {p : Int → Bool} : ∀ (l : List Int) (x : Int), x ∈ l.takeWhile p → p x = true
  | [], x, h => by cases h
  | r :: t, x, h => by
    by_cases hp : p r = true
    · rw [List.takeWhile_cons_of_pos hp] at h
      rcases List.mem_cons.1 h with rfl | h
      · exact hp
      · exact tw_mem t x h
    · rw [List.takeWhile_cons_of_neg hp] at h; cases h
def nvR : List Int → Int → Option Int
  | [], v => some v
  | r :: t, v => if 1073741824 < 10 * v + (r - 48) then none else nvR t (10 * v + (r - 48))
theorem dig_range {r : Int} (h : digB r = true) : 48 ≤ r ∧ r ≤ 57 := by
  unfold digB classP digit blank high at h
  simp only [beq_iff_eq] at h
  repeat' split at h
  all_goals first | omega | (exfalso; omega)
theorem nvB_enc : ∀ (ds : List Int), (∀ r ∈ ds, digB r = true) → Good ds → ∀ (a : ByteArray) (f : Nat) (v : Int), 0 ≤ v → v ≤ 1073741824 → ds.length ≤ f → nvB (a ++ enc ds) f a.size v = nvR ds v
  | [], _, _, a, f, v, _, _, _ => by
    have e : (a ++ enc []).size = a.size := by rw [ba_size_append]; rfl
    rw [nvB_end (by omega)]; rfl
  | r :: t, hd, hg, a, f, v, h0, h1, hf => by
    rw [List.length_cons] at hf
    obtain ⟨f, rfl⟩ : ∃ f', f = f' + 1 := ⟨f - 1, by omega⟩
    have hr := hg r List.mem_cons_self
    have hw := wd_pos r hr
    obtain ⟨g1, g2⟩ := dig_range (hd r List.mem_cons_self)
    have hsz : (a ++ enc (r :: t)).size = a.size + ((Utf8.encode r).size + (enc t).size) := by rw [ba_size_append, enc_cons_size]
    have hde := dec_at a r t hr
    have hS : nvS (a ++ enc (r :: t)) a.size v = 10 * v + (r - 48) := by
      unfold nvS
      rw [hde]
      show wrap64 (wrap64 (10 * v) + wrap64 (wrap32 (((r.toNat : Nat) : Int) - 48))) = _
      rw [toNat_good hr, w32 (by omega) (by omega), w64 (x := 10 * v) (by omega) (by omega), w64 (x := r - 48) (by omega) (by omega), w64 (by omega) (by omega)]
    rw [nvR]
    by_cases c : 1073741824 < 10 * v + (r - 48)
    · rw [if_pos c, nvB_big (by omega) (by rw [hS]; exact c)]
    · rw [if_neg c, nvB_on (by omega) (by rw [hS]; exact c), hS, hde]
      have e : a ++ enc (r :: t) = (a ++ Utf8.encode r) ++ enc t := by rw [enc, ba_assoc]
      have := nvB_enc t (fun x hx => hd x (List.mem_cons_of_mem _ hx)) hg.tail (a ++ Utf8.encode r) f (10 * v + (r - 48)) (by omega) (by omega) (by omega)
      rw [ba_size_append, ← e] at this
      exact this
def numQ (l : List Int) (neg : Bool) : Option (Tk × List Int) :=
  if l.takeWhile digB = [] ∨ (l.dropWhile digB).takeWhile innerB ≠ [] then none
  else match nvR (l.takeWhile digB) 0 with
    | none => none
    | some v => some (⟨2, numP (sgnV neg v), sgnV neg v, 0⟩, l.dropWhile digB)
theorem numberA_enc (pre l : List Int) (neg : Bool) (h : Good (pre ++ l)) : Same (pre ++ l) (numberA (enc (pre ++ l)) (enc pre).size neg) (numQ l neg) := by
  have hgl := (good_app h).2
  have htd : l.takeWhile digB ++ l.dropWhile digB = l := List.takeWhile_append_dropWhile
  have e1 : (enc (pre ++ l)).extract (enc pre).size (enc (pre ++ l)).size = enc l := ext_post _ _
  unfold numberA numQ
  rw [e1, spanB_enc digB l hgl]
  have e2 : (enc pre).size + (enc (l.takeWhile digB)).size = (enc (pre ++ l.takeWhile digB)).size := (enc_app_size _ _).symm
  have e3 : pre ++ l = (pre ++ l.takeWhile digB) ++ l.dropWhile digB := by rw [List.append_assoc, htd]
  have e4 : (enc (pre ++ l)).extract ((enc pre).size + (enc (l.takeWhile digB)).size) (enc (pre ++ l)).size = enc (l.dropWhile digB) := by
    rw [e2]; conv => lhs; rw [e3]
    exact ext_post _ _
  have e5 : (enc (pre ++ l)).extract (enc pre).size ((enc pre).size + (enc (l.takeWhile digB)).size) = enc (l.takeWhile digB) := by
    have a1 : enc (pre ++ l) = enc pre ++ (enc (l.takeWhile digB) ++ enc (l.dropWhile digB)) := by rw [← enc_append, htd, enc_append]
    rw [a1]
    apply ba_ext
    rw [ext_list, ba_list, ba_list, ← ba_size (enc pre), List.drop_left, ← ba_size (enc (l.takeWhile digB)), Nat.add_sub_cancel_left, List.take_left]
  rw [e4, e5]
  have hz1 : ((enc (l.takeWhile digB)).size = 0) ↔ l.takeWhile digB = [] := enc_nil_iff _ (good_tw hgl)
  have hz2 : (0 < spanB innerB (enc (l.dropWhile digB))) ↔ (l.dropWhile digB).takeWhile innerB ≠ [] := by
    rw [Nat.pos_iff_ne_zero]; exact not_congr (span_zero innerB _ (good_dw hgl))
  by_cases c : l.takeWhile digB = [] ∨ (l.dropWhile digB).takeWhile innerB ≠ []
  · rw [if_pos (c.imp hz1.2 hz2.2), if_pos c]; rfl
  · rw [if_neg (fun hc => c (hc.imp hz1.1 hz2.1)), if_neg c]
    have hn := nvB_enc (l.takeWhile digB) (tw_mem l) (good_tw hgl) ⟨#[]⟩ (enc (l.takeWhile digB)).size 0 (by omega) (by omega) (enc_len _ (good_tw hgl))
    rw [ba_nil_left] at hn
    rw [show (⟨#[]⟩ : ByteArray).size = 0 from rfl] at hn
    rw [hn]
    cases nvR (l.takeWhile digB) 0 with
    | none => rfl
    | some v =>
      show (_, _, _) = _
      have : (enc pre).size + (enc (l.takeWhile digB)).size = (enc (pre ++ l)).size - (enc (l.dropWhile digB)).size := by
        rw [e2]; conv => rhs; rw [e3, enc_app_size]
        omega
      rw [this]
def runesOf (x : ByteArray) : List Int := x.data.toList.map fun b => (b.toNat : Int)
theorem signs_low : ∀ x ∈ signsL, (∀ b ∈ x.data.toList, b.toNat < 128) := by
  have h : (signsL.all fun x => x.data.toList.all fun b => decide (b.toNat < 128)) = true := by decide
  intro x hx b hb
  exact of_decide_eq_true (List.all_eq_true.1 (List.all_eq_true.1 h x hx) b hb)
theorem enc_low : ∀ (bs : List UInt8), (∀ b ∈ bs, b.toNat < 128) → (enc (bs.map fun b => (b.toNat : Int))).data.toList = bs
  | [], _ => rfl
  | b :: bs, h => by
    have hb := h b List.mem_cons_self
    have hg : goodR (b.toNat : Int) := ⟨by omega, by omega, by omega⟩
    show (Utf8.encode _ ++ enc _).data.toList = _
    rw [ba_list, encZ _ hg, enc_low bs (fun x hx => h x (List.mem_cons_of_mem _ hx))]
    unfold encodeRune encodeRuneZ
    rw [if_pos (by omega)]
    simp
theorem enc_runesOf (x : ByteArray) (h : ∀ b ∈ x.data.toList, b.toNat < 128) : enc (runesOf x) = x := ba_ext (enc_low _ h)
theorem low_prefix : ∀ (bs : List UInt8) (l : List Int), (∀ b ∈ bs, b.toNat < 128) → Good l → ((enc l).data.toList.take bs.length = bs ↔ (bs.map fun b => (b.toNat : Int)) <+: l)
  | [], l, _, _ => by simp
  | b :: bs, [], _, _ => by simp [enc]
  | b :: bs, r :: t, h, hg => by
    have hb := h b List.mem_cons_self
    have hr := hg r List.mem_cons_self
    obtain ⟨c, rest, h1, h2, h3⟩ := first_byte r t hr
    have hc := h2 b.toNat hb
    have eb : (b.toNat).toUInt8 = b := by apply UInt8.toNat_inj.1; rw [toUInt8_nat _ (by omega)]
    rw [eb] at hc
    rw [h1]
    simp only [List.length_cons, List.take_succ_cons, List.cons.injEq, List.map_cons, List.cons_prefix_cons]
    rw [hc]
    constructor
    · rintro ⟨rfl, e2⟩
      refine ⟨rfl, ?_⟩
      have e : (enc ((b.toNat : Int) :: t)).data.toList = b :: (enc t).data.toList := by
        show (Utf8.encode _ ++ enc t).data.toList = _
        rw [ba_list, encZ _ hr]
        unfold encodeRune encodeRuneZ
        rw [if_pos (by omega)]; simp
      rw [e] at h1
      have h1 := (List.cons.inj h1).2
      subst h1
      exact (low_prefix bs t (fun x hx => h x (List.mem_cons_of_mem _ hx)) hg.tail).1 e2
    · rintro ⟨rfl, e2⟩
      refine ⟨rfl, ?_⟩
      have e : (enc ((b.toNat : Int) :: t)).data.toList = b :: (enc t).data.toList := by
        show (Utf8.encode _ ++ enc t).data.toList = _
        rw [ba_list, encZ _ hr]
        unfold encodeRune encodeRuneZ
        rw [if_pos (by omega)]; simp
      rw [e] at h1
      have h1 := (List.cons.inj h1).2
      subst h1
      exact (low_prefix bs t (fun x hx => h x (List.mem_cons_of_mem _ hx)) hg.tail).2 e2
theorem prefixB_enc (l : List Int) (h : Good l) (x : ByteArray) (hx : x ∈ signsL) : prefixB (enc l) x = decide (runesOf x <+: l) := by
  unfold prefixB
  rw [← ba_size x]
  exact decide_eq_decide.2 (low_prefix _ l (signs_low x hx) h)
def sgR (l : List Int) : Option (Tk × List Int) :=
  match signsL.find? (fun x => decide (runesOf x <+: l)) with
  | none => none
  | some x => some (⟨3, x, 0, 0⟩, l.drop (runesOf x).length)
theorem find_congr {α : Type} {p q : α → Bool} : ∀ {l : List α}, (∀ x ∈ l, p x = q x) → l.find? p = l.find? q
  | [], _ => rfl
  | x :: l, h => by
    rw [List.find?_cons, List.find?_cons, h x List.mem_cons_self, find_congr (fun y hy => h y (List.mem_cons_of_mem _ hy))]
theorem sign_enc (l : List Int) (h : Good l) : Same l (signR (signsL.find? fun x => prefixB (enc l) x)) (sgR l) := by
  rw [find_congr (fun x hx => prefixB_enc l h x hx)]
  unfold sgR
  cases hf : signsL.find? (fun x => decide (runesOf x <+: l)) with
  | none => rfl
  | some x =>
    have hx := List.mem_of_find?_eq_some hf
    have hp := List.find?_some hf
    obtain ⟨t, ht⟩ := of_decide_eq_true hp
    show (_, _, _) = _
    rw [← ht, List.drop_left, enc_app_size, enc_runesOf x (signs_low x hx)]
    have : x.size + (enc t).size - (enc t).size = x.size := by omega
    rw [this]
def tokR : List Int → Option (Tk × List Int)
  | [] => none
  | r :: t => if classP r = 1 then longR (r :: t) else if classP r = 2 then numQ (r :: t) false else if r = 126 then numQ t true else sgR (r :: t)
theorem tokR_cons (r : Int) (t : List Int) : tokR (r :: t) = if classP r = 1 then longR (r :: t) else if classP r = 2 then numQ (r :: t) false else if r = 126 then numQ t true else sgR (r :: t) := rfl
theorem tokB_enc (r : Int) (t : List Int) (h : Good (r :: t)) : Same (r :: t) (tokB (enc (r :: t))) (tokR (r :: t)) := by
  have hr := h r List.mem_cons_self
  rw [tokR_cons]
  unfold tokB numberB
  rw [firstB_enc r t hr]
  have h126 := byte_zero r t hr 126 (by omega)
  rw [show (126 : Nat).toUInt8 = (126 : UInt8) from rfl] at h126
  by_cases c1 : classP r = 1
  · rw [if_pos c1, if_pos c1]; exact longB_enc _ h
  · rw [if_neg c1, if_neg c1]
    by_cases c2 : classP r = 2
    · have hne : ¬ r = 126 := by
        have := dig_range (r := r) (by unfold digB; rw [c2]; rfl)
        omega
      rw [if_pos (Or.inl c2), if_pos c2, if_neg (fun e => hne (h126.1 e))]
      exact numberA_enc [] (r :: t) false h
    · rw [if_neg c2]
      by_cases c3 : r = 126
      · subst c3
        rw [if_pos (Or.inr (h126.2 rfl)), if_pos (h126.2 rfl), if_pos rfl]
        exact numberA_enc [126] t true h
      · rw [if_neg (fun hc => hc.elim c2 (fun e => c3 (h126.1 e))), if_neg c3]
        exact sign_enc _ h
end Go.Proofs.YtdeingogdblddaaDoor.RP
namespace Go.Proofs.YtdeingogdblddaaDoor.RP
set_option linter.unusedVariables false
set_option linter.unusedSimpArgs false
open Go.RowKit Go.Lib Go.Proofs.YtdeingogdblddaaDoorW.PrintWords Go.Proofs.YtdeingogdblddaaDoorW.PrintLast Go.Proofs.YtdeingogdblddaaDoorW.PrintMore Go.Proofs.YtdeingogdblddaaDoor.RP Go.Proofs.YtdeingogdblddaaDoor.RW Go.Proofs.YtdeingogdblddaaDoor.PAll
theorem inner_letter {r : Int} (h : classP r = 1) : innerB r = true := by unfold innerB; simp [h]
theorem longR_len (r : Int) (t : List Int) (p : Tk × List Int) (hr : innerB r = true) (h : longR (r :: t) = some p) : p.2.length < (r :: t).length ∧ ∃ pre, r :: t = pre ++ p.2 := by
  have htd : (r :: t).takeWhile innerB ++ (r :: t).dropWhile innerB = r :: t := List.takeWhile_append_dropWhile
  have hd : ((r :: t).dropWhile innerB).length ≤ t.length := by rw [List.dropWhile_cons_of_pos hr]; exact dw_len _ _
  unfold longR at h
  split at h
  · cases h
    exact ⟨by simp only [List.length_cons]; omega, _, htd.symm⟩
  · split at h
    · cases h
      obtain ⟨q, hq⟩ := lgR_pre ((r :: t).dropWhile innerB).length ((r :: t).dropWhile innerB) (nameR ((r :: t).takeWhile innerB))
      change _ = q ++ (lg _ _).1 at hq
      dsimp only
      have hl := congrArg List.length hq
      rw [List.length_append] at hl
      exact ⟨by simp only [List.length_cons]; omega, (r :: t).takeWhile innerB ++ q, by rw [List.append_assoc, ← hq, htd]⟩
    · cases h
theorem numQ_len (l : List Int) (neg : Bool) (p : Tk × List Int) (h : numQ l neg = some p) : p.2.length < l.length ∧ ∃ pre, l = pre ++ p.2 := by
  have htd : l.takeWhile digB ++ l.dropWhile digB = l := List.takeWhile_append_dropWhile
  unfold numQ at h
  split at h
  · cases h
  · rename_i c
    split at h
    · cases h
    · cases h
      have hl := congrArg List.length htd
      rw [List.length_append] at hl
      have : 1 ≤ (l.takeWhile digB).length := by
        rcases hd : l.takeWhile digB with _ | ⟨x, y⟩
        · exact absurd (Or.inl hd) c
        · simp
      exact ⟨by dsimp only; omega, _, htd.symm⟩
theorem sgR_len (l : List Int) (p : Tk × List Int) (h : sgR l = some p) : p.2.length < l.length ∧ ∃ pre, l = pre ++ p.2 := by
  unfold sgR at h
  cases hf : signsL.find? (fun x => decide (runesOf x <+: l)) with
  | none => rw [hf] at h; cases h
  | some x =>
    rw [hf] at h
    cases h
    have hx := List.mem_of_find?_eq_some hf
    have hp := List.find?_some hf
    obtain ⟨t, ht⟩ := of_decide_eq_true hp
    have h1 : 1 ≤ (runesOf x).length := by unfold runesOf; rw [List.length_map, ba_size]; exact signs_size x hx
    refine ⟨?_, runesOf x, ?_⟩
    · rw [← ht, List.drop_left, List.length_append]; dsimp only; omega
    · rw [← ht, List.drop_left]
theorem tokR_len : ∀ (l : List Int) (p : Tk × List Int), tokR l = some p → p.2.length < l.length ∧ ∃ pre, l = pre ++ p.2
  | [], p, h => by cases h
  | r :: t, p, h => by
    rw [tokR_cons] at h
    split at h
    · rename_i c; exact longR_len r t p (inner_letter c) h
    · split at h
      · exact numQ_len _ _ p h
      · split at h
        · obtain ⟨h1, pre, e⟩ := numQ_len _ _ p h
          exact ⟨by rw [List.length_cons]; omega, r :: pre, by rw [e]; rfl⟩
        · exact sgR_len _ p h
def lexR : Nat → List Int → Option (List (Tk × List Int))
  | 0, _ => some []
  | _ + 1, [] => some []
  | f + 1, r :: t =>
    if classP r = 3 then lexR f t
    else if r = 40 ∧ t.head? = some 42 then (match comR (r :: t) 0 with
      | none => none
      | some u => lexR f u)
    else match tokR (r :: t) with
      | none => none
      | some p => (lexR f p.2).map fun L => (p.1, r :: t) :: L
theorem lexR_fuel : ∀ (f g : Nat) (l : List Int), l.length ≤ f → l.length ≤ g → lexR f l = lexR g l
  | 0, 0, _, _, _ => rfl
  | 0, g + 1, [], _, _ => rfl
  | f + 1, 0, [], _, _ => rfl
  | f + 1, g + 1, [], _, _ => rfl
  | f + 1, g + 1, r :: t, h1, h2 => by
    rw [List.length_cons] at h1 h2
    rw [lexR, lexR]
    split
    · exact lexR_fuel f g t (by omega) (by omega)
    · split
      · cases hc : comR (r :: t) 0 with
        | none => rfl
        | some u =>
          have := (comR_len _ _ _ hc).1
          rw [List.length_cons] at this
          exact lexR_fuel f g u (by omega) (by omega)
      · cases ht : tokR (r :: t) with
        | none => rfl
        | some p =>
          have := (tokR_len _ _ ht).1
          rw [List.length_cons] at this
          show Option.map _ (lexR f p.2) = Option.map _ (lexR g p.2)
          rw [lexR_fuel f g p.2 (by omega) (by omega)]
def lex (l : List Int) : Option (List (Tk × List Int)) := lexR l.length l
theorem lex_nil : lex [] = some [] := rfl
theorem lex_blank {r : Int} {t : List Int} (h : classP r = 3) : lex (r :: t) = lex t := by
  unfold lex; rw [List.length_cons, lexR, if_pos h]
theorem lex_com {r : Int} {t : List Int} (h : ¬ classP r = 3) (h2 : r = 40 ∧ t.head? = some 42) : lex (r :: t) = match comR (r :: t) 0 with | none => none | some u => lex u := by
  unfold lex; rw [List.length_cons, lexR, if_neg h, if_pos h2]
  cases hc : comR (r :: t) 0 with
  | none => rfl
  | some u =>
    have := (comR_len _ _ _ hc).1
    rw [List.length_cons] at this
    exact lexR_fuel _ _ u (by omega) (by omega)
theorem lex_tok {r : Int} {t : List Int} (h : ¬ classP r = 3) (h2 : ¬ (r = 40 ∧ t.head? = some 42)) : lex (r :: t) = match tokR (r :: t) with | none => none | some p => (lex p.2).map fun L => (p.1, r :: t) :: L := by
  unfold lex; rw [List.length_cons, lexR, if_neg h, if_neg h2]
  cases ht : tokR (r :: t) with
  | none => rfl
  | some p =>
    have := (tokR_len _ _ ht).1
    rw [List.length_cons] at this
    show Option.map _ (lexR _ p.2) = Option.map _ (lexR _ p.2)
    rw [lexR_fuel _ p.2.length p.2 (by omega) (by omega)]
theorem lex_dw : ∀ l : List Int, lex (l.dropWhile blkB) = lex l
  | [] => rfl
  | r :: t => by
    by_cases h : classP r = 3
    · rw [List.dropWhile_cons_of_pos (by unfold blkB; rw [h]; rfl), lex_blank h]; exact lex_dw t
    · rw [List.dropWhile_cons_of_neg (by unfold blkB; simpa using h)]
def LexSame (s : ByteArray) (acc : List Tk) (res : List Tk × Int × Int) : Option (List (Tk × List Int)) → Prop
  | some L => res = (acc ++ L.map (fun p => setAt p.1 ((s.size - (enc p.2).size : Nat) : Int)), 0, 0)
  | none => ∃ k : Nat, k ≤ s.size ∧ res = ([], (k : Int), 5)
theorem open_enc (l : List Int) (h : Good l) : prefixB (enc l) opB = decide ([40, 42] <+: l) := by
  unfold prefixB
  exact decide_eq_decide.2 (low_prefix [40, 42] l (by decide) h)
theorem lx_enc : ∀ (n : Nat) (l : List Int), l.length ≤ n → ∀ (pre : List Int) (f : Nat) (acc : List Tk), Good (pre ++ l) → (enc l).size ≤ f → LexSame (enc (pre ++ l)) acc (lxB (enc (pre ++ l)) f (enc pre).size acc) (lex l) := by
  intro n
  induction n with
  | zero =>
    intro l hl pre f acc hg hf
    have e : l = [] := List.eq_nil_of_length_eq_zero (by omega)
    subst e
    rw [lxB_end (by rw [List.append_nil]; omega), lex_nil]
    show _ = _
    simp
  | succ n ih =>
    intro l hl pre f acc hg hf
    match l, hl, hg, hf with
    | [], _, _, _ =>
      rw [lxB_end (by rw [List.append_nil]; omega), lex_nil]
      show _ = _
      simp
    | r :: t, hl, hg, hf =>
      have hgl : Good (r :: t) := (good_app hg).2
      have hr := hgl r List.mem_cons_self
      have hw := wd_pos r hr
      have hsz := enc_app_size pre (r :: t)
      rw [enc_cons_size] at hsz hf
      rw [List.length_cons] at hl
      obtain ⟨f, rfl⟩ : ∃ f', f = f' + 1 := ⟨f - 1, by omega⟩
      have hx : (enc (pre ++ r :: t)).extract (enc pre).size (enc (pre ++ r :: t)).size = enc (r :: t) := ext_post _ _
      rw [lxB, if_pos (by omega), hx]
      -- going on behind a part of what is left
      have go : ∀ (q u : List Int) (acc' : List Tk), r :: t = q ++ u → u.length ≤ n → (enc u).size ≤ f → LexSame (enc (pre ++ r :: t)) acc' (lxB (enc (pre ++ r :: t)) f (enc (pre ++ q)).size acc') (lex u) := fun q u acc' he hu hfu => by
        have e : pre ++ r :: t = (pre ++ q) ++ u := by rw [he, List.append_assoc]
        rw [e]
        exact ih u hu (pre ++ q) f acc' (by rw [← e]; exact hg) hfu
      by_cases c1 : classP r = 3
      · have hb : blkB r = true := by unfold blkB; rw [c1]; rfl
        have htw : 0 < spanB blkB (enc (r :: t)) := by
          rw [spanB_enc blkB _ hgl, List.takeWhile_cons_of_pos hb, enc_cons_size]; omega
        have e5 : (enc pre).size + spanB blkB (enc (r :: t)) = (enc (pre ++ (r :: t).takeWhile blkB)).size := by rw [spanB_enc blkB _ hgl, enc_app_size]
        rw [if_pos htw, e5, ← lex_dw]
        have hsum : (enc (r :: t)).size = (enc ((r :: t).takeWhile blkB)).size + (enc ((r :: t).dropWhile blkB)).size := by rw [← enc_app_size, List.takeWhile_append_dropWhile]
        rw [spanB_enc blkB _ hgl] at htw
        rw [enc_cons_size] at hsum
        refine go _ _ acc (List.takeWhile_append_dropWhile).symm ?_ (by omega)
        rw [List.dropWhile_cons_of_pos hb]
        have := dw_len blkB t; omega
      · have hb : blkB r = false := by unfold blkB; simpa using c1
        have htw : ¬ 0 < spanB blkB (enc (r :: t)) := by
          rw [spanB_enc blkB _ hgl, List.takeWhile_cons_of_neg (by simp [hb])]; simp [enc]; rfl
        rw [if_neg htw, open_enc _ hgl]
        by_cases c2 : r = 40 ∧ t.head? = some 42
        · have hp : [40, 42] <+: r :: t := by
            obtain ⟨rfl, h2⟩ := c2
            match t, h2 with
            | y :: u, h2 => simp at h2; subst h2; exact ⟨u, rfl⟩
          rw [if_pos (decide_eq_true hp), comment_enc _ hgl, lex_com c1 c2]
          cases hc : comR (r :: t) 0 with
          | none =>
            rw [if_pos (show comN _ none = 0 from rfl)]
            exact ⟨(enc pre).size, by omega, rfl⟩
          | some u =>
            obtain ⟨hu1, q, hq⟩ := comR_len _ _ _ hc
            have hsum : (enc (r :: t)).size = (enc q).size + (enc u).size := by rw [hq, enc_app_size]
            have hq2 : 1 ≤ (enc q).size := by
              have hgq : Good q := (good_app (by rw [hq] at hgl; exact hgl)).1
              have := enc_len q hgq
              have h3 := congrArg List.length hq
              rw [List.length_append] at h3
              simp only [List.length_cons] at h3 hu1
              omega
            have hcn : comN (enc (r :: t)).size (some u) = ((enc q).size : Int) := by
              show (((enc (r :: t)).size - (enc u).size : Nat) : Int) = _
              congr 1; omega
            rw [hcn, if_neg (by omega), Int.toNat_natCast, ← enc_app_size]
            rw [enc_cons_size] at hsum
            exact go q u acc hq (by simp only [List.length_cons] at hu1; omega) (by omega)
        · have hp : ¬ [40, 42] <+: r :: t := fun ⟨u, hu⟩ => c2 (by
            injection hu with h1 h2
            exact ⟨h1.symm, by rw [← h2]; rfl⟩)
          rw [decide_eq_false hp, if_neg (by simp), lex_tok c1 c2]
          have hs := tokB_enc r t hgl
          cases ht : tokR (r :: t) with
          | none =>
            rw [ht] at hs
            have hs' : (tokB (enc (r :: t))).2.2 = false := hs
            rw [hs', if_neg (by simp)]
            exact ⟨(enc pre).size, by omega, rfl⟩
          | some p =>
            rw [ht] at hs
            have hs' : tokB (enc (r :: t)) = (p.1, (enc (r :: t)).size - (enc p.2).size, true) := hs
            obtain ⟨hu1, q, hq⟩ := tokR_len _ _ ht
            have hsum : (enc (r :: t)).size = (enc q).size + (enc p.2).size := by conv => lhs; rw [hq, enc_app_size]
            have hq2 : 1 ≤ (enc q).size := by
              have hgq : Good q := (good_app (by rw [hq] at hgl; exact hgl)).1
              have := enc_len q hgq
              have h3 := congrArg List.length hq
              rw [List.length_append] at h3
              simp only [List.length_cons] at h3 hu1
              omega
            have e6 : (enc (r :: t)).size - (enc p.2).size = (enc q).size := by omega
            rw [hs', if_pos rfl, e6, ← enc_app_size]
            dsimp only
            rw [enc_cons_size] at hsum
            have := go q p.2 (acc ++ [setAt p.1 ((enc pre).size : Int)]) hq (by simp only [List.length_cons] at hu1; omega) (by omega)
            have e7 : (enc (pre ++ r :: t)).size - (enc (r :: t)).size = (enc pre).size := by rw [enc_app_size]; omega
            cases hL : lex p.2 with
            | none => rw [hL] at this; exact this
            | some L =>
              rw [hL] at this
              have h8 : lxB (enc (pre ++ r :: t)) f (enc (pre ++ q)).size (acc ++ [setAt p.1 ((enc pre).size : Int)]) = (acc ++ [setAt p.1 ((enc pre).size : Int)] ++ L.map _, 0, 0) := this
              show lxB _ _ _ _ = (acc ++ ((p.1, r :: t) :: L).map _, 0, 0)
              rw [h8, List.map_cons, List.append_assoc]
              dsimp only
              rw [e7]; rfl
theorem lexB_enc (l : List Int) (h : TextL l) (hz : (enc l).size ≤ 16384) : LexSame (enc l) [] (lexB (enc l)) (lex l) := by
  unfold lexB
  rw [check_enc l h hz, if_pos rfl]
  exact lx_enc l.length l (Nat.le_refl _) [] (enc l).size [] h.good (Nat.le_refl _)
/-- Whatever the bytes: a text that is lexed as its runes are, or none. -/
theorem lexB_any (s : ByteArray) (hs : s.size ≤ 16384) : (∃ l, TextL l ∧ s = enc l ∧ LexSame s [] (lexB s) (lex l)) ∨ ((checkP s).2 ≠ 0 ∧ lexB s = ([], (checkP s).1, (checkP s).2)) := by
  by_cases h : (checkP s).2 = 0
  · obtain ⟨l, h1, rfl, h3⟩ := text_of_check s h
    exact .inl ⟨l, h1, rfl, lexB_enc l h1 h3⟩
  · exact .inr ⟨h, by unfold lexB; rw [if_neg h]⟩
end Go.Proofs.YtdeingogdblddaaDoor.RP
namespace Go.Proofs.YtdeingogdblddaaDoor.RP
set_option linter.unusedVariables false
set_option linter.unusedSimpArgs false
open Go.RowKit Go.Lib Go.Proofs.YtdeingogdblddaaDoorW.PrintWords Go.Proofs.YtdeingogdblddaaDoorW.PrintLast Go.Proofs.YtdeingogdblddaaDoorW.PrintMore Go.Proofs.YtdeingogdblddaaDoor.RP Go.Proofs.YtdeingogdblddaaDoor.RW Go.Proofs.YtdeingogdblddaaDoor.PAll
/-- Nothing that a name, a number might go on with. -/
def Stops (u : List Int) : Prop := ∀ x, u.head? = some x → innerB x = false ∧ x ≠ 46
theorem stops_nil : Stops [] := fun x h => by cases h
theorem stops_blank (w : List Int) : Stops (32 :: w) := fun x h => by
  simp at h; subst h; exact ⟨by decide, by omega⟩
theorem stops_app {l : List Int} (w : List Int) (h : Stops l) : Stops (l ++ 32 :: w) := by
  cases l with
  | nil => exact stops_blank w
  | cons r t => exact h
theorem tw_all {p : Int → Bool} : ∀ (a u : List Int), (∀ x ∈ a, p x = true) → (∀ x, u.head? = some x → p x = false) → (a ++ u).takeWhile p = a ∧ (a ++ u).dropWhile p = u
  | [], u, _, h => by
    cases u with
    | nil => exact ⟨rfl, rfl⟩
    | cons x u =>
      have := h x rfl
      exact ⟨by rw [List.nil_append, List.takeWhile_cons_of_neg (by simp [this])], by rw [List.nil_append, List.dropWhile_cons_of_neg (by simp [this])]⟩
  | y :: a, u, ha, h => by
    obtain ⟨h1, h2⟩ := tw_all a u (fun x hx => ha x (List.mem_cons_of_mem _ hx)) h
    have := ha y List.mem_cons_self
    rw [List.cons_append, List.takeWhile_cons_of_pos this, List.dropWhile_cons_of_pos this, h1, h2]
    exact ⟨rfl, rfl⟩
theorem dw_head {p : Int → Bool} : ∀ (l : List Int) (x : Int), (l.dropWhile p).head? = some x → p x = false
  | [], x, h => by cases h
  | r :: t, x, h => by
    by_cases hp : p r = true
    · rw [List.dropWhile_cons_of_pos hp] at h; exact dw_head t x h
    · rw [List.dropWhile_cons_of_neg hp] at h
      simp at h; subst h; simpa using hp
theorem head_app {p u : List Int} {x : Int} (h : (p ++ u).head? = some x) : p.head? = some x ∨ (p = [] ∧ u.head? = some x) := by
  cases p with
  | nil => exact .inr ⟨rfl, h⟩
  | cons y p => exact .inl h
theorem take_pre {l pre rest : List Int} (h : l = pre ++ rest) : l.take (l.length - rest.length) = pre := by rw [h, List.length_append, Nat.add_sub_cancel, List.take_left]
theorem lgR_swap : ∀ (f : Nat) (l : List Int) (ok : Bool) (rest : List Int), (∀ x, l.head? = some x → innerB x = false) → l.length ≤ f → lgR f l ok = (rest, true) →
    Stops rest ∧ ∃ p, l = p ++ rest ∧ ∀ u, Stops u → (∀ x, (p ++ u).head? = some x → innerB x = false) ∧ lg (p ++ u) ok = (u, true) := by
  intro f
  induction f with
  | zero =>
    intro l ok rest hl hf h
    have e : l = [] := List.eq_nil_of_length_eq_zero (by omega)
    subst e
    cases h
    refine ⟨stops_nil, [], rfl, fun u hu => ⟨fun x hx => (hu x hx).1, ?_⟩⟩
    cases u with
    | nil => rfl
    | cons x u => unfold lg; rw [List.nil_append, List.length_cons, lgR, if_neg (fun hc => (hu x rfl).2 (by simpa using hc.2))]
  | succ f ih =>
    intro l ok rest hl hf h
    rw [lgR] at h
    split at h
    · rename_i c
      obtain ⟨rfl, c2⟩ := c
      match l, c2, hl, hf, h with
      | r :: t, c2, hl, hf, h =>
        simp at c2
        subst c2
        rw [List.tail_cons] at h
        rw [List.length_cons] at hf
        obtain ⟨h1, p, hp, hu⟩ := ih (t.dropWhile innerB) _ rest (fun x hx => dw_head _ x hx) (by have := dw_len innerB t; omega) h
        refine ⟨h1, 46 :: t.takeWhile innerB ++ p, by rw [List.append_assoc, ← hp, List.cons_append, List.takeWhile_append_dropWhile], fun u hsu => ⟨fun x hx => ?_, ?_⟩⟩
        · simp at hx; subst hx; decide
        · obtain ⟨g1, g2⟩ := hu u hsu
          obtain ⟨t1, t2⟩ := tw_all (t.takeWhile innerB) (p ++ u) (tw_mem _) g1
          have e : 46 :: t.takeWhile innerB ++ p ++ u = 46 :: (t.takeWhile innerB ++ (p ++ u)) := by simp
          unfold lg at g2 ⊢
          rw [e, List.length_cons, lgR, if_pos ⟨rfl, rfl⟩, List.tail_cons, t1, t2, ← g2]
          exact lgR_fuel _ _ _ _ (by simp only [List.length_append]; omega) (Nat.le_refl _)
    · rename_i c
      cases h
      have hst : Stops l := fun x hx => ⟨hl x hx, fun e => c ⟨rfl, by rw [hx, e]⟩⟩
      refine ⟨hst, [], rfl, fun u hu => ⟨fun x hx => (hu x hx).1, ?_⟩⟩
      cases u with
      | nil => rfl
      | cons x u => unfold lg; rw [List.nil_append, List.length_cons, lgR, if_neg (fun hc => (hu x rfl).2 (by simpa using hc.2))]
theorem longR_swap (l : List Int) (p : Tk × List Int) (h : longR l = some p) :
    Stops p.2 ∧ ∃ tx, l = tx ++ p.2 ∧ p.1.f1 = enc tx ∧ ∀ u, Stops u → longR (tx ++ u) = some (p.1, u) := by
  have htd : l.takeWhile innerB ++ l.dropWhile innerB = l := List.takeWhile_append_dropWhile
  unfold longR at h
  split at h
  · rename_i c
    cases h
    refine ⟨fun x hx => ⟨dw_head _ x hx, fun e => c.2 (by rw [hx, e])⟩, _, htd.symm, rfl, fun u hu => ?_⟩
    obtain ⟨t1, t2⟩ := tw_all (l.takeWhile innerB) u (tw_mem _) (fun x hx => (hu x hx).1)
    unfold longR
    rw [t1, t2, if_pos ⟨c.1, fun e => (hu 46 e).2 rfl⟩]
  · rename_i c
    split at h
    · rename_i c2
      cases h
      have hlg : lgR (l.dropWhile innerB).length (l.dropWhile innerB) (nameR (l.takeWhile innerB)) = ((lg (l.dropWhile innerB) (nameR (l.takeWhile innerB))).1, true) := by
        have := c2.1
        show lg _ _ = _
        generalize lg (l.dropWhile innerB) (nameR (l.takeWhile innerB)) = q at *
        obtain ⟨q1, q2⟩ := q
        simp only at this
        rw [this]
      obtain ⟨h1, q, hq, hu⟩ := lgR_swap _ _ _ _ (fun x hx => dw_head _ x hx) (Nat.le_refl _) hlg
      have hword : wordB (enc (l.takeWhile innerB)) = false := by
        cases hw : wordB (enc (l.takeWhile innerB)) with
        | false => rfl
        | true =>
          have hn : nameR (l.takeWhile innerB) = false := by unfold nameR nameB; rw [hw]; simp
          rw [hn] at hlg
          have : (lgR (l.dropWhile innerB).length (l.dropWhile innerB) false).2 = false := by
            generalize l.dropWhile innerB = d
            cases d with
            | nil => rfl
            | cons x d => rw [List.length_cons, lgR, if_neg (by simp)]
          rw [hlg] at this
          cases this
      have e0 : l = (l.takeWhile innerB ++ q) ++ (lg (l.dropWhile innerB) (nameR (l.takeWhile innerB))).1 := by rw [List.append_assoc, ← hq, htd]
      have e1 := take_pre e0
      refine ⟨h1, l.takeWhile innerB ++ q, e0, by rw [e1], fun u hsu => ?_⟩
      obtain ⟨g1, g2⟩ := hu u hsu
      obtain ⟨t1, t2⟩ := tw_all (l.takeWhile innerB) (q ++ u) (tw_mem _) g1
      rw [List.append_assoc]
      unfold longR
      rw [t1, t2, if_neg (fun hc => by rw [hword] at hc; exact absurd hc.1 (by simp)), g2]
      dsimp only
      have e2 : (l.takeWhile innerB ++ (q ++ u)).take ((l.takeWhile innerB ++ (q ++ u)).length - u.length) = l.takeWhile innerB ++ q := by
        rw [← List.append_assoc, List.length_append, Nat.add_sub_cancel, List.take_left]
      rw [e1] at c2
      rw [e2, e1, if_pos ⟨rfl, c2.2⟩]
    · cases h
theorem dig_inner {r : Int} (h : digB r = true) : innerB r = true := by
  unfold digB at h; unfold innerB
  simp at h; simp [h]
theorem numQ_swap (l : List Int) (neg : Bool) (p : Tk × List Int) (h : numQ l neg = some p) :
    ∃ tx v, l = tx ++ p.2 ∧ tx ≠ [] ∧ (∀ x ∈ tx, digB x = true) ∧ nvR tx 0 = some v ∧ p.1 = ⟨2, numP (sgnV neg v), sgnV neg v, 0⟩ ∧ (∀ x, p.2.head? = some x → innerB x = false) := by
  have htd : l.takeWhile digB ++ l.dropWhile digB = l := List.takeWhile_append_dropWhile
  unfold numQ at h
  split at h
  · cases h
  · rename_i c
    cases hv : nvR (l.takeWhile digB) 0 with
    | none => rw [hv] at h; cases h
    | some v =>
      rw [hv] at h
      cases h
      refine ⟨_, v, htd.symm, fun e => c (Or.inl e), tw_mem _, hv, rfl, fun x hx => ?_⟩
      cases hi : innerB x with
      | false => rfl
      | true =>
        exfalso
        refine c (Or.inr ?_)
        dsimp only at hx
        cases hd : l.dropWhile digB with
        | nil => rw [hd] at hx; cases hx
        | cons y d =>
          rw [hd] at hx
          simp at hx; subst hx
          rw [List.takeWhile_cons_of_pos hi]; simp
theorem numQ_mk (tx u : List Int) (neg : Bool) (v : Int) (h1 : tx ≠ []) (h2 : ∀ x ∈ tx, digB x = true) (h3 : nvR tx 0 = some v) (h4 : ∀ x, u.head? = some x → innerB x = false) :
    numQ (tx ++ u) neg = some (⟨2, numP (sgnV neg v), sgnV neg v, 0⟩, u) := by
  obtain ⟨t1, t2⟩ := tw_all tx u h2 (fun x hx => by
    cases hd : digB x with
    | false => rfl
    | true => have := dig_inner hd; rw [h4 x hx] at this; cases this)
  have t3 : u.takeWhile innerB = [] := by
    cases u with
    | nil => rfl
    | cons x u => rw [List.takeWhile_cons_of_neg (by rw [h4 x rfl]; simp)]
  unfold numQ
  rw [t1, t2, t3, h3, if_neg (fun hc => hc.elim h1 (fun h => h rfl))]
theorem nvR_snoc : ∀ (ds : List Int) (d v : Int), nvR (ds ++ [d]) v = (nvR ds v).bind fun x => if 1073741824 < 10 * x + (d - 48) then none else some (10 * x + (d - 48))
  | [], d, v => by simp [nvR]
  | r :: ds, d, v => by
    rw [List.cons_append, nvR, nvR]
    split
    · rfl
    · exact nvR_snoc ds d _
theorem nvR_range : ∀ (ds : List Int) (v x : Int), (∀ r ∈ ds, digB r = true) → 0 ≤ v → v ≤ 1073741824 → nvR ds v = some x → 0 ≤ x ∧ x ≤ 1073741824
  | [], v, x, _, h0, h1, h => by cases h; exact ⟨h0, h1⟩
  | r :: ds, v, x, hd, h0, h1, h => by
    rw [nvR] at h
    have := dig_range (hd r List.mem_cons_self)
    split at h
    · cases h
    · exact nvR_range ds _ x (fun y hy => hd y (List.mem_cons_of_mem _ hy)) (by omega) (by omega) h
theorem digL_dig : ∀ (f m : Nat), ∀ x ∈ digL f m, 48 ≤ x ∧ x ≤ 57
  | 0, m, x, h => by cases h
  | f + 1, m, x, h => by
    unfold digL at h
    rcases List.mem_cons.1 h with rfl | h
    · omega
    · split at h
      · cases h
      · exact digL_dig f _ x h
theorem class_dig {x : Int} (h0 : 48 ≤ x) (h1 : x ≤ 57) : classP x = 2 := by
  unfold classP digit
  rw [if_neg (by omega), if_pos ⟨h0, h1⟩]
theorem dig_of {x : Int} (h0 : 48 ≤ x) (h1 : x ≤ 57) : digB x = true := by unfold digB; rw [class_dig h0 h1]; rfl
theorem nvR_digL : ∀ (f m : Nat), 1 ≤ f → m < 10 ^ f → m ≤ 1073741824 → nvR (digL f m).reverse 0 = some (m : Int)
  | 0, m, h, _, _ => by omega
  | f + 1, m, h, h1, h2 => by
    unfold digL
    rw [List.reverse_cons, nvR_snoc]
    by_cases c : m / 10 = 0
    · rw [if_pos c]
      simp only [List.reverse_nil, nvR, Option.bind_some]
      rw [if_neg (by omega)]
      congr 1; omega
    · rw [if_neg c]
      have hf : 1 ≤ f := by
        cases f with
        | zero => omega
        | succ f => omega
      rw [nvR_digL f (m / 10) hf (by rw [Nat.pow_succ] at h1; omega) (by omega)]
      simp only [Option.bind_some]
      rw [if_neg (by omega)]
      congr 1; omega
def numRunes (n : Int) : List Int := (if n < 0 then [126] else []) ++ (digL 20 n.natAbs).reverse
theorem digL_ne (f m : Nat) : digL (f + 1) m ≠ [] := by unfold digL; simp
theorem tok_num (n : Int) (h0 : -1073741824 ≤ n) (h1 : n ≤ 1073741824) : tokR (numRunes n) = some (⟨2, numP n, n, 0⟩, []) := by
  have hd : ∀ x ∈ (digL 20 n.natAbs).reverse, 48 ≤ x ∧ x ≤ 57 := fun x hx => digL_dig _ _ x (List.mem_reverse.1 hx)
  have hne : (digL 20 n.natAbs).reverse ≠ [] := by simpa using digL_ne 19 n.natAbs
  have hv := nvR_digL 20 n.natAbs (by omega) (Nat.lt_of_le_of_lt (show n.natAbs ≤ 1073741824 by omega) (by decide)) (by omega)
  unfold numRunes
  by_cases c : n < 0
  · rw [if_pos c]
    rw [List.singleton_append, tokR_cons, if_neg (by decide), if_neg (by decide), if_pos rfl]
    have := numQ_mk _ [] true _ hne (fun x hx => dig_of (hd x hx).1 (hd x hx).2) hv (fun x hx => by cases hx)
    rw [List.append_nil] at this
    rw [this]
    have e : sgnV true (n.natAbs : Int) = n := by unfold sgnV; rw [if_pos rfl, w64 (by omega) (by omega)]; omega
    rw [e]
  · rw [if_neg c, List.nil_append]
    obtain ⟨x, t, hx⟩ : ∃ x t, (digL 20 n.natAbs).reverse = x :: t := by
      cases hh : (digL 20 n.natAbs).reverse with
      | nil => exact absurd hh hne
      | cons x t => exact ⟨x, t, rfl⟩
    have := numQ_mk _ [] false _ hne (fun x hx => dig_of (hd x hx).1 (hd x hx).2) hv (fun x hx => by cases hx)
    rw [List.append_nil] at this
    have hc := hd x (by rw [hx]; exact List.mem_cons_self)
    rw [hx] at this ⊢
    rw [tokR_cons, class_dig hc.1 hc.2, if_neg (by omega), if_pos rfl, this]
    have e : sgnV false (n.natAbs : Int) = n := by unfold sgnV; rw [if_neg (by simp)]; omega
    rw [e]
theorem prefix_blank : ∀ (m l w : List Int), (32 : Int) ∉ m → (m <+: l ++ 32 :: w ↔ m <+: l)
  | [], l, w, _ => by simp
  | x :: m, [], w, h => by
    constructor
    · intro ⟨t, ht⟩
      exfalso; apply h
      injection ht with h1 h2
      rw [h1]; exact List.mem_cons_self
    · rintro ⟨t, ht⟩; cases ht
  | x :: m, y :: l, w, h => by
    rw [List.cons_append, List.cons_prefix_cons, List.cons_prefix_cons, prefix_blank m l w (fun hm => h (List.mem_cons_of_mem _ hm))]
theorem signs_no_blank : ∀ x ∈ signsL, (32 : Int) ∉ runesOf x := by
  have h : (signsL.all fun x => decide ((32 : Int) ∉ runesOf x)) = true := by decide
  intro x hx
  exact of_decide_eq_true (List.all_eq_true.1 h x hx)
theorem tokR_blank (l w : List Int) (p : Tk × List Int) (h : tokR l = some p) : tokR (l ++ 32 :: w) = some (p.1, p.2 ++ 32 :: w) := by
  match l, h with
  | r :: t, h =>
    rw [List.cons_append, tokR_cons]
    rw [tokR_cons] at h
    by_cases c1 : classP r = 1
    · rw [if_pos c1] at h ⊢
      obtain ⟨h1, tx, h2, _, h4⟩ := longR_swap _ _ h
      rw [← List.cons_append, h2, List.append_assoc]
      exact h4 _ (stops_app w h1)
    · rw [if_neg c1] at h ⊢
      by_cases c2 : classP r = 2
      · rw [if_pos c2] at h ⊢
        obtain ⟨tx, v, h1, h2, h3, h4, h5, h6⟩ := numQ_swap _ _ _ h
        rw [← List.cons_append, h1, List.append_assoc, h5]
        exact numQ_mk tx _ _ v h2 h3 h4 (fun x hx => (head_app hx).elim (h6 x) (fun hh => by have := hh.2; simp at this; subst this; decide))
      · rw [if_neg c2] at h ⊢
        by_cases c3 : r = 126
        · rw [if_pos c3] at h ⊢
          obtain ⟨tx, v, h1, h2, h3, h4, h5, h6⟩ := numQ_swap _ _ _ h
          rw [h1, List.append_assoc, h5]
          exact numQ_mk tx _ _ v h2 h3 h4 (fun x hx => (head_app hx).elim (h6 x) (fun hh => by have := hh.2; simp at this; subst this; decide))
        · rw [if_neg c3] at h ⊢
          unfold sgR at h ⊢
          have e : signsL.find? (fun x => decide (runesOf x <+: r :: (t ++ 32 :: w))) = signsL.find? (fun x => decide (runesOf x <+: r :: t)) :=
            find_congr (fun x hx => decide_eq_decide.2 (prefix_blank (runesOf x) (r :: t) w (signs_no_blank x hx)))
          rw [e]
          cases hf : signsL.find? (fun x => decide (runesOf x <+: r :: t)) with
          | none => rw [hf] at h; cases h
          | some x =>
            rw [hf] at h
            cases h
            have hp := List.find?_some hf
            obtain ⟨u, hu⟩ := of_decide_eq_true hp
            dsimp only
            rw [← List.cons_append, ← hu, List.append_assoc, List.drop_left, List.drop_left]
theorem lex_app (w : List Int) : ∀ (n : Nat) (a : List Int) (A : List (Tk × List Int)), a.length ≤ n → lex a = some A →
    lex (a ++ 32 :: w) = (lex w).map fun W => A.map (fun p => (p.1, p.2 ++ 32 :: w)) ++ W := by
  have base : lex (32 :: w) = lex w := lex_blank (by decide)
  intro n
  induction n with
  | zero =>
    intro a A hn h
    have e : a = [] := List.eq_nil_of_length_eq_zero (by omega)
    subst e
    cases h
    rw [List.nil_append, base]
    cases lex w <;> rfl
  | succ n ih =>
    intro a A hn h
    match a, hn, h with
    | [], _, h =>
      cases h
      rw [List.nil_append, base]
      cases lex w <;> rfl
    | r :: t, hn, h =>
      rw [List.length_cons] at hn
      rw [List.cons_append]
      by_cases c1 : classP r = 3
      · rw [lex_blank c1] at h ⊢
        exact ih t A (by omega) h
      · by_cases c2 : r = 40 ∧ t.head? = some 42
        · have c2' : r = 40 ∧ (t ++ 32 :: w).head? = some 42 := by
            obtain ⟨h1, h2⟩ := c2
            cases t with
            | nil => cases h2
            | cons y t => exact ⟨h1, h2⟩
          rw [lex_com c1 c2] at h
          rw [lex_com c1 c2']
          cases hc : comR (r :: t) 0 with
          | none => rw [hc] at h; cases h
          | some u =>
            rw [hc] at h
            have := comR_app (32 :: w) _ _ _ hc
            rw [List.cons_append] at this
            rw [this]
            have hu := (comR_len _ _ _ hc).1
            rw [List.length_cons] at hu
            exact ih u A (by omega) h
        · have c2' : ¬ (r = 40 ∧ (t ++ 32 :: w).head? = some 42) := fun hc => by
            cases t with
            | nil => have := hc.2; simp at this
            | cons y t => exact c2 hc
          rw [lex_tok c1 c2] at h
          rw [lex_tok c1 c2']
          cases ht : tokR (r :: t) with
          | none => rw [ht] at h; cases h
          | some p =>
            rw [ht] at h
            have := tokR_blank (r :: t) w p ht
            rw [List.cons_append] at this
            rw [this]
            have hu := (tokR_len _ _ ht).1
            rw [List.length_cons] at hu
            cases hL : lex p.2 with
            | none => simp only [hL, Option.map_none] at h; cases h
            | some L =>
              simp only [hL, Option.map_some, Option.some.injEq] at h
              subst h
              have := ih p.2 L (by omega) hL
              dsimp only
              rw [this]
              cases lex w with
              | none => rfl
              | some W => rfl
theorem signs_self : ∀ x ∈ signsL, signsL.find? (fun y => decide (runesOf y <+: runesOf x)) = some x := by
  have h : (signsL.all fun x => decide (signsL.find? (fun y => decide (runesOf y <+: runesOf x)) = some x)) = true := by decide +kernel
  intro x hx
  exact of_decide_eq_true (List.all_eq_true.1 h x hx)
/-- A token's own runes. -/
theorem tok_self (l : List Int) (p : Tk × List Int) (h : tokR l = some p) : ∃ tx, p.1.f1 = enc tx ∧ tokR tx = some (p.1, []) ∧ (∀ r ∈ tx, r ∈ l ∨ (48 ≤ r ∧ r ≤ 57) ∨ r = 126) ∧ p.1.f3 = 0 := by
  match l, h with
  | r :: t, h =>
    rw [tokR_cons] at h
    by_cases c1 : classP r = 1
    · rw [if_pos c1] at h
      obtain ⟨h1, tx, h2, h3, h4⟩ := longR_swap _ _ h
      refine ⟨tx, h3, ?_, fun x hx => .inl (by rw [h2]; exact List.mem_append_left _ hx), ?_⟩
      · have h5 := h4 [] stops_nil
        rw [List.append_nil] at h5
        have hl := (longR_len r t p (inner_letter c1) h).1
        match tx, h2, h5 with
        | [], h2, _ => rw [List.nil_append] at h2; rw [h2] at hl; omega
        | y :: tx, h2, h5 =>
          injection h2 with e1 e2
          subst e1
          rw [tokR_cons, if_pos c1]; exact h5
      · unfold longR at h
        split at h
        · cases h; rfl
        · split at h
          · cases h; rfl
          · cases h
    · rw [if_neg c1] at h
      have num : ∀ (l : List Int) (neg : Bool), numQ l neg = some p → ∃ tx, p.1.f1 = enc tx ∧ tokR tx = some (p.1, []) ∧ (∀ r' ∈ tx, r' ∈ r :: t ∨ (48 ≤ r' ∧ r' ≤ 57) ∨ r' = 126) ∧ p.1.f3 = 0 := fun l neg h => by
        obtain ⟨tx, v, h1, h2, h3, h4, h5, h6⟩ := numQ_swap _ _ _ h
        have hv := nvR_range tx 0 v h3 (by omega) (by omega) h4
        have hs : -1073741824 ≤ sgnV neg v ∧ sgnV neg v ≤ 1073741824 := by
          unfold sgnV
          split
          · rw [w64 (by omega) (by omega)]; omega
          · omega
        rw [h5]
        refine ⟨numRunes (sgnV neg v), ?_, tok_num _ hs.1 hs.2, fun x hx => ?_, rfl⟩
        · show numP _ = _
          generalize sgnV neg v = z
          unfold numP numRunes signP
          rw [enc_append]
          have hd : ∀ x ∈ (digL 20 z.natAbs).reverse, 48 ≤ x ∧ x ≤ 57 := fun x hx => digL_dig _ _ x (List.mem_reverse.1 hx)
          congr 1
          · split <;> rfl
          · generalize (digL 20 z.natAbs).reverse = d at hd
            apply ba_ext
            have : ∀ (d : List Int), (∀ x ∈ d, 48 ≤ x ∧ x ≤ 57) → (strOfNums d).data.toList = (enc d).data.toList := by
              intro d
              induction d with
              | nil => intro _; rfl
              | cons x d ihd =>
                intro hd
                have hx := hd x List.mem_cons_self
                have hg : goodR x := ⟨by omega, by omega, by omega⟩
                have e1 : (enc (x :: d)).data.toList = encodeRune x ++ (enc d).data.toList := by
                  show (Utf8.encode x ++ enc d).data.toList = _
                  rw [ba_list, encZ x hg]
                rw [e1, ← ihd (fun y hy => hd y (List.mem_cons_of_mem _ hy))]
                unfold encodeRune encodeRuneZ
                rw [if_pos (by omega)]
                simp [strOfNums]
            exact this d hd
        · unfold numRunes at hx
          rcases List.mem_append.1 hx with hx | hx
          · split at hx
            · simp at hx; exact .inr (.inr hx)
            · cases hx
          · exact .inr (.inl (digL_dig _ _ x (List.mem_reverse.1 hx)))
      by_cases c2 : classP r = 2
      · rw [if_pos c2] at h
        exact num _ _ h
      · rw [if_neg c2] at h
        by_cases c3 : r = 126
        · rw [if_pos c3] at h
          exact num _ _ h
        · rw [if_neg c3] at h
          unfold sgR at h
          cases hf : signsL.find? (fun x => decide (runesOf x <+: r :: t)) with
          | none => rw [hf] at h; cases h
          | some x =>
            rw [hf] at h
            cases h
            have hx := List.mem_of_find?_eq_some hf
            have hp := List.find?_some hf
            obtain ⟨u, hu⟩ := of_decide_eq_true hp
            refine ⟨runesOf x, (enc_runesOf x (signs_low x hx)).symm, ?_, fun y hy => .inl (by rw [← hu]; exact List.mem_append_left _ hy), rfl⟩
            have hs := signs_self x hx
            have hne : 1 ≤ (runesOf x).length := by unfold runesOf; rw [List.length_map, ba_size]; exact signs_size x hx
            match hr : runesOf x, hne with
            | y :: m, _ =>
              rw [hr] at hu hs
              injection hu with e1 e2
              subst e1
              rw [tokR_cons, if_neg c1, if_neg c2, if_neg c3]
              unfold sgR
              rw [hs]
              dsimp only
              rw [hr, List.drop_length]
end Go.Proofs.YtdeingogdblddaaDoor.RP
namespace Go.Proofs.YtdeingogdblddaaDoor.RP
set_option linter.unusedVariables false
set_option linter.unusedSimpArgs false
open Go.RowKit Go.Lib Go.Proofs.YtdeingogdblddaaDoorW.PrintWords Go.Proofs.YtdeingogdblddaaDoorW.PrintLast Go.Proofs.YtdeingogdblddaaDoorW.PrintMore Go.Proofs.YtdeingogdblddaaDoor.RP Go.Proofs.YtdeingogdblddaaDoor.RW Go.Proofs.YtdeingogdblddaaDoor.PAll
/-- From where a token stands, the rest is lexed so. -/
theorem lex_part : ∀ (n : Nat) (l : List Int) (A : List (Tk × List Int)), l.length ≤ n → lex l = some A → ∀ B p C, A = B ++ p :: C → lex p.2 = some (p :: C) ∧ p.2 ≠ [] ∧ ∃ pre, l = pre ++ p.2 := by
  intro n
  induction n with
  | zero =>
    intro l A hn h B p C hA
    have e : l = [] := List.eq_nil_of_length_eq_zero (by omega)
    subst e
    cases h
    cases B <;> cases hA
  | succ n ih =>
    intro l A hn h B p C hA
    match l, hn, h with
    | [], _, h => cases h; cases B <;> cases hA
    | r :: t, hn, h =>
      rw [List.length_cons] at hn
      have h0 := h
      by_cases c1 : classP r = 3
      · rw [lex_blank c1] at h
        obtain ⟨h1, h2, pre, h3⟩ := ih t A (by omega) h B p C hA
        exact ⟨h1, h2, r :: pre, by rw [h3]; rfl⟩
      · by_cases c2 : r = 40 ∧ t.head? = some 42
        · rw [lex_com c1 c2] at h
          cases hc : comR (r :: t) 0 with
          | none => rw [hc] at h; cases h
          | some u =>
            rw [hc] at h
            obtain ⟨hu, q, hq⟩ := comR_len _ _ _ hc
            rw [List.length_cons] at hu
            obtain ⟨h1, h2, pre, h3⟩ := ih u A (by omega) h B p C hA
            exact ⟨h1, h2, q ++ pre, by rw [hq, h3, List.append_assoc]⟩
        · rw [lex_tok c1 c2] at h
          cases ht : tokR (r :: t) with
          | none => rw [ht] at h; cases h
          | some z =>
            rw [ht] at h
            obtain ⟨hu, q, hq⟩ := tokR_len _ _ ht
            rw [List.length_cons] at hu
            cases hL : lex z.2 with
            | none => simp only [hL, Option.map_none] at h; cases h
            | some L =>
              simp only [hL, Option.map_some, Option.some.injEq] at h
              match B, hA with
              | [], hA =>
                rw [← h] at hA
                injection hA with e1 e2
                subst e1
                subst e2
                refine ⟨by rw [h0, h], by simp, [], rfl⟩
              | b :: B, hA =>
                rw [← h] at hA
                injection hA with e1 e2
                obtain ⟨h1, h2, pre, h3⟩ := ih z.2 L (by omega) hL B p C e2
                exact ⟨h1, h2, q ++ pre, by rw [hq, h3, List.append_assoc]⟩
/-- What a token is; it stands where the rest begins. -/
theorem lex_head {l : List Int} {p : Tk × List Int} {C : List (Tk × List Int)} (h : lex p.2 = some (p :: C)) (hne : p.2 ≠ []) : tokR p.2 = some (p.1, (match tokR p.2 with | some z => z.2 | none => [])) ∧ ∀ q ∈ C, ∃ pre, pre ≠ [] ∧ p.2 = pre ++ q.2 := by
  obtain ⟨tk, suf⟩ := p
  dsimp only at *
  match suf, hne, h with
  | r :: t, _, h =>
    have len : ∀ (u : List Int), u.length ≤ t.length → lex u = some ((tk, r :: t) :: C) → False := fun u hu hl => by
      obtain ⟨_, _, pre, h3⟩ := lex_part u.length u _ (Nat.le_refl _) hl [] _ _ rfl
      have := congrArg List.length h3
      rw [List.length_append, List.length_cons] at this
      omega
    by_cases c1 : classP r = 3
    · rw [lex_blank c1] at h
      exact (len t (Nat.le_refl _) h).elim
    · by_cases c2 : r = 40 ∧ t.head? = some 42
      · rw [lex_com c1 c2] at h
        cases hc : comR (r :: t) 0 with
        | none => rw [hc] at h; cases h
        | some u =>
          rw [hc] at h
          have hu := (comR_len _ _ _ hc).1
          rw [List.length_cons] at hu
          exact (len u (by omega) h).elim
      · rw [lex_tok c1 c2] at h
        cases ht : tokR (r :: t) with
        | none => rw [ht] at h; cases h
        | some z =>
          rw [ht] at h
          cases hL : lex z.2 with
          | none => simp only [hL, Option.map_none] at h; cases h
          | some L =>
            simp only [hL, Option.map_some, Option.some.injEq, List.cons.injEq, Prod.mk.injEq, and_true] at h
            obtain ⟨h1, h2⟩ := h
            subst h1
            subst h2
            refine ⟨rfl, fun q hq => ?_⟩
            obtain ⟨B, D, rfl⟩ := List.append_of_mem hq
            obtain ⟨_, _, pre, h3⟩ := lex_part z.2.length z.2 _ (Nat.le_refl _) hL B q D rfl
            obtain ⟨hu, y, hy⟩ := tokR_len _ _ ht
            have hyne : y ≠ [] := fun e => by
              rw [e, List.nil_append] at hy
              rw [hy] at hu; omega
            exact ⟨y ++ pre, by simp [hyne], by rw [hy, h3, List.append_assoc]⟩
theorem signs_class : ∀ x ∈ signsL, ∀ r, (runesOf x).head? = some r → classP r ≠ 3 := by
  have h : (signsL.all fun x => match (runesOf x).head? with | some r => decide (classP r ≠ 3) | none => true) = true := by decide
  intro x hx r hr
  have := List.all_eq_true.1 h x hx
  rw [hr] at this
  exact of_decide_eq_true this
theorem signs_open : ∀ x ∈ signsL, (runesOf x).head? = some 40 → runesOf x = [40] := by
  have h : (signsL.all fun x => if (runesOf x).head? = some 40 then decide (runesOf x = [40]) else true) = true := by decide
  intro x hx hr
  have := List.all_eq_true.1 h x hx
  rw [if_pos hr] at this
  exact of_decide_eq_true this
theorem signs_ne : ∀ x ∈ signsL, runesOf x ≠ [] := fun x hx e => by
  have := signs_size x hx
  have h2 := congrArg List.length e
  unfold runesOf at h2
  rw [List.length_map, ba_size, List.length_nil] at h2
  omega
theorem lex_one (tx : List Int) (t : Tk) (h : tokR tx = some (t, [])) : lex tx = some [(t, tx)] := by
  match tx, h with
  | r :: u, h =>
    have c1 : ¬ classP r = 3 := fun c => by
      rw [tokR_cons, if_neg (by omega), if_neg (by omega), if_neg (fun e => by rw [e] at c; exact absurd c (by decide))] at h
      unfold sgR at h
      cases hf : signsL.find? (fun x => decide (runesOf x <+: r :: u)) with
      | none => rw [hf] at h; cases h
      | some x =>
        have hx := List.mem_of_find?_eq_some hf
        have hp := List.find?_some hf
        obtain ⟨w, hw⟩ := of_decide_eq_true hp
        refine signs_class x hx r ?_ c
        cases hr : runesOf x with
        | nil => exact absurd hr (signs_ne x hx)
        | cons y m => rw [hr] at hw; injection hw with e1 e2; rw [e1]; rfl
    have c2 : ¬ (r = 40 ∧ u.head? = some 42) := fun c => by
      obtain ⟨rfl, hu⟩ := c
      rw [tokR_cons, if_neg (by decide), if_neg (by decide), if_neg (by decide)] at h
      unfold sgR at h
      cases hf : signsL.find? (fun x => decide (runesOf x <+: 40 :: u)) with
      | none => rw [hf] at h; cases h
      | some x =>
        rw [hf] at h
        have hx := List.mem_of_find?_eq_some hf
        have hp := List.find?_some hf
        obtain ⟨w, hw⟩ := of_decide_eq_true hp
        have h40 : (runesOf x).head? = some 40 := by
          cases hr : runesOf x with
          | nil => exact absurd hr (signs_ne x hx)
          | cons y m => rw [hr] at hw; injection hw with e1 e2; rw [e1]; rfl
        simp only [Option.some.injEq, Prod.mk.injEq] at h
        rw [signs_open x hx h40] at h
        have : u = [] := h.2
        rw [this] at hu; cases hu
    rw [lex_tok c1 c2, h]
    rfl
def joinR : List (List Int) → List Int
  | [] => []
  | [x] => x
  | x :: y :: l => x ++ 32 :: joinR (y :: l)
theorem lex_join : ∀ (l : List (Tk × List Int)), (∀ p ∈ l, tokR p.2 = some (p.1, [])) → ∃ A, lex (joinR (l.map (·.2))) = some A ∧ A.map (·.1) = l.map (·.1)
  | [], _ => ⟨[], rfl, rfl⟩
  | [p], h => ⟨[p], by rw [show joinR ([p].map (·.2)) = p.2 from rfl, lex_one p.2 p.1 (h p (by simp))], rfl⟩
  | p :: q :: l, h => by
    obtain ⟨A, h1, h2⟩ := lex_join (q :: l) (fun x hx => h x (List.mem_cons_of_mem _ hx))
    have h3 := lex_app (joinR ((q :: l).map (·.2))) p.2.length p.2 _ (Nat.le_refl _) (lex_one p.2 p.1 (h p List.mem_cons_self))
    rw [h1] at h3
    exact ⟨_, h3, by simp [h2]⟩
/-- Of a text's tokens: each has runes of its own, which are lexed to it. -/
theorem lex_texts (l : List Int) (A : List (Tk × List Int)) (h : lex l = some A) : ∀ p ∈ A, ∃ tx, p.1.f1 = enc tx ∧ tokR tx = some (p.1, []) ∧ (∀ r ∈ tx, r ∈ l ∨ (48 ≤ r ∧ r ≤ 57) ∨ r = 126) ∧ p.1.f3 = 0 := by
  intro p hp
  obtain ⟨B, C, rfl⟩ := List.append_of_mem hp
  obtain ⟨h1, h2, pre, h3⟩ := lex_part l.length l _ (Nat.le_refl _) h B p C rfl
  obtain ⟨h4, _⟩ := lex_head (l := l) h1 h2
  obtain ⟨tx, g1, g2, g3, g4⟩ := tok_self _ _ h4
  exact ⟨tx, g1, g2, fun r hr => (g3 r hr).imp (fun h => by rw [h3]; exact List.mem_append_right _ h) id, g4⟩
end Go.Proofs.YtdeingogdblddaaDoor.RP
